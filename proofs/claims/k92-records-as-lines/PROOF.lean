import PyProof.Rows.All
import Wide.All
import OpenK.AllK
import Wide.FinOn
import HandS.ForMost
import HandS.Style
import HandS.IsInst
import HandS.RaiseMore
import HandS.Deep
import HandS.TupAny
import HandS.Replace
import HandS.Defaults
import HandS.More
import HandS.ReplaceLit
import PyProof.Rows.StrIntSpec
import HandS.FStr
import HandS.Small
import HandS.Codes
import HandS.ReplaceList
import PyProof.StrLawsRepr
import PySem.Challenge.RW_ruleyard_k92_records_as_lines
import KE.KStateDown
import HandS.WordsExc
import HandS.Head0
import HandS.Head1
import HandS.Head2
import HandS.HeadEnd
import HandS.HeadHook1
import HandS.HeadHook2
set_option Elab.async false
set_option linter.all false
set_option maxRecDepth 100000
set_option maxHeartbeats 2000000
/-! W1: values as data, what stands in the heap for them, expressions as predicate transformers over data. -/
namespace Wy
open PySem L2

abbrev D := PyData
abbrev bxD : D := .dict [(.none, .none)]
/-- the script -/
abbrev scD : D := .dict [(.bool true, .none)]
/-- the one mutable list that a law hands about: its address, that of its digits -/
abbrev Bx := Option (Addr × Addr)
def isB (bx : Bx) (p : Addr) : Prop := ∃ a, bx = some (p, a)
def BoxOk (bx : Bx) (H : Hp) : Prop := ∀ b a, bx = some (b, a) → a ≠ b ∧ ∃ (ds : List Int) (c : Int), H b = some (.lst [.ref a, .int c]) ∧ H a = some (.lst (ds.map V.int)) ∧ 0 ≤ c
def Ext (bx : Bx) (H H' : Hp) : Prop := ∀ p o, ¬ isB bx p → H p = some o → H' p = some o
theorem Ext.refl (bx : Bx) (H : Hp) : Ext bx H H := fun _ _ _ h => h
theorem Ext.trans {bx : Bx} {H H1 H2 : Hp} (a : Ext bx H H1) (b : Ext bx H1 H2) : Ext bx H H2 := fun p o n h => b p o n (a p o n h)

/-- a tuple: one that is tracked, none of T; or one of the written part -/
def TupAt (K : PySem.W.Frag) (T : Addr → Prop) (H : Hp) (a : Addr) (xs : List V) : Prop :=
  (¬ T a ∧ H a = some (.tup xs)) ∨
    ∃ (o : Obj) (its : Array Value) (n : Nat), K.lookup a = some o ∧ o.cls = .type "tuple" ∧ o.data = .seq its n ∧ its.size ≤ sizeLine ∧ Vals xs its.toList
theorem TupAt.sq {K : PySem.W.Frag} {T : Addr → Prop} {H : Hp} {a : Addr} {xs : List V} (h : TupAt K T H a xs) : SqT K H a xs := by
  rcases h with ⟨_, h⟩ | h
  · exact SqT.of h
  · exact Or.inr h
/-- the script: a list of ints that nobody changes -/
def ScrAt (K : PySem.W.Frag) (T : Addr → Prop) (H : Hp) (a : Addr) (ns : List Int) : Prop :=
  (¬ T a ∧ ∃ o, H a = some (.frz o (.lst (ns.map V.int)))) ∨
    ∃ (o : Obj) (its : Array Value) (n : Nat), K.lookup a = some o ∧ o.cls = .type "list" ∧ o.dict = none ∧ o.data = .seq its n ∧ its.size ≤ sizeLine ∧ Vals (ns.map V.int) its.toList
theorem ScrAt.sq {K : PySem.W.Frag} {T : Addr → Prop} {H : Hp} {a : Addr} {ns : List Int} (h : ScrAt K T H a ns) : SqL K H a (ns.map V.int) := by
  rcases h with ⟨_, o, h⟩ | h
  · exact Or.inl (Or.inr ⟨o, h⟩)
  · exact Or.inr h
def keyD : Key → D
  | .inl i => .int i
  | .inr s => .str s
mutual
inductive RP (K : PySem.W.Frag) (bx : Bx) (T : Addr → Prop) (H : Hp) : V → D → Prop
  | non : RP K bx T H .non .none
  | bl (b : Bool) : RP K bx T H (.bl b) (.bool b)
  | int (i : Int) : RP K bx T H (.int i) (.int i)
  | str (x : Str) : RP K bx T H (.str x) (.str x)
  | lst {a : Addr} {xs : List V} {ds : List D} : H a = some (.lst xs) → ¬ T a → RPs K bx T H xs ds → RP K bx T H (.ref a) (.list ds)
  | tup {a : Addr} {xs : List V} {ds : List D} : TupAt K T H a xs → RPs K bx T H xs ds → RP K bx T H (.ref a) (.tuple ds)
  | dic {a : Addr} {kvs : List (Key × V)} {es : List (D × D)} : H a = some (.dK kvs) → ¬ T a → RPk K bx T H kvs es → RP K bx T H (.ref a) (.dict es)
  | box {b a : Addr} : bx = some (b, a) → RP K bx T H (.ref b) bxD
  | scr {a : Addr} {ns : List Int} : ScrAt K T H a ns → RP K bx T H (.ref a) scD
inductive RPs (K : PySem.W.Frag) (bx : Bx) (T : Addr → Prop) (H : Hp) : List V → List D → Prop
  | nil : RPs K bx T H [] []
  | cons {v : V} {vs : List V} {d : D} {ds : List D} : RP K bx T H v d → RPs K bx T H vs ds → RPs K bx T H (v :: vs) (d :: ds)
inductive RPk (K : PySem.W.Frag) (bx : Bx) (T : Addr → Prop) (H : Hp) : List (Key × V) → List (D × D) → Prop
  | nil : RPk K bx T H [] []
  | cons {k : Key} {v : V} {vs : List (Key × V)} {d : D} {ds : List (D × D)} : RP K bx T H v d → RPk K bx T H vs ds → RPk K bx T H ((k, v) :: vs) ((keyD k, d) :: ds)
end
section
variable {K : PySem.W.Frag} {bx bx' : Bx} {T T' : Addr → Prop} {H H' : Hp}
mutual
theorem RP.move (hb : ∀ p, bx = some p → bx' = some p) (k : ∀ a o, ¬ T a → H a = some o → H' a = some o ∧ ¬ T' a) : ∀ {v : V} {d : D}, RP K bx T H v d → RP K bx' T' H' v d
  | _, _, .non => .non
  | _, _, .bl b => .bl b
  | _, _, .int i => .int i
  | _, _, .str x => .str x
  | _, _, .lst h n r => .lst (k _ _ n h).1 (k _ _ n h).2 (RPs.move hb k r)
  | _, _, .tup h r => .tup (by
      rcases h with ⟨n, h⟩ | h
      · exact Or.inl ⟨(k _ _ n h).2, (k _ _ n h).1⟩
      · exact Or.inr h) (RPs.move hb k r)
  | _, _, .dic h n r => .dic (k _ _ n h).1 (k _ _ n h).2 (RPk.move hb k r)
  | _, _, .box e => .box (hb _ e)
  | _, _, .scr h => .scr (by
      rcases h with ⟨n, o, h⟩ | h
      · exact Or.inl ⟨(k _ _ n h).2, o, (k _ _ n h).1⟩
      · exact Or.inr h)
theorem RPs.move (hb : ∀ p, bx = some p → bx' = some p) (k : ∀ a o, ¬ T a → H a = some o → H' a = some o ∧ ¬ T' a) : ∀ {v : List V} {d : List D}, RPs K bx T H v d → RPs K bx' T' H' v d
  | _, _, .nil => .nil
  | _, _, .cons h r => .cons (RP.move hb k h) (RPs.move hb k r)
theorem RPk.move (hb : ∀ p, bx = some p → bx' = some p) (k : ∀ a o, ¬ T a → H a = some o → H' a = some o ∧ ¬ T' a) : ∀ {v : List (Key × V)} {d : List (D × D)}, RPk K bx T H v d → RPk K bx' T' H' v d
  | _, _, .nil => .nil
  | _, _, .cons h r => .cons (RP.move hb k h) (RPk.move hb k r)
end
theorem RPs.length : ∀ {vs : List V} {ds : List D}, RPs K bx T H vs ds → vs.length = ds.length
  | _, _, .nil => rfl
  | _, _, .cons _ r => by rw [List.length_cons, List.length_cons, RPs.length r]
theorem RPs.get : ∀ {vs : List V} {ds : List D} {i : Nat} {d : D}, RPs K bx T H vs ds → ds[i]? = some d → ∃ v, vs[i]? = some v ∧ RP K bx T H v d
  | _, _, 0, _, .cons h _, e => ⟨_, rfl, by cases e; exact h⟩
  | _, _, i + 1, _, .cons _ r, e => RPs.get (i := i) r e
theorem RPs.get' : ∀ {vs : List V} {ds : List D} {i : Nat} {v : V}, RPs K bx T H vs ds → vs[i]? = some v → ∃ d, ds[i]? = some d ∧ RP K bx T H v d
  | _, _, 0, _, .cons h _, e => ⟨_, rfl, by cases e; exact h⟩
  | _, _, i + 1, _, .cons _ r, e => RPs.get' (i := i) r e
theorem RPs.append : ∀ {vs ws : List V} {ds es : List D}, RPs K bx T H vs ds → RPs K bx T H ws es → RPs K bx T H (vs ++ ws) (ds ++ es)
  | _, _, _, _, .nil, q => q
  | _, _, _, _, .cons h r, q => .cons h (RPs.append r q)
theorem RPs.drop : ∀ {vs : List V} {ds : List D} (n : Nat), RPs K bx T H vs ds → RPs K bx T H (vs.drop n) (ds.drop n)
  | _, _, 0, h => h
  | _, _, _ + 1, .nil => .nil
  | _, _, n + 1, .cons _ r => RPs.drop n r
theorem RPs.take : ∀ {vs : List V} {ds : List D} (n : Nat), RPs K bx T H vs ds → RPs K bx T H (vs.take n) (ds.take n)
  | _, _, 0, _ => .nil
  | _, _, _ + 1, .nil => .nil
  | _, _, n + 1, .cons h r => .cons h (RPs.take n r)
theorem RPs.setAt : ∀ {vs : List V} {ds : List D} (n : Nat) {v : V} {d : D}, RPs K bx T H vs ds → RP K bx T H v d → RPs K bx T H (vs.set n v) (ds.set n d)
  | _, _, _, _, _, .nil, _ => .nil
  | _, _, 0, _, _, .cons _ r, q => .cons q r
  | _, _, n + 1, _, _, .cons h r, q => .cons h (RPs.setAt n r q)
/-! data that == can walk -/
mutual
theorem RP.dp : ∀ {v : V} {d : D}, RP K bx T H v d → d.canLay0 = true → Dp K H v d
  | _, _, .non, _ => .non
  | _, _, .bl b, _ => .bl b
  | _, _, .int i, _ => .int i
  | _, _, .str x, _ => .str x
  | _, _, .lst h _ r, e => .lst (SqL.of h) (RPs.dp r e)
  | _, _, .tup h r, e => .tup h.sq (RPs.dp r e)
  | _, _, .dic _ _ _, e => nomatch e
  | _, _, .box _, e => nomatch e
  | _, _, .scr _, e => nomatch e
theorem RPs.dp : ∀ {v : List V} {d : List D}, RPs K bx T H v d → PyData.canLayAll0 d = true → DpAll K H v d
  | _, _, .nil, _ => .nil
  | _, _, .cons h r, e => .cons (RP.dp h (Bool.and_eq_true_iff.mp e).1) (RPs.dp r (Bool.and_eq_true_iff.mp e).2)
end
end
/-! ### what stands while an expression runs -/
structure Good (bx : Bx) (T : Addr → Prop) (H : Hp) : Prop where
  box : BoxOk bx H
  bxT : ∀ b a, bx = some (b, a) → T b
  kn : ∀ p, T p → ∃ o, H p = some o
section
variable {K : PySem.W.Frag} {bx : Bx} {T : Addr → Prop} {H H' : Hp}
theorem Good.on (g : Good bx T H) (e : Ext bx H H') (b : BoxOk bx H') : Good bx T H' := ⟨b, g.bxT, fun p h => by
  by_cases q : isB bx p
  · obtain ⟨a, q⟩ := q
    obtain ⟨_, ds, c, h1, _⟩ := b p a q
    exact ⟨_, h1⟩
  · obtain ⟨o, ho⟩ := g.kn p h
    exact ⟨o, e p o q ho⟩⟩
theorem Good.ext (g : Good bx T H) (e : Ext bx H H') : ∀ a o, ¬ T a → H a = some o → H' a = some o ∧ ¬ T a := fun a o n h =>
  ⟨e a o (fun ⟨x, q⟩ => n (g.bxT a x q)) h, n⟩
theorem RP.on {v : V} {d : D} (g : Good bx T H) (e : Ext bx H H') (r : RP K bx T H v d) : RP K bx T H' v d := r.move (fun _ h => h) (g.ext e)
theorem RPs.on {v : List V} {d : List D} (g : Good bx T H) (e : Ext bx H H') (r : RPs K bx T H v d) : RPs K bx T H' v d := r.move (fun _ h => h) (g.ext e)
/-- a new object -/
theorem ext_new {p : Addr} {o : HO} (h : H p = none) : Ext bx H (upd H p o) := fun a u n e => by
  rw [upd_ne (ne_of_none e h)]
  exact e
theorem box_new {p : Addr} {o : HO} (h : H p = none) (b : BoxOk bx H) : BoxOk bx (upd H p o) := fun x a e => by
  obtain ⟨n, ds, c, h1, h2, h3⟩ := b x a e
  exact ⟨n, ds, c, (by rw [upd_ne (ne_of_none h1 h)]; exact h1), (by rw [upd_ne (ne_of_none h2 h)]; exact h2), h3⟩
theorem Good.new (g : Good bx T H) {p : Addr} (h : H p = none) : ¬ T p := fun t => by
  obtain ⟨o, e⟩ := g.kn p t
  rw [h] at e
  cases e
end
/-- the slots' data -/
abbrev DE := List (Option D)
structure RPe (K : PySem.W.Frag) (bx : Bx) (T : Addr → Prop) (H : Hp) (σ : L2.St) (δ : DE) : Prop where
  len : δ.length ≤ σ.length
  at_ : ∀ (i : Nat) d, δ[i]? = some (some d) → ∃ v, σ[i]? = some (some v) ∧ RP K bx T H v d
theorem RPe.on {K : PySem.W.Frag} {bx : Bx} {T : Addr → Prop} {H H' : Hp} {σ : L2.St} {δ : DE} (g : Good bx T H) (e : Ext bx H H') (r : RPe K bx T H σ δ) : RPe K bx T H' σ δ := ⟨r.len, fun i d h =>
  let ⟨v, h1, h2⟩ := r.at_ i d h
  ⟨v, h1, h2.on g e⟩⟩
theorem RPe.move {K : PySem.W.Frag} {bx : Bx} {T T' : Addr → Prop} {H H' : Hp} {σ : L2.St} {δ : DE} (k : ∀ a o, ¬ T a → H a = some o → H' a = some o ∧ ¬ T' a) (r : RPe K bx T H σ δ) : RPe K bx T' H' σ δ := ⟨r.len, fun i d h =>
  let ⟨v, h1, h2⟩ := r.at_ i d h
  ⟨v, h1, h2.move (fun _ z => z) k⟩⟩
/-- names stored -/
def putV : L2.St → List Nat → List V → L2.St
  | σ, i :: is, v :: vs => putV (σ.set i (some v)) is vs
  | σ, _, _ => σ
def putD : DE → List Nat → List D → DE
  | δ, i :: is, d :: ds => putD (δ.set i (some d)) is ds
  | δ, _, _ => δ
theorem RPe.set {K : PySem.W.Frag} {bx : Bx} {T : Addr → Prop} {H : Hp} {σ : L2.St} {δ : DE} (r : RPe K bx T H σ δ) (i : Nat) {v : V} {d : D} (h : RP K bx T H v d) : RPe K bx T H (σ.set i (some v)) (δ.set i (some d)) := ⟨by
    rw [List.length_set, List.length_set]; exact r.len, fun j e hj => by
    by_cases q : i = j
    · subst q
      have hl : i < δ.length := by
        have := (List.getElem?_eq_some_iff.mp hj).1
        rwa [List.length_set] at this
      rw [List.getElem?_set_self hl] at hj
      cases hj
      exact ⟨v, List.getElem?_set_self (Nat.lt_of_lt_of_le hl r.len), h⟩
    · rw [List.getElem?_set_ne q] at hj
      rw [List.getElem?_set_ne q]
      exact r.at_ j e hj⟩
theorem RPe.wipe {K : PySem.W.Frag} {bx : Bx} {T : Addr → Prop} {H : Hp} {σ : L2.St} {δ : DE} (r : RPe K bx T H σ δ) (i : Nat) (o : Option V) : RPe K bx T H (σ.set i o) (δ.set i none) := ⟨by
    rw [List.length_set, List.length_set]; exact r.len, fun j e hj => by
    by_cases q : i = j
    · subst q
      have hl : i < δ.length := by
        have := (List.getElem?_eq_some_iff.mp hj).1
        rwa [List.length_set] at this
      rw [List.getElem?_set_self hl] at hj
      cases hj
    · rw [List.getElem?_set_ne q] at hj
      rw [List.getElem?_set_ne q]
      exact r.at_ j e hj⟩
theorem RPe.put {K : PySem.W.Frag} {bx : Bx} {T : Addr → Prop} {H : Hp} {is : List Nat} : ∀ {σ : L2.St} {δ : DE} {vs : List V} {ds : List D}, RPe K bx T H σ δ → RPs K bx T H vs ds → RPe K bx T H (putV σ is vs) (putD δ is ds) := by
  induction is with
  | nil => intro σ δ vs ds r q; cases q <;> exact r
  | cons i is ih =>
    intro σ δ vs ds r q
    cases q with
    | nil => exact r
    | cons h q => exact ih (r.set i h) q
abbrev EW := DE → (D → Prop) → Prop
abbrev TW := DE → (Bool → Prop) → Prop
abbrev AW := DE → (List D → Prop) → Prop
/-- what an end wants of a value -/
def Post (K : PySem.W.Frag) (bx : Bx) (T : Addr → Prop) (H : Hp) (Qd : D → Prop) (Q : VK) : Prop := ∀ d v H', Ext bx H H' → BoxOk bx H' → RP K bx T H' v d → Qd d → Q v H'
def SndE (K : PySem.W.Frag) (t : TE) (w : EW) : Prop := ∀ bx T σ H δ (Qd : D → Prop) (Q : VK), Good bx T H → RPe K bx T H σ δ → Post K bx T H Qd Q → w δ Qd → t σ H Q
def SndT (K : PySem.W.Frag) (t : TT) (w : TW) : Prop := ∀ bx T σ H δ (Qd : Bool → Prop) (Q : Bool → Hp → Prop), Good bx T H → RPe K bx T H σ δ → (∀ b H', Ext bx H H' → BoxOk bx H' → Qd b → Q b H') → w δ Qd → t σ H Q
def SndA (K : PySem.W.Frag) (t : TA) (w : AW) : Prop := ∀ bx T σ H δ (Qd : List D → Prop) (Q : List V → Hp → Prop), Good bx T H → RPe K bx T H σ δ → (∀ ds vs H', Ext bx H H' → BoxOk bx H' → RPs K bx T H' vs ds → Qd ds → Q vs H') → w δ Qd → t σ H Q
/-- by values: one, two, several -/
abbrev O1 := D → (D → Prop) → Prop
abbrev O2 := D → D → (D → Prop) → Prop
abbrev OL := List D → (D → Prop) → Prop
def Snd1 (K : PySem.W.Frag) (r : V → Hp → VK → Prop) (f : O1) : Prop := ∀ bx T H x dx (Qd : D → Prop) (Q : VK), Good bx T H → RP K bx T H x dx → Post K bx T H Qd Q → f dx Qd → r x H Q
def Snd2 (K : PySem.W.Frag) (r : R2) (f : O2) : Prop := ∀ bx T H x y dx dy (Qd : D → Prop) (Q : VK), Good bx T H → RP K bx T H x dx → RP K bx T H y dy → Post K bx T H Qd Q → f dx dy Qd → r x y H Q
def SndL (K : PySem.W.Frag) (r : List V → Hp → VK → Prop) (f : OL) : Prop := ∀ bx T H xs ds (Qd : D → Prop) (Q : VK), Good bx T H → RPs K bx T H xs ds → Post K bx T H Qd Q → f ds Qd → r xs H Q
/-- a method: the receiver, the arguments -/
def SndM (K : PySem.W.Frag) (r : V → List V → Hp → VK → Prop) (f : D → OL) : Prop := ∀ bx T H x xs dx ds (Qd : D → Prop) (Q : VK), Good bx T H → RP K bx T H x dx → RPs K bx T H xs ds → Post K bx T H Qd Q → f dx ds Qd → r x xs H Q
section
variable {K : PySem.W.Frag} {bx : Bx} {T : Addr → Prop} {H H1 H' : Hp}
theorem Post.on {Qd : D → Prop} {Q : VK} (e : Ext bx H H1) (p : Post K bx T H Qd Q) : Post K bx T H1 Qd Q := fun d v H' a b r q => p d v H' (e.trans a) b r q
theorem Post.here {Qd : D → Prop} {Q : VK} {d : D} {v : V} (g : Good bx T H) (p : Post K bx T H Qd Q) (r : RP K bx T H v d) (q : Qd d) : Q v H := p d v H (Ext.refl bx H) g.box r q
/-- a new list, a new tuple -/
theorem Post.lst {Qd : D → Prop} {Q : VK} {ds : List D} {vs : List V} {a : Addr} (g : Good bx T H) (p : Post K bx T H Qd Q) (h : H a = none) (r : RPs K bx T H vs ds) (q : Qd (.list ds)) : Q (.ref a) (upd H a (.lst vs)) :=
  p _ _ _ (ext_new h) (box_new h g.box) (.lst upd_same (g.new h) (r.on g (ext_new h))) q
theorem Post.tup {Qd : D → Prop} {Q : VK} {ds : List D} {vs : List V} {a : Addr} (g : Good bx T H) (p : Post K bx T H Qd Q) (h : H a = none) (r : RPs K bx T H vs ds) (q : Qd (.tuple ds)) : Q (.ref a) (upd H a (.tup vs)) :=
  p _ _ _ (ext_new h) (box_new h g.box) (.tup (.inl ⟨g.new h, upd_same⟩) (r.on g (ext_new h))) q
end

/-! ### expressions -/
def wVar (i : Nat) : EW := fun δ Q => match δ[i]? with
  | some (some d) => Q d
  | _ => False
def wC (d : D) : EW := fun _ Q => Q d
def wOp (f : O2) (a b : EW) : EW := fun δ Q => a δ fun x => b δ fun y => f x y Q
def wUn (f : O1) (a : EW) : EW := fun δ Q => a δ fun x => f x Q
def wIf (t : TW) (a b : EW) : EW := fun δ Q => t δ fun c => if c = true then a δ Q else b δ Q
def wNil : AW := fun _ Q => Q []
def wCons (a : EW) (r : AW) : AW := fun δ Q => a δ fun x => r δ fun xs => Q (x :: xs)
def wTup (a : AW) : EW := fun δ Q => a δ fun xs => xs.length ≤ sizeLine ∧ Q (.tuple xs)
def wLst (a : AW) : EW := fun δ Q => a δ fun xs => xs.length ≤ sizeLine ∧ Q (.list xs)
def wCall (f : OL) (a : AW) : EW := fun δ Q => a δ fun xs => f xs Q
def wMeth (f : D → OL) (o : EW) (a : AW) : EW := fun δ Q => o δ fun x => a δ fun xs => f x xs Q
/-- tests -/
def bW (e : EW) : TW := fun δ Q => e δ fun d => match d with
  | .bool b => Q b
  | _ => False
def wAnd (t u : TW) : TW := fun δ Q => t δ fun c => if c = true then u δ Q else Q false
def wOr (t u : TW) : TW := fun δ Q => t δ fun c => if c = true then Q true else u δ Q
def wNot (t : TW) : TW := fun δ Q => t δ fun c => Q (!c)
def wAndV (a b : EW) : EW := fun δ Q => a δ fun d => match d with
  | .bool c => if c = true then b δ Q else Q (.bool false)
  | _ => False
def wOrV (a b : EW) : EW := fun δ Q => a δ fun d => match d with
  | .bool c => if c = true then Q (.bool true) else b δ Q
  | _ => False
def wNotV (a : EW) : EW := fun δ Q => a δ fun d => match d with
  | .bool c => Q (.bool (!c))
  | _ => False
section
variable {K : PySem.W.Frag} {ta tb : TE} {wa wb : EW} {tt tu : TT} {wt wu : TW} {tr : TA} {wr : AW}
theorem snd_var (i : Nat) : SndE K (tVar i) (wVar i) := fun bx T σ H δ Qd Q g r p h => by
  unfold wVar at h
  split at h
  · rename_i d e
    obtain ⟨v, hv, hr⟩ := r.at_ i d e
    exact ⟨v, hv, p.here g hr h⟩
  · exact h.elim
theorem snd_c {v : V} {d : D} (hr : ∀ bx T H, RP K bx T H v d) : SndE K (tC v) (wC d) := fun bx T σ H δ Qd Q g r p h => p.here g (hr bx T H) h
theorem snd_op {r : R2} {f : O2} (hr : Snd2 K r f) (ha : SndE K ta wa) (hb : SndE K tb wb) : SndE K (tOp r ta tb) (wOp f wa wb) := fun bx T σ H δ Qd Q g e p h =>
  ha bx T σ H δ _ _ g e (fun dx x H1 e1 b1 r1 h1 => hb bx T σ H1 δ _ _ (g.on e1 b1) (e.on g e1) (fun dy y H2 e2 b2 r2 h2 =>
    hr bx T H2 x y dx dy Qd Q ((g.on e1 b1).on e2 b2) (r1.on (g.on e1 b1) e2) r2 (p.on (e1.trans e2)) h2) h1) h
theorem snd_un {r : V → Hp → VK → Prop} {f : O1} (hr : Snd1 K r f) (ha : SndE K ta wa) : SndE K (tUn r ta) (wUn f wa) := fun bx T σ H δ Qd Q g e p h =>
  ha bx T σ H δ _ _ g e (fun dx x H1 e1 b1 r1 h1 => hr bx T H1 x dx Qd Q (g.on e1 b1) r1 (p.on e1) h1) h
theorem snd_if (ht : SndT K tt wt) (ha : SndE K ta wa) (hb : SndE K tb wb) : SndE K (tIf tt ta tb) (wIf wt wa wb) := fun bx T σ H δ Qd Q g e p h =>
  ht bx T σ H δ _ _ g e (fun c H1 e1 b1 h1 => by
    cases c with
    | true => exact ha bx T σ H1 δ _ _ (g.on e1 b1) (e.on g e1) (p.on e1) h1
    | false => exact hb bx T σ H1 δ _ _ (g.on e1 b1) (e.on g e1) (p.on e1) h1) h
theorem snd_nil : SndA K tNil wNil := fun bx T σ H δ Qd Q g e p h => p [] [] H (Ext.refl _ _) g.box .nil h
theorem snd_cons (ha : SndE K ta wa) (hr : SndA K tr wr) : SndA K (tCons ta tr) (wCons wa wr) := fun bx T σ H δ Qd Q g e p h =>
  ha bx T σ H δ _ _ g e (fun dx x H1 e1 b1 r1 h1 => hr bx T σ H1 δ _ _ (g.on e1 b1) (e.on g e1) (fun ds vs H2 e2 b2 r2 h2 =>
    p _ _ H2 (e1.trans e2) b2 (.cons (r1.on (g.on e1 b1) e2) r2) h2) h1) h
theorem snd_tup (hr : SndA K tr wr) : SndE K (tTup tr) (wTup wr) := fun bx T σ H δ Qd Q g e p h =>
  hr bx T σ H δ _ _ g e (fun ds vs H1 e1 b1 r1 h1 => ⟨by rw [r1.length]; exact h1.1, fun a na => (p.on e1).tup (g.on e1 b1) na r1 h1.2⟩) h
theorem snd_lst (hr : SndA K tr wr) : SndE K (tLst tr) (wLst wr) := fun bx T σ H δ Qd Q g e p h =>
  hr bx T σ H δ _ _ g e (fun ds vs H1 e1 b1 r1 h1 => ⟨by rw [r1.length]; exact h1.1, fun a na => (p.on e1).lst (g.on e1 b1) na r1 h1.2⟩) h
theorem snd_cb {r : List V → Hp → VK → Prop} {f : OL} (hf : SndL K r f) (hr : SndA K tr wr) : SndE K (tCB r tr) (wCall f wr) := fun bx T σ H δ Qd Q g e p h =>
  hr bx T σ H δ _ _ g e (fun ds vs H1 e1 b1 r1 h1 => hf bx T H1 vs ds Qd Q (g.on e1 b1) r1 (p.on e1) h1) h
theorem snd_test (ha : SndE K ta wa) : SndT K (tTest ta) (bW wa) := fun bx T σ H δ Qd Q g e p h =>
  ha bx T σ H δ _ _ g e (fun d x H1 e1 b1 r1 h1 => by
    cases r1 with
    | bl b => exact ⟨b, rfl, p b H1 e1 b1 h1⟩
    | _ => exact False.elim h1) h
theorem snd_tB (ha : SndE K ta wa) : SndT K (tB ta) (bW wa) := fun bx T σ H δ Qd Q g e p h =>
  ha bx T σ H δ _ _ g e (fun d x H1 e1 b1 r1 h1 => by
    cases r1 with
    | bl b => exact ⟨b, rfl, p b H1 e1 b1 h1⟩
    | _ => exact False.elim h1) h
theorem snd_and (h1 : SndT K tt wt) (h2 : SndT K tu wu) : SndT K (tAnd tt tu) (wAnd wt wu) := fun bx T σ H δ Qd Q g e p h =>
  h1 bx T σ H δ _ _ g e (fun c H1 e1 b1 q => by
    cases c with
    | true => exact h2 bx T σ H1 δ _ _ (g.on e1 b1) (e.on g e1) (fun b H2 e2 b2 q2 => p b H2 (e1.trans e2) b2 q2) q
    | false => exact p false H1 e1 b1 q) h
theorem snd_or (h1 : SndT K tt wt) (h2 : SndT K tu wu) : SndT K (tOr tt tu) (wOr wt wu) := fun bx T σ H δ Qd Q g e p h =>
  h1 bx T σ H δ _ _ g e (fun c H1 e1 b1 q => by
    cases c with
    | false => exact h2 bx T σ H1 δ _ _ (g.on e1 b1) (e.on g e1) (fun b H2 e2 b2 q2 => p b H2 (e1.trans e2) b2 q2) q
    | true => exact p true H1 e1 b1 q) h
theorem snd_not (h1 : SndT K tt wt) : SndT K (tNot tt) (wNot wt) := fun bx T σ H δ Qd Q g e p h => h1 bx T σ H δ _ _ g e (fun c H1 e1 b1 q => p _ H1 e1 b1 q) h
theorem snd_andV (ha : SndE K ta wa) (hb : SndE K tb wb) : SndE K (tAndV ta tb) (wAndV wa wb) := fun bx T σ H δ Qd Q g e p h =>
  ha bx T σ H δ _ _ g e (fun d x H1 e1 b1 r1 h1 => by
    cases r1 with
    | bl b =>
      refine ⟨b, rfl, ?_⟩
      cases b with
      | true => exact hb bx T σ H1 δ _ _ (g.on e1 b1) (e.on g e1) (p.on e1) h1
      | false => exact p _ _ H1 e1 b1 (.bl false) h1
    | _ => exact False.elim h1) h
theorem snd_orV (ha : SndE K ta wa) (hb : SndE K tb wb) : SndE K (tOrV ta tb) (wOrV wa wb) := fun bx T σ H δ Qd Q g e p h =>
  ha bx T σ H δ _ _ g e (fun d x H1 e1 b1 r1 h1 => by
    cases r1 with
    | bl b =>
      refine ⟨b, rfl, ?_⟩
      cases b with
      | false => exact hb bx T σ H1 δ _ _ (g.on e1 b1) (e.on g e1) (p.on e1) h1
      | true => exact p _ _ H1 e1 b1 (.bl true) h1
    | _ => exact False.elim h1) h
theorem snd_notV (ha : SndE K ta wa) : SndE K (tNotV ta) (wNotV wa) := fun bx T σ H δ Qd Q g e p h =>
  ha bx T σ H δ _ _ g e (fun d x H1 e1 b1 r1 h1 => by
    cases r1 with
    | bl b => exact ⟨b, rfl, p _ _ H1 e1 b1 (.bl _) h1⟩
    | _ => exact False.elim h1) h
end
end Wy

set_option Elab.async false
set_option linter.all false
set_option maxRecDepth 100000
set_option maxHeartbeats 2000000
/-! W2: the operators by data, the rules that pair a reading with its data. -/
namespace Wy
open PySem L2

structure PEW (X : Cx) (e : Expr) (t : TE) (w : EW) : Prop where
  pe : PE X e t
  sn : SndE X.K t w
structure PTW (X : Cx) (e : Expr) (t : TT) (w : TW) : Prop where
  pt : PT X e t
  sn : SndT X.K t w
structure PWW (X : Cx) (e : Expr) (t : TT) (w : TW) : Prop where
  pw : PW X e t
  sn : SndT X.K t w
structure PAW (X : Cx) (es : List Expr) (t : TA) (w : AW) : Prop where
  pa : PA X es t
  sn : SndA X.K t w
structure OpW (X : Cx) (f : Value → Value → Sem Value) (r : R2) (o : O2) : Prop where
  op : OpR X f r
  sn : Snd2 X.K r o

/-! ### + - * // % ** -/
def oAdd : O2 := fun x y Q => match x, y with
  | .int i, .int j => Q (.int (i + j))
  | .str a, .str b => a.length + b.length ≤ sizeLine ∧ Q (.str (a ++ b))
  | .list a, .list b => a.length + b.length ≤ sizeLine ∧ Q (.list (a ++ b))
  | .tuple a, .tuple b => a.length + b.length ≤ sizeLine ∧ Q (.tuple (a ++ b))
  | _, _ => False
def oSub : O2 := fun x y Q => match x, y with
  | .int i, .int j => Q (.int (i - j))
  | _, _ => False
def oMul : O2 := fun x y Q => match x, y with
  | .int i, .int j => CMul i j ∧ Q (.int (i * j))
  | _, _ => False
def oDiv : O2 := fun x y Q => match x, y with
  | .int i, .int j => CDiv i j ∧ Q (.int (i / j))
  | _, _ => False
def oMod : O2 := fun x y Q => match x, y with
  | .int i, .int j => 0 < j ∧ Q (.int (i % j))
  | _, _ => False
def oPow : O2 := fun x y Q => match x, y with
  | .int i, .int j => CPow i j ∧ Q (.int (i ^ j.toNat))
  | _, _ => False
def rAddW (K : PySem.W.Frag) : R2 := fun x y H Q => (((rI0 fun i j => .int (i + j)) x y H Q ∨ (∃ i j, x = .str i ∧ y = .str j ∧ i.length + j.length ≤ sizeLine ∧ Q (.str (i ++ j)) H)) ∨ rCat x y H Q) ∨ rCatA K x y H Q
section
variable {X : Cx}
theorem ow_add : OpW X (binaryOp .Add) (rAddW X.K) oAdd where
  op := ((op_add.or op_add_str).or op_cat).or op_catA
  sn := fun bx T H x y dx dy Qd Q g rx ry p h => by
    cases rx with
    | int i =>
      cases ry with
      | int j => exact Or.inl (Or.inl (Or.inl ⟨i, j, rfl, rfl, p.here g (.int _) h⟩))
      | _ => exact False.elim h
    | str a =>
      cases ry with
      | str b => exact Or.inl (Or.inl (Or.inr ⟨a, b, rfl, rfl, h.1, p.here g (.str _) h.2⟩))
      | _ => exact False.elim h
    | lst ha na ra =>
      cases ry with
      | lst hb nb rb => exact Or.inl (Or.inr ⟨_, _, _, _, rfl, rfl, ha, hb, by rw [ra.length, rb.length]; exact h.1, fun q hq => p.lst g hq (ra.append rb) h.2⟩)
      | _ => exact False.elim h
    | tup ha ra =>
      cases ry with
      | tup hb rb =>
        refine Or.inr ⟨_, _, _, _, rfl, rfl, ha.sq, hb.sq, by rw [ra.length, rb.length]; exact h.1, fun e => ?_, fun _ e => ?_, fun _ _ q hq => p.tup g hq (ra.append rb) h.2⟩
        · have e0 := ra.length
          rw [e] at e0
          rw [List.length_eq_zero_iff.mp e0.symm] at h
          exact p.here g (.tup hb rb) h.2
        · have e0 := rb.length
          rw [e] at e0
          rw [List.length_eq_zero_iff.mp e0.symm] at h
          have h2 := h.2
          rw [List.append_nil] at h2
          exact p.here g (.tup ha ra) h2
      | _ => exact False.elim h
    | _ => cases ry <;> exact False.elim h
theorem snd_I0 {g : Int → Int → Int} {o : O2} (ho : ∀ x y Q, o x y Q → ∃ i j, x = .int i ∧ y = .int j ∧ Q (.int (g i j))) : Snd2 X.K (rI0 fun i j => .int (g i j)) o := fun bx T H x y dx dy Qd Q gd rx ry p h => by
  obtain ⟨i, j, rfl, rfl, q⟩ := ho _ _ _ h
  cases rx
  cases ry
  exact ⟨i, j, rfl, rfl, p.here gd (.int _) q⟩
theorem snd_IC {C : Int → Int → Prop} {g : Int → Int → Int} {o : O2} (ho : ∀ x y Q, o x y Q → ∃ i j, x = .int i ∧ y = .int j ∧ C i j ∧ Q (.int (g i j))) : Snd2 X.K (rI C fun i j => .int (g i j)) o := fun bx T H x y dx dy Qd Q gd rx ry p h => by
  obtain ⟨i, j, rfl, rfl, c, q⟩ := ho _ _ _ h
  cases rx
  cases ry
  exact ⟨i, j, rfl, rfl, c, p.here gd (.int _) q⟩
theorem ow_sub : OpW X (binaryOp .Sub) (rI0 fun i j => .int (i - j)) oSub := ⟨op_sub, snd_I0 fun x y Q h => by
  unfold oSub at h; split at h
  · exact ⟨_, _, rfl, rfl, h⟩
  · exact h.elim⟩
theorem ow_mul : OpW X (binaryOp .Mult) (rI CMul fun i j => .int (i * j)) oMul := ⟨op_mul, snd_IC fun x y Q h => by
  unfold oMul at h; split at h
  · exact ⟨_, _, rfl, rfl, h⟩
  · exact h.elim⟩
theorem ow_div : OpW X (binaryOp .FloorDiv) (rI CDiv fun i j => .int (i / j)) oDiv := ⟨op_fdiv, snd_IC fun x y Q h => by
  unfold oDiv at h; split at h
  · exact ⟨_, _, rfl, rfl, h⟩
  · exact h.elim⟩
theorem ow_mod : OpW X (binaryOp .Mod) (rI (fun _ j => 0 < j) fun i j => .int (i % j)) oMod := ⟨op_mod, snd_IC fun x y Q h => by
  unfold oMod at h; split at h
  · exact ⟨_, _, rfl, rfl, h⟩
  · exact h.elim⟩
theorem ow_pow : OpW X (binaryOp .Pow) (rI CPow fun i j => .int (i ^ j.toNat)) oPow := ⟨op_pow, snd_IC fun x y Q h => by
  unfold oPow at h; split at h
  · exact ⟨_, _, rfl, rfl, h⟩
  · exact h.elim⟩
/-- in place: ints and texts -/
def oIadd : O2 := fun x y Q => match x, y with
  | .int i, .int j => Q (.int (i + j))
  | .str a, .str b => a.length + b.length ≤ sizeLine ∧ Q (.str (a ++ b))
  | _, _ => False
def rIaddW : R2 := fun x y H Q => (rI0 fun i j => .int (i + j)) x y H Q ∨ (∃ i j, x = .str i ∧ y = .str j ∧ i.length + j.length ≤ sizeLine ∧ Q (.str (i ++ j)) H)
theorem ow_iadd : OpW X (inplaceOp .Add) rIaddW oIadd where
  op := iop_add.or iop_add_str
  sn := fun bx T H x y dx dy Qd Q g rx ry p h => by
    cases rx with
    | int i =>
      cases ry with
      | int j => exact Or.inl ⟨i, j, rfl, rfl, p.here g (.int _) h⟩
      | _ => exact False.elim h
    | str a =>
      cases ry with
      | str b => exact Or.inr ⟨a, b, rfl, rfl, h.1, p.here g (.str _) h.2⟩
      | _ => exact False.elim h
    | _ => cases ry <;> exact False.elim h
theorem ow_isub : OpW X (inplaceOp .Sub) (rI0 fun i j => .int (i - j)) oSub := ⟨iop_sub, snd_I0 fun x y Q h => by
  unfold oSub at h; split at h
  · exact ⟨_, _, rfl, rfl, h⟩
  · exact h.elim⟩
end

/-! ### comparisons -/
/-- == needs no look at sizes -/
def scalD : D → D → Bool
  | .none, .none => true | .none, .int _ => true | .int _, .none => true | .none, .bool _ => true | .bool _, .none => true | .none, .str _ => true | .str _, .none => true
  | .int _, .int _ => true | .bool _, .bool _ => true | .str _, .str _ => true
  | .int _, .str _ => true | .str _, .int _ => true | .bool _, .str _ => true | .str _, .bool _ => true
  | _, _ => false
def eqOk (x y : D) : Prop := scalD x y = true ∨ (SeqAt.shaped x = true ∧ SeqAt.shaped y = true)
def oEq : O2 := fun x y Q => eqOk x y ∧ Q (.bool (PyData.eqv x y))
def oNe : O2 := fun x y Q => eqOk x y ∧ Q (.bool (!PyData.eqv x y))
def rEqW (K : PySem.W.Frag) : R2 := fun x y H Q => rEq x y H Q ∨ rEqD K x y H Q
def rNeW (K : PySem.W.Frag) : R2 := fun x y H Q => rNe x y H Q ∨ rNeD K x y H Q
theorem dec_beq_int (i j : Int) : decide (V.int i = V.int j) = (i == j) := dec_int
theorem scal_of {K : PySem.W.Frag} {bx : Bx} {T : Addr → Prop} {H : Hp} {x y : V} {dx dy : D} (rx : RP K bx T H x dx) (ry : RP K bx T H y dy) (h : scalD dx dy = true) : scal x y = true ∧ decide (x = y) = PyData.eqv dx dy := by
  cases rx <;> cases ry <;> first
    | exact ⟨rfl, rfl⟩
    | exact ⟨rfl, dec_int⟩
    | exact ⟨rfl, dec_bl⟩
    | exact ⟨rfl, dec_str⟩
    | exact Bool.noConfusion h
    | exact ⟨rfl, by simp [PyData.eqv]⟩
section
variable {X : Cx}
theorem ow_eq (hu : X.A.units + 64 < cLine) : OpW X (compareOp .Eq) (rEqW X.K) oEq where
  op := op_eq.or (op_eqD hu)
  sn := fun bx T H x y dx dy Qd Q g rx ry p h => by
    rcases h with ⟨h | ⟨h1, h2⟩, q⟩
    · obtain ⟨a, b⟩ := scal_of rx ry h
      exact Or.inl ⟨a, p.here g (by rw [b]; exact .bl _) q⟩
    · exact Or.inr ⟨dx, dy, rx.dp (SeqAt.canLay_of_shaped h1), ry.dp (SeqAt.canLay_of_shaped h2), h1, h2, p.here g (.bl _) q⟩
theorem ow_ne (hu : X.A.units + 64 < cLine) : OpW X (compareOp .NotEq) (rNeW X.K) oNe where
  op := op_ne.or (op_neD hu)
  sn := fun bx T H x y dx dy Qd Q g rx ry p h => by
    rcases h with ⟨h | ⟨h1, h2⟩, q⟩
    · obtain ⟨a, b⟩ := scal_of rx ry h
      exact Or.inl ⟨a, p.here g (by rw [b]; exact .bl _) q⟩
    · exact Or.inr ⟨dx, dy, rx.dp (SeqAt.canLay_of_shaped h1), ry.dp (SeqAt.canLay_of_shaped h2), h1, h2, p.here g (.bl _) q⟩
/-- < of ints, of texts -/
def ltS (a b : Str) : Bool := decide (a.cps.toList < b.cps.toList)
def oLt : O2 := fun x y Q => match x, y with
  | .int i, .int j => Q (.bool (decide (i < j)))
  | .str a, .str b => Q (.bool (ltS a b))
  | _, _ => False
def oLe : O2 := fun x y Q => match x, y with
  | .int i, .int j => Q (.bool (decide (i ≤ j)))
  | .str a, .str b => Q (.bool (!ltS b a))
  | _, _ => False
def oGt : O2 := fun x y Q => match x, y with
  | .int i, .int j => Q (.bool (decide (j < i)))
  | .str a, .str b => Q (.bool (ltS b a))
  | _, _ => False
def oGe : O2 := fun x y Q => match x, y with
  | .int i, .int j => Q (.bool (decide (j ≤ i)))
  | .str a, .str b => Q (.bool (!ltS a b))
  | _, _ => False
def rCmpW (f : Int → Int → Bool) (g : Str → Str → Bool) : R2 := fun x y H Q => (rI0 fun i j => .bl (f i j)) x y H Q ∨ (∃ i j, x = .str i ∧ y = .str j ∧ Q (.bl (g i j)) H)
theorem snd_cmp {f : Int → Int → Bool} {g : Str → Str → Bool} {o : O2} (ho : ∀ x y Q, o x y Q → (∃ i j, x = .int i ∧ y = .int j ∧ Q (.bool (f i j))) ∨ (∃ i j, x = .str i ∧ y = .str j ∧ Q (.bool (g i j)))) : Snd2 X.K (rCmpW f g) o :=
  fun bx T H x y dx dy Qd Q gd rx ry p h => by
  rcases ho _ _ _ h with ⟨i, j, rfl, rfl, q⟩ | ⟨i, j, rfl, rfl, q⟩
  · cases rx
    cases ry
    exact Or.inl ⟨i, j, rfl, rfl, p.here gd (.bl _) q⟩
  · cases rx
    cases ry
    exact Or.inr ⟨i, j, rfl, rfl, p.here gd (.bl _) q⟩
theorem ow_lt : OpW X (compareOp .Lt) (rCmpW (fun i j => decide (i < j)) fun a b => decide (a.cps.toList < b.cps.toList)) oLt := ⟨op_lt.or op_lt_str, snd_cmp fun x y Q h => by
  unfold oLt at h; split at h
  · exact Or.inl ⟨_, _, rfl, rfl, h⟩
  · exact Or.inr ⟨_, _, rfl, rfl, h⟩
  · exact h.elim⟩
theorem ow_le : OpW X (compareOp .LtE) (rCmpW (fun i j => decide (i ≤ j)) fun a b => !decide (b.cps.toList < a.cps.toList)) oLe := ⟨op_le.or op_le_str, snd_cmp fun x y Q h => by
  unfold oLe at h; split at h
  · exact Or.inl ⟨_, _, rfl, rfl, h⟩
  · exact Or.inr ⟨_, _, rfl, rfl, h⟩
  · exact h.elim⟩
theorem ow_gt : OpW X (compareOp .Gt) (rCmpW (fun i j => decide (j < i)) fun a b => decide (b.cps.toList < a.cps.toList)) oGt := ⟨op_gt.or op_gt_str, snd_cmp fun x y Q h => by
  unfold oGt at h; split at h
  · exact Or.inl ⟨_, _, rfl, rfl, h⟩
  · exact Or.inr ⟨_, _, rfl, rfl, h⟩
  · exact h.elim⟩
theorem ow_ge : OpW X (compareOp .GtE) (rCmpW (fun i j => decide (j ≤ i)) fun a b => !decide (a.cps.toList < b.cps.toList)) oGe := ⟨op_ge.or op_ge_str, snd_cmp fun x y Q h => by
  unfold oGe at h; split at h
  · exact Or.inl ⟨_, _, rfl, rfl, h⟩
  · exact Or.inr ⟨_, _, rfl, rfl, h⟩
  · exact h.elim⟩
/-! in, not in -/
def subIn (j i : Str) : Bool := !(Builtin.Str.occurrences j i 0 j.length 1).isEmpty
def flatD : D → Bool
  | .none => true
  | .bool _ => true
  | .int _ => true
  | .str _ => true
  | _ => false
def oInB (neg : Bool) : O2 := fun x y Q => match y with
  | .str z => (match x with
    | .str c => Q (.bool (if neg then !subIn z c else subIn z c))
    | _ => False)
  | .list ds => SeqAt.shaped x = true ∧ SeqAt.shaped (.list ds) = true ∧ Q (.bool (if neg then !ds.any (fun z => PyData.eqv z x) else ds.any fun z => PyData.eqv z x))
  | .tuple ds => flatD x = true ∧ ds.all flatD = true ∧ Q (.bool (if neg then !ds.any (fun z => PyData.eqv z x) else ds.any fun z => PyData.eqv z x))
  | _ => False
theorem flat_of {K : PySem.W.Frag} {bx : Bx} {T : Addr → Prop} {H : Hp} {x : V} {d : D} (r : RP K bx T H x d) (f : flatD d = true) : flatV x = true := by
  cases r <;> first | rfl | exact Bool.noConfusion f
theorem eqv_of {K : PySem.W.Frag} {bx : Bx} {T : Addr → Prop} {H : Hp} {x y : V} {d e : D} (r : RP K bx T H x d) (q : RP K bx T H y e) (f : flatD d = true) (f' : flatD e = true) : eqV x y = PyData.eqv d e := by
  cases r <;> first | exact Bool.noConfusion f | (cases q <;> first | exact Bool.noConfusion f' | rfl)
theorem flats_of {K : PySem.W.Frag} {bx : Bx} {T : Addr → Prop} {H : Hp} : ∀ {xs : List V} {ds : List D}, RPs K bx T H xs ds → ds.all flatD = true → xs.all flatV = true
  | _, _, .nil, _ => rfl
  | _, _, .cons h r, f => by
    rw [List.all_cons, Bool.and_eq_true] at f ⊢
    exact ⟨flat_of h f.1, flats_of r f.2⟩
theorem inV_of {K : PySem.W.Frag} {bx : Bx} {T : Addr → Prop} {H : Hp} {x : V} {d : D} (rx : RP K bx T H x d) (f : flatD d = true) : ∀ {xs : List V} {ds : List D}, RPs K bx T H xs ds → ds.all flatD = true → inV x xs = ds.any fun z => PyData.eqv z d
  | _, _, .nil, _ => rfl
  | _, _, .cons h r, g => by
    rw [List.all_cons, Bool.and_eq_true] at g
    show (eqV _ x || inV x _) = (PyData.eqv _ d || _)
    rw [eqv_of h rx g.1 f, inV_of rx f r g.2]
def rInW (K : PySem.W.Frag) : R2 := fun x y H Q => ((∃ i j, x = .str i ∧ y = .str j ∧ Q (.bl (!(Builtin.Str.occurrences j i 0 j.length 1).isEmpty)) H) ∨ rIn K false x y H Q) ∨ rInD K x y H Q
def rNotInW (K : PySem.W.Frag) : R2 := fun x y H Q => ((∃ i j, x = .str i ∧ y = .str j ∧ Q (.bl (!(!(Builtin.Str.occurrences j i 0 j.length 1).isEmpty))) H) ∨ rIn K true x y H Q) ∨ rNotInD K x y H Q
theorem op_notIn_seq' : OpR X (compareOp .NotIn) (rIn X.K true) := op_notIn_seq
theorem ow_in (hu : X.A.units + 65 < cLine) : OpW X (compareOp .In) (rInW X.K) (oInB false) where
  op := (op_in_str.or op_in_seq).or (op_inD hu)
  sn := fun bx T H x y dx dy Qd Q g rx ry p h => by
    cases ry with
    | str z =>
      cases rx with
      | str c => exact Or.inl (Or.inl ⟨c, z, rfl, rfl, p.here g (.bl _) h⟩)
      | _ => exact False.elim h
    | lst ha na ra => exact Or.inr ⟨dx, _, rx.dp (SeqAt.canLay_of_shaped h.1), (RP.lst ha na ra).dp (SeqAt.canLay_of_shaped h.2.1), h.1, h.2.1, p.here g (.bl _) h.2.2⟩
    | tup ha ra =>
      refine Or.inl (Or.inr ⟨_, _, rfl, Or.inr ha.sq, flat_of rx h.1, flats_of ra h.2.1, ?_⟩)
      show Q (.bl (inV x _)) H
      rw [inV_of rx h.1 ra h.2.1]
      exact p.here g (.bl _) h.2.2
    | _ => exact False.elim h
theorem ow_notin (hu : X.A.units + 65 < cLine) : OpW X (compareOp .NotIn) (rNotInW X.K) (oInB true) where
  op := (op_notin_str.or op_notIn_seq').or (op_notInD hu)
  sn := fun bx T H x y dx dy Qd Q g rx ry p h => by
    cases ry with
    | str z =>
      cases rx with
      | str c => exact Or.inl (Or.inl ⟨c, z, rfl, rfl, p.here g (.bl _) h⟩)
      | _ => exact False.elim h
    | lst ha na ra => exact Or.inr ⟨dx, _, rx.dp (SeqAt.canLay_of_shaped h.1), (RP.lst ha na ra).dp (SeqAt.canLay_of_shaped h.2.1), h.1, h.2.1, p.here g (.bl _) h.2.2⟩
    | tup ha ra =>
      refine Or.inl (Or.inr ⟨_, _, rfl, Or.inr ha.sq, flat_of rx h.1, flats_of ra h.2.1, ?_⟩)
      show Q (.bl (!inV x _)) H
      rw [inV_of rx h.1 ra h.2.1]
      exact p.here g (.bl _) h.2.2
    | _ => exact False.elim h
/-! is None, is not None -/
def isNone : D → Bool
  | .none => true
  | _ => false
theorem none_of {K : PySem.W.Frag} {bx : Bx} {T : Addr → Prop} {H : Hp} {x : V} {d : D} (r : RP K bx T H x d) : decide (x = .non) = isNone d := by
  cases r <;> rfl
end
end Wy

set_option Elab.async false
set_option linter.all false
set_option maxRecDepth 100000
set_option maxHeartbeats 2000000
/-! W3: expressions, tests, calls: one rule a construct, its reading and its data. -/
namespace Wy
open PySem L2
section
variable {X : Cx} {a b c e : Expr} {es : List Expr} {ta tb tc te : TE} {wa wb wc we : EW} {tt tu : TT} {wt wu : TW} {tr : TA} {wr : AW} {pos p2 : Pos} {r r' : R2} {o o' : O2}

theorem ev (i : Nat) {x : Str} (hN : X.N[i]? = some x := by rfl) (hv : Vis X.env.scope x := by first | exact Or.inl rfl | exact Or.inr (Or.inl rfl) | exact Or.inr (Or.inr rfl)) (hd : (x == ("__debug__" : Str)) = false := by decide)
    (hcd : (x == ("__classdict__" : Str)) = false := by decide) : PEW X (.Name x pos) (tVar i) (wVar i) := ⟨pv i hN hv hd hcd, snd_var i⟩
theorem ec_int {i j} : PEW X (.Constant (.int i) j pos) (tC (.int i)) (wC (.int i)) := ⟨pe_int, snd_c fun _ _ _ => .int i⟩
theorem ec_str {x j} : PEW X (.Constant (.str x) j pos) (tC (.str x)) (wC (.str x)) := ⟨pe_str, snd_c fun _ _ _ => .str x⟩
theorem ec_bl {x j} : PEW X (.Constant (.bool x) j pos) (tC (.bl x)) (wC (.bool x)) := ⟨pe_bl, snd_c fun _ _ _ => .bl x⟩
theorem ec_non {j} : PEW X (.Constant .none j pos) (tC .non) (wC .none) := ⟨pe_non, snd_c fun _ _ _ => .non⟩
theorem eg {x : Str} {v : V} {u : Value} {d : D} (hm : X.mg x = some u) (rv : RelV v u) (hc : ∀ bx T H, RP X.K bx T H v d) (hg : Gl X x := by rfl) (hd : (x == ("__debug__" : Str)) = false := by decide) : PEW X (.Name x pos) (tC v) (wC d) :=
  ⟨pe_glob hg hm rv hd, snd_c hc⟩
theorem ebin {op : Operator} (h : OpW X (binaryOp op) r o) (ha : PEW X a ta wa) (hb : PEW X b tb wb) : PEW X (.BinOp a op b pos) (tOp r ta tb) (wOp o wa wb) := ⟨pe_op h.op ha.pe hb.pe, snd_op h.sn ha.sn hb.sn⟩
theorem ecmp {op : CmpOp} (h : OpW X (compareOp op) r o) (ha : PEW X a ta wa) (hb : PEW X b tb wb) (hm : behindInMarks op b = false := by first | exact nobehind _ (by decide) (by decide) | with_unfolding_all rfl) :
    PEW X (.Compare a [op] [b] pos) (tOp r ta tb) (wOp o wa wb) := ⟨pe_cmpR h.op ha.pe hb.pe hm, snd_op h.sn ha.sn hb.sn⟩
theorem tcmp {op : CmpOp} (h : OpW X (compareOp op) r o) (ha : PEW X a ta wa) (hb : PEW X b tb wb) (hm : behindInMarks op b = false := by first | exact nobehind _ (by decide) (by decide) | with_unfolding_all rfl) :
    PTW X (.Compare a [op] [b] pos) (tTest (tOp r ta tb)) (bW (wOp o wa wb)) := ⟨pt_cmpR h.op ha.pe hb.pe hm, snd_test (snd_op h.sn ha.sn hb.sn)⟩
/-! a op b op c -/
def wChain (f g : O2) (a b c : EW) : EW := fun δ Q => a δ fun x => b δ fun y => f x y fun z => match z with
  | .bool k => if k = true then c δ fun w => g y w Q else Q (.bool false)
  | _ => False
theorem snd_chain {K : PySem.W.Frag} (h : Snd2 K r o) (h' : Snd2 K r' o') (ha : SndE K ta wa) (hb : SndE K tb wb) (hc : SndE K tc wc) : SndE K (tChain r r' ta tb tc) (wChain o o' wa wb wc) := fun bx T σ H δ Qd Q g e p q =>
  ha bx T σ H δ _ _ g e (fun dx x H1 e1 b1 r1 h1 => hb bx T σ H1 δ _ _ (g.on e1 b1) (e.on g e1) (fun dy y H2 e2 b2 r2 h2 =>
    h bx T H2 x y dx dy _ _ ((g.on e1 b1).on e2 b2) (r1.on (g.on e1 b1) e2) r2 (fun dz z H3 e3 b3 r3 h3 => by
      have g1 := g.on e1 b1
      have g2 := g1.on e2 b2
      have g3 := g2.on e3 b3
      cases r3 with
      | bl k =>
        refine ⟨k, rfl, ?_⟩
        cases k with
        | true => exact hc bx T σ H3 δ _ _ g3 (((e.on g e1).on g1 e2).on g2 e3) (fun dw w H4 e4 b4 r4 h4 => h' bx T H4 y w dy dw Qd Q (g3.on e4 b4) ((r2.on g2 e3).on g3 e4) r4 (p.on (((e1.trans e2).trans e3).trans e4)) h4) h3
        | false => exact p _ _ H3 ((e1.trans e2).trans e3) b3 (.bl false) h3
      | _ => exact False.elim h3) h2) h1) q
theorem echain {op op' : CmpOp} (h : OpW X (compareOp op) r o) (h' : OpW X (compareOp op') r' o') (ha : PEW X a ta wa) (hb : PEW X b tb wb) (hc : PEW X c tc wc) (hm : lastMarks [op, op'] [b, c] = false := by with_unfolding_all rfl) :
    PEW X (.Compare a [op, op'] [b, c] pos) (tChain r r' ta tb tc) (wChain o o' wa wb wc) := ⟨pe_chain h.op h'.op ha.pe hb.pe hc.pe hm, snd_chain h.sn h'.sn ha.sn hb.sn hc.sn⟩
theorem tchain {op op' : CmpOp} (h : OpW X (compareOp op) r o) (h' : OpW X (compareOp op') r' o') (ha : PEW X a ta wa) (hb : PEW X b tb wb) (hc : PEW X c tc wc) (hm : lastMarks [op, op'] [b, c] = false := by with_unfolding_all rfl) :
    PTW X (.Compare a [op, op'] [b, c] pos) (tTest (tChain r r' ta tb tc)) (bW (wChain o o' wa wb wc)) := ⟨pt_chain h.op h'.op ha.pe hb.pe hc.pe hm, snd_test (snd_chain h.sn h'.sn ha.sn hb.sn hc.sn)⟩
/-! is None .. -/
def oIsN : O2 := fun x y Q => isNone y = true ∧ Q (.bool (isNone x))
def oNotN : O2 := fun x y Q => isNone y = true ∧ Q (.bool (!isNone x))
theorem ow_isN : OpW X (compareOp .Is) (fun x y H Q => y = .non ∧ Q (.bl (decide (x = .non))) H) oIsN := ⟨op_isN, fun bx T H x y dx dy Qd Q g rx ry p h => by
  cases ry <;> first | exact ⟨rfl, p.here g (by rw [none_of rx]; exact .bl _) h.2⟩ | exact Bool.noConfusion h.1⟩
theorem ow_notN : OpW X (compareOp .IsNot) (fun x y H Q => y = .non ∧ Q (.bl (!decide (x = .non))) H) oNotN := ⟨op_notN, fun bx T H x y dx dy Qd Q g rx ry p h => by
  cases ry <;> first | exact ⟨rfl, p.here g (by rw [none_of rx]; exact .bl _) h.2⟩ | exact Bool.noConfusion h.1⟩
theorem isb_gen {M : Model} {A : Around} {E : Value → Shared → Prop} {s : Shared} {x : V} {v : Value} {k : Bool} {Q : Value → Shared → Prop} (r : RelV x v) (h : Q (.bool (decide (x = .bl k))) s) : wpAny M A (compareOp .Is v (.bool k)) Q E s := by
  cases x with
  | non => cases r; exact PySem.wpAny_pure h
  | bl b =>
    cases r
    have e : decide (V.bl b = V.bl k) = (Value.bool b == Value.bool k) := by cases b <;> cases k <;> rfl
    rw [e] at h
    exact PySem.wpAny_pure h
  | ref a => cases r; exact PySem.wpAny_pure h
  | ty n => cases r; exact PySem.wpAny_pure h
  | _ => obtain ⟨t, rfl⟩ := r; exact PySem.wpAny_pure h
theorem isb_genN {M : Model} {A : Around} {E : Value → Shared → Prop} {s : Shared} {x : V} {v : Value} {k : Bool} {Q : Value → Shared → Prop} (r : RelV x v) (h : Q (.bool (!decide (x = .bl k))) s) : wpAny M A (compareOp .IsNot v (.bool k)) Q E s := by
  cases x with
  | non => cases r; exact PySem.wpAny_pure h
  | bl b =>
    cases r
    have e : decide (V.bl b = V.bl k) = (Value.bool b == Value.bool k) := by cases b <;> cases k <;> rfl
    rw [e] at h
    exact PySem.wpAny_pure h
  | ref a => cases r; exact PySem.wpAny_pure h
  | ty n => cases r; exact PySem.wpAny_pure h
  | _ => obtain ⟨t, rfl⟩ := r; exact PySem.wpAny_pure h
def isBool (k : Bool) : D → Bool
  | .bool b => b == k
  | _ => false
theorem bool_of {K : PySem.W.Frag} {bx : Bx} {T : Addr → Prop} {H : Hp} {x : V} {d : D} {k : Bool} (r : RP K bx T H x d) : decide (x = .bl k) = isBool k d := by
  cases r <;> first | rfl | exact dec_bl
def oIsB : O2 := fun x y Q => match y with
  | .bool k => Q (.bool (isBool k x))
  | _ => False
def oNotB : O2 := fun x y Q => match y with
  | .bool k => Q (.bool (!isBool k x))
  | _ => False
theorem ow_isB : OpW X (compareOp .Is) (fun x y H Q => ∃ k, y = .bl k ∧ Q (.bl (decide (x = .bl k))) H) oIsB where
  op := by
    intro pins s σ H x y v u Q I rx ry ⟨k, e, q⟩
    subst e
    cases ry
    exact isb_gen rx ⟨.bl _, H, I, rfl, q⟩
  sn := fun bx T H x y dx dy Qd Q g rx ry p h => by
    cases ry <;> first | exact ⟨_, rfl, p.here g (by rw [bool_of rx]; exact .bl _) h⟩ | exact h.elim
theorem ow_notB : OpW X (compareOp .IsNot) (fun x y H Q => ∃ k, y = .bl k ∧ Q (.bl (!decide (x = .bl k))) H) oNotB where
  op := by
    intro pins s σ H x y v u Q I rx ry ⟨k, e, q⟩
    subst e
    cases ry
    exact isb_genN rx ⟨.bl _, H, I, rfl, q⟩
  sn := fun bx T H x y dx dy Qd Q g rx ry p h => by
    cases ry <;> first | exact ⟨_, rfl, p.here g (by rw [bool_of rx]; exact .bl _) h⟩ | exact h.elim
/-! and, or, not, if -/
theorem eif (ht : PTW X c tt wt) (ha : PEW X a ta wa) (hb : PEW X b tb wb) : PEW X (.IfExp c a b pos) (tIf tt ta tb) (wIf wt wa wb) := ⟨pe_ifExp ht.pt ha.pe hb.pe, snd_if ht.sn ha.sn hb.sn⟩
theorem tand1 (ha : PTW X a tt wt) : PWW X (.BoolOp .And [a] pos) tt wt := ⟨pw_and1 ha.pt, ha.sn⟩
theorem tor1 (ha : PTW X a tt wt) : PWW X (.BoolOp .Or [a] pos) tt wt := ⟨pw_or1 ha.pt, ha.sn⟩
theorem tand {rest : List Expr} (ha : PTW X a tt wt) (hb : PWW X (.BoolOp .And (b :: rest) pos) tu wu) : PWW X (.BoolOp .And (a :: b :: rest) pos) (tAnd tt tu) (wAnd wt wu) := ⟨pw_and ha.pt hb.pw, snd_and ha.sn hb.sn⟩
theorem tor {rest : List Expr} (ha : PTW X a tt wt) (hb : PWW X (.BoolOp .Or (b :: rest) pos) tu wu) : PWW X (.BoolOp .Or (a :: b :: rest) pos) (tOr tt tu) (wOr wt wu) := ⟨pw_or ha.pt hb.pw, snd_or ha.sn hb.sn⟩
theorem PWW.t (h : PWW X e tt wt) : PTW X e tt wt := ⟨h.pw.pt, h.sn⟩
theorem tnot (ha : PTW X a tt wt) : PTW X (.UnaryOp .Not a pos) (tNot tt) (wNot wt) := ⟨pt_not ha.pt, snd_not ha.sn⟩
theorem eone {op} (h : PEW X a ta wa) : PEW X (.BoolOp op [a] pos) ta wa := ⟨pe_one h.pe, h.sn⟩
theorem eand {rest : List Expr} (ha : PEW X a ta wa) (hb : PEW X (.BoolOp .And (b :: rest) pos) tb wb) : PEW X (.BoolOp .And (a :: b :: rest) pos) (tAndV ta tb) (wAndV wa wb) := ⟨pe_and ha.pe hb.pe, snd_andV ha.sn hb.sn⟩
theorem eor {rest : List Expr} (ha : PEW X a ta wa) (hb : PEW X (.BoolOp .Or (b :: rest) pos) tb wb) : PEW X (.BoolOp .Or (a :: b :: rest) pos) (tOrV ta tb) (wOrV wa wb) := ⟨pe_or ha.pe hb.pe, snd_orV ha.sn hb.sn⟩
theorem enot (ha : PEW X a ta wa) : PEW X (.UnaryOp .Not a pos) (tNotV ta) (wNotV wa) := ⟨pe_not ha.pe, snd_notV ha.sn⟩
/-! truth of any value -/
def truD : D → (Bool → Prop) → Prop
  | .none, Q => Q false
  | .bool b, Q => Q b
  | .int i, Q => Q (i != 0)
  | .str y, Q => y.length ≤ sizeLine ∧ Q ((y.length : Int) != 0)
  | .list xs, Q => Q (!xs.isEmpty)
  | .tuple xs, Q => Q (!xs.isEmpty)
  | .dict _, _ => False
def wTru (w : EW) : TW := fun δ Q => w δ fun d => truD d Q
theorem ttru (ha : PEW X a ta wa) (he : ∀ whole, isTrue a X.env whole = (do let v ← whole; standAt a.pos; holding [v] (truthy v)) := by intro _; rfl) :
    PTW X a (fun σ H Q => ta σ H fun x H' => ∃ k, TruV X.K x H' k ∧ Q k H') (wTru wa) := ⟨pt_truth ha.pe he, fun bx T σ H δ Qd Q g en p h =>
  ha.sn bx T σ H δ _ _ g en (fun d x H1 e1 b1 r1 h1 => by
    cases r1 with
    | non => exact ⟨false, rfl, p _ H1 e1 b1 h1⟩
    | bl b => exact ⟨b, rfl, p _ H1 e1 b1 h1⟩
    | int i => exact ⟨_, rfl, p _ H1 e1 b1 h1⟩
    | str y => exact ⟨_, ⟨h1.1, rfl⟩, p _ H1 e1 b1 h1.2⟩
    | lst ha na ra => exact ⟨_, Or.inl ⟨_, SqL.of ha, rfl⟩, p _ H1 e1 b1 (by
        cases ra <;> exact h1)⟩
    | tup ha ra => exact ⟨_, Or.inr (Or.inl ⟨_, ha.sq, rfl⟩), p _ H1 e1 b1 (by
        cases ra <;> exact h1)⟩
    | _ => exact False.elim h1) h⟩
/-! displays, arguments -/
theorem an : PAW X [] tNil wNil := ⟨pa_nil, snd_nil⟩
theorem ac (ha : PEW X e te we) (hr : PAW X es tr wr) (hs : starEach (e :: es) X.env = (false, eval e X.env) :: starEach es X.env := by rfl) : PAW X (e :: es) (tCons te tr) (wCons we wr) := ⟨pa_cons ha.pe hr.pa hs, snd_cons ha.sn hr.sn⟩
theorem etup {k} (h : PAW X es tr wr) : PEW X (.Tuple es k pos) (tTup tr) (wTup wr) := ⟨pe_tup h.pa, snd_tup h.sn⟩
theorem elst (h : PAW X es tr wr) : PEW X (.List es pos) (tLst tr) (wLst wr) := ⟨pe_lst h.pa, snd_lst h.sn⟩
/-! built-ins by name -/
structure CbW (X : Cx) (f : Value) (r : List V → Hp → VK → Prop) (o : OL) : Prop where
  cr : CallR X f r
  sn : SndL X.K r o
theorem ecb {x : Str} {id : String} {rr : List V → Hp → VK → Prop} {f : OL} (h : CbW X (.builtin id) rr f) (hm : X.mg x = none) (hv : bootBuiltins x = some (.builtin id)) (ha : PAW X (e :: es) tr wr) (hg : Gl X x := by rfl) (hn : x ≠ "__name__" := by decide)
    (hdb : (x == ("__debug__" : Str)) = false := by decide) (he : starEach (e :: es) X.env = (false, eval e X.env) :: starEach es X.env := by rfl) (hpl : (backTo pos (starEach es X.env)).any (·.1) = false := by rfl) :
    PEW X (.Call (.Name x p2) (e :: es) [] pos) (tCB rr tr) (wCall f wr) := ⟨pe_callB h.cr hg hm hv ha.pa hn hdb he hpl, snd_cb h.sn ha.sn⟩
theorem ecty {x : Str} {T : String} {rr : List V → Hp → VK → Prop} {f : OL} (h : CbW X (.type T) rr f) (hm : X.mg x = none) (hv : bootBuiltins x = some (.type T)) (ha : PAW X (e :: es) tr wr) (hg : Gl X x := by rfl) (hn : x ≠ "__name__" := by decide)
    (hdb : (x == ("__debug__" : Str)) = false := by decide) (he : starEach (e :: es) X.env = (false, eval e X.env) :: starEach es X.env := by rfl) (hpl : (backTo pos (starEach es X.env)).any (·.1) = false := by rfl) :
    PEW X (.Call (.Name x p2) (e :: es) [] pos) (tCB rr tr) (wCall f wr) := ⟨pe_callTy h.cr hg hm hv ha.pa hn hdb he hpl, snd_cb h.sn ha.sn⟩
theorem cr_or {f : Value} {rr rr' : List V → Hp → VK → Prop} (h : CallR X f rr) (h' : CallR X f rr') : CallR X f (fun xs H Q => rr xs H Q ∨ rr' xs H Q) := fun pins s σ H xs us Q I r q => by
  rcases q with q | q
  · exact h pins s σ H xs us Q I r q
  · exact h' pins s σ H xs us Q I r q
/-- one argument -/
def on1 (f : O1) : OL := fun xs Q => match xs with
  | [x] => f x Q
  | _ => False
theorem snd_on1 {K : PySem.W.Frag} {rr : List V → Hp → VK → Prop} {f : O1} (h : ∀ bx T H x dx (Qd : D → Prop) (Q : VK), Good bx T H → RP K bx T H x dx → Post K bx T H Qd Q → f dx Qd → rr [x] H Q) : SndL K rr (on1 f) := fun bx T H xs ds Qd Q g rs p q => by
  cases rs with
  | nil => exact False.elim q
  | cons r1 r2 =>
    cases r2 with
    | nil => exact h bx T H _ _ Qd Q g r1 p q
    | cons => exact False.elim q
def oLen : O1 := fun x Q => match x with
  | .str y => y.length ≤ sizeLine ∧ Q (.int y.length)
  | .list xs => Q (.int xs.length)
  | .tuple xs => Q (.int xs.length)
  | _ => False
theorem cb_len : CbW X (.builtin "len") (fun xs H Q => ∃ x n, xs = [x] ∧ LenV X.K x H n ∧ Q (.int n) H) (on1 oLen) := ⟨call_len, snd_on1 fun bx T H x dx Qd Q g r p h => by
  cases r with
  | str y => exact ⟨_, _, rfl, ⟨h.1, rfl⟩, p.here g (.int _) h.2⟩
  | lst ha na ra => exact ⟨_, _, rfl, Or.inl ⟨_, SqL.of ha, rfl⟩, p.here g (by rw [ra.length]; exact .int _) h⟩
  | tup ha ra => exact ⟨_, _, rfl, Or.inr ⟨_, ha.sq, rfl⟩, p.here g (by rw [ra.length]; exact .int _) h⟩
  | _ => exact False.elim h⟩
/-- int(x) of an int, a bool, a text -/
def oInt : O1 := fun x Q => match x with
  | .int i => Q (.int i)
  | .bool k => Q (.int (if k then 1 else 0))
  | .str a => ∃ n, PySem.intText? a = some n ∧ a.length ≤ 640 ∧ Q (.int n)
  | _ => False
theorem cb_int : CbW X (.type "int") (fun xs H Q => ((∃ i, xs = [.int i] ∧ Q (.int i) H) ∨ ∃ k, xs = [.bl k] ∧ Q (.int (if k then 1 else 0)) H) ∨ (∃ a n, xs = [.str a] ∧ PySem.intText? a = some n ∧ a.length ≤ 640 ∧ Q (.int n) H)) (on1 oInt) :=
  ⟨cr_or call_int1 call_int_str, snd_on1 fun bx T H x dx Qd Q g r p h => by
  cases r with
  | int i => exact Or.inl (Or.inl ⟨i, rfl, p.here g (.int _) h⟩)
  | bl k => exact Or.inl (Or.inr ⟨k, rfl, p.here g (.int _) h⟩)
  | str a =>
    obtain ⟨n, h1, h2, h3⟩ := h
    exact Or.inr ⟨a, n, rfl, h1, h2, p.here g (.int _) h3⟩
  | _ => exact False.elim h⟩
/-- str(x) of an int, a text -/
def oStr : O1 := fun x Q => match x with
  | .int i => i.natAbs.log2 < 1920 ∧ Q (.str (toString i))
  | .str a => Q (.str a)
  | _ => False
theorem cb_str : CbW X (.type "str") (fun xs H Q => (∃ i, xs = [.int i] ∧ i.natAbs.log2 < 1920 ∧ Q (.str (toString i)) H) ∨ (∃ a, xs = [.str a] ∧ Q (.str a) H)) (on1 oStr) :=
  ⟨cr_or call_str_int SkE.call_str_str, snd_on1 fun bx T H x dx Qd Q g r p h => by
  cases r with
  | int i => exact Or.inl ⟨i, rfl, h.1, p.here g (.str _) h.2⟩
  | str a => exact Or.inr ⟨a, rfl, p.here g (.str _) h⟩
  | _ => exact False.elim h⟩
/-- repr(x) of an int, a text -/
def oRepr : O1 := fun x Q => match x with
  | .int i => i.natAbs.log2 < 1920 ∧ Q (.str (toString i))
  | .str a => (reprText a).length ≤ sizeLine ∧ Q (.str (reprText a))
  | _ => False
theorem call_repr_str : CallR X (.builtin "repr") (fun xs H Q => ∃ a, xs = [.str a] ∧ (reprText a).length ≤ sizeLine ∧ Q (.str (reprText a)) H) := by
  intro pins s σ H xs us Q I r h
  obtain ⟨i, rfl, hz, q⟩ := h
  obtain ⟨u, rfl, t, rfl⟩ := vals1 r
  exact PySem.P.repr_of_str (⟨.str _, H, I.tok _, ⟨_, rfl⟩, q⟩) hz
theorem cb_repr : CbW X (.builtin "repr") (fun xs H Q => (∃ i, xs = [.int i] ∧ i.natAbs.log2 < 1920 ∧ Q (.str (toString i)) H) ∨ (∃ a, xs = [.str a] ∧ (reprText a).length ≤ sizeLine ∧ Q (.str (reprText a)) H)) (on1 oRepr) :=
  ⟨cr_or SkE.call_repr_int call_repr_str, snd_on1 fun bx T H x dx Qd Q g r p h => by
  cases r with
  | int i => exact Or.inl ⟨i, rfl, h.1, p.here g (.str _) h.2⟩
  | str a => exact Or.inr ⟨a, rfl, h.1, p.here g (.str _) h.2⟩
  | _ => exact False.elim h⟩
def oOrd : O1 := fun x Q => match x with
  | .str a => a.length = 1 ∧ Q (.int (a.cps.getD 0 0 : Nat))
  | _ => False
theorem cb_ord : CbW X (.builtin "ord") (fun xs H Q => ∃ x, xs = [.str x] ∧ x.length = 1 ∧ Q (.int (x.cps.getD 0 0 : Nat)) H) (on1 oOrd) := ⟨call_ord, snd_on1 fun bx T H x dx Qd Q g r p h => by
  cases r with
  | str a => exact ⟨a, rfl, h.1, p.here g (.int _) h.2⟩
  | _ => exact False.elim h⟩
/-! all, any of a list of bools -/
def boolsD : List D → Option (List Bool)
  | [] => some []
  | .bool b :: r => (boolsD r).map (b :: ·)
  | _ :: _ => none
theorem bools_of {K : PySem.W.Frag} {bx : Bx} {T : Addr → Prop} {H : Hp} : ∀ {xs : List V} {ds : List D} {bs : List Bool}, RPs K bx T H xs ds → boolsD ds = some bs → xs = bs.map V.bl
  | _, _, _, .nil, e => by cases e; rfl
  | _, _, _, .cons (d := d) (ds := ds) h r, e => by
    cases h with
    | bl b =>
      unfold boolsD at e
      cases e2 : boolsD ds with
      | none => rw [e2] at e; cases e
      | some bs =>
        rw [e2] at e
        cases e
        rw [bools_of r e2]; rfl
    | _ => cases e
def oAll : O1 := fun x Q => match x with
  | .list xs => ∃ bs, boolsD xs = some bs ∧ Q (.bool (bs.all id))
  | _ => False
def oAny : O1 := fun x Q => match x with
  | .list xs => ∃ bs, boolsD xs = some bs ∧ Q (.bool (bs.any id))
  | _ => False
theorem cb_all (hc : X.calm = true) : CbW X (.builtin "all") (rAll X.K) (on1 oAll) := ⟨cr_all hc, snd_on1 fun bx T H x dx Qd Q g r p h => by
  cases r with
  | lst ha na ra =>
    obtain ⟨bs, h1, h2⟩ := h
    exact ⟨_, bs, rfl, SqL.of (by rw [← bools_of ra h1]; exact ha), p.here g (.bl _) h2⟩
  | _ => exact False.elim h⟩
theorem cb_any (hc : X.calm = true) : CbW X (.builtin "any") (rAny X.K) (on1 oAny) := ⟨cr_any hc, snd_on1 fun bx T H x dx Qd Q g r p h => by
  cases r with
  | lst ha na ra =>
    obtain ⟨bs, h1, h2⟩ := h
    exact ⟨_, bs, rfl, SqL.of (by rw [← bools_of ra h1]; exact ha), p.here g (.bl _) h2⟩
  | _ => exact False.elim h⟩
/-! list(x), tuple(x) -/
def oListOf : O1 := fun x Q => match x with
  | .list xs => Q (.list xs)
  | .tuple xs => Q (.list xs)
  | _ => False
def oTupleOf : O1 := fun x Q => match x with
  | .list xs => Q (.tuple xs)
  | .tuple xs => Q (.tuple xs)
  | _ => False
end
end Wy

set_option Elab.async false
set_option linter.all false
set_option maxRecDepth 100000
set_option maxHeartbeats 2000000
/-! W4: list(), tuple(), subscripts, slices, isinstance, methods of texts and lists, calls of the text's own defs. -/
namespace Wy
open PySem L2
section
variable {X : Cx} {a b c e : Expr} {es : List Expr} {ta tb tc te : TE} {wa wb wc we : EW} {tt tu : TT} {wt wu : TW} {tr : TA} {wr : AW} {pos p2 : Pos} {r r' : R2} {o o' : O2}
theorem cb_list : CbW X (.type "list") (fun xs H Q => ∃ p ys, xs = [.ref p] ∧ (SqL X.K H p ys ∨ SqT X.K H p ys) ∧ ∀ l, H l = none → Q (.ref l) (upd H l (.lst ys))) (on1 oListOf) := ⟨call_list_of, snd_on1 fun bx T H x dx Qd Q g r p h => by
  cases r with
  | lst ha na ra => exact ⟨_, _, rfl, Or.inl (SqL.of ha), fun l hl => p.lst g hl ra h⟩
  | tup ha ra => exact ⟨_, _, rfl, Or.inr ha.sq, fun l hl => p.lst g hl ra h⟩
  | _ => exact False.elim h⟩
theorem cb_tuple : CbW X (.type "tuple") (fun xs H Q => ∃ p ys, xs = [.ref p] ∧ ((SqL X.K H p ys ∧ ∀ l, H l = none → Q (.ref l) (upd H l (.tup ys))) ∨ (SqT X.K H p ys ∧ Q (.ref p) H))) (on1 oTupleOf) := ⟨call_tuple_of, snd_on1 fun bx T H x dx Qd Q g r p h => by
  cases r with
  | lst ha na ra => exact ⟨_, _, rfl, Or.inl ⟨SqL.of ha, fun l hl => p.tup g hl ra h⟩⟩
  | tup ha ra => exact ⟨_, _, rfl, Or.inr ⟨ha.sq, p.here g (.tup ha ra) h⟩⟩
  | _ => exact False.elim h⟩
/-! x[i] -/
def oIx : O2 := fun x y Q => match x, y with
  | .list xs, .int i => ∃ d, atI xs i = some d ∧ Q d
  | .tuple xs, .int i => ∃ d, atI xs i = some d ∧ Q d
  | .str z, .int i => z.length ≤ sizeLine ∧ ∃ c, atI z.cps.toList i = some c ∧ Q (.str ⟨#[c]⟩)
  | _, _ => False
theorem at_of_RPs {K : PySem.W.Frag} {bx : Bx} {T : Addr → Prop} {H : Hp} {xs : List V} {ds : List D} {i : Int} {d : D} (h : RPs K bx T H xs ds) (e : atI ds i = some d) : ∃ v, atI xs i = some v ∧ RP K bx T H v d := by
  unfold atI at e ⊢
  rw [h.length]
  cases e2 : ixN ds.length i with
  | none => rw [e2] at e; cases e
  | some j =>
    rw [e2] at e
    exact h.get e
theorem snd_ix {K : PySem.W.Frag} : Snd2 K (rIx K) oIx := fun bx T H x y dx dy Qd Q g rx ry p h => by
  cases rx with
  | lst ha na ra =>
    cases ry with
    | int i =>
      obtain ⟨d, e, q⟩ := h
      obtain ⟨v, e2, rv⟩ := at_of_RPs ra e
      exact Or.inl ⟨_, _, _, _, rfl, rfl, SqL.of ha, e2, p.here g rv q⟩
    | _ => exact False.elim h
  | tup ha ra =>
    cases ry with
    | int i =>
      obtain ⟨d, e, q⟩ := h
      obtain ⟨v, e2, rv⟩ := at_of_RPs ra e
      exact Or.inr (Or.inl ⟨_, _, _, _, rfl, rfl, ha.sq, e2, p.here g rv q⟩)
    | _ => exact False.elim h
  | str z =>
    cases ry with
    | int i =>
      obtain ⟨hz, c, e, q⟩ := h
      exact Or.inr (Or.inr ⟨_, _, _, rfl, rfl, hz, e, p.here g (.str _) q⟩)
    | _ => exact False.elim h
  | _ => cases ry <;> exact False.elim h
theorem eix (ha : PEW X a ta wa) (hb : PEW X b tb wb) (hs : PlainIx b := by exact fun _ _ => rfl) : PEW X (.Subscript a b pos) (tOp (rIx X.K) ta tb) (wOp oIx wa wb) := ⟨pe_ix ix_seq ha.pe hb.pe hs, snd_op snd_ix ha.sn hb.sn⟩
/-! x[i:j] -/
abbrev OW := DE → (Option Int → Prop) → Prop
def SndO (K : PySem.W.Frag) (t : TO) (w : OW) : Prop := ∀ bx T σ H δ (Qd : Option Int → Prop) (Q : Option Int → Hp → Prop), Good bx T H → RPe K bx T H σ δ → (∀ o H', Ext bx H H' → BoxOk bx H' → Qd o → Q o H') → w δ Qd → t σ H Q
structure POW (X : Cx) (e : Option Expr) (t : TO) (w : OW) : Prop where
  po : PO X e t
  sn : SndO X.K t w
def wNo : OW := fun _ Q => Q none
def wPart (w : EW) : OW := fun δ Q => w δ fun d => match d with
  | .int i => Q (some i)
  | _ => False
theorem on_ : POW X none tNoPart wNo := ⟨po_none, fun bx T σ H δ Qd Q g e p h => p none H (Ext.refl _ _) g.box h⟩
theorem os_ (h : PEW X e te we) : POW X (some e) (tPart te) (wPart we) := ⟨po_some h.pe, fun bx T σ H δ Qd Q g en p q =>
  h.sn bx T σ H δ _ _ g en (fun d x H1 e1 b1 r1 h1 => by
    cases r1 with
    | int i => exact ⟨i, rfl, p _ H1 e1 b1 h1⟩
    | _ => exact False.elim h1) q⟩
def cutD (xs : List D) (lo hi : Option Int) : List D := (xs.drop (HT.sIx xs.length 0 lo)).take (HT.sIx xs.length xs.length hi - HT.sIx xs.length 0 lo)
def oSl (x : D) (lo hi : Option Int) (Q : D → Prop) : Prop := match x with
  | .list xs => Q (.list (cutD xs lo hi))
  | .tuple xs => Q (.tuple (cutD xs lo hi))
  | .str z => z.length ≤ sizeLine ∧ Q (.str (cutS z lo hi))
  | _ => False
def wSl (a : EW) (lo hi : OW) : EW := fun δ Q => a δ fun x => lo δ fun l => hi δ fun h => oSl x l h Q
theorem RPs.cut {K : PySem.W.Frag} {bx : Bx} {T : Addr → Prop} {H : Hp} {xs : List V} {ds : List D} (h : RPs K bx T H xs ds) (lo hi : Option Int) : RPs K bx T H (cutV xs lo hi) (cutD ds lo hi) := by
  unfold cutV cutD
  rw [h.length]
  exact (h.drop _).take _
def rSlW (K : PySem.W.Frag) : V → Option Int → Option Int → Hp → VK → Prop := fun x lo hi H Q => (rSlL K x lo hi H Q ∨ rSlA K x lo hi H Q) ∨ rSlS x lo hi H Q
theorem cutD_all {xs : List D} {lo hi : Option Int} (h : HT.sIx xs.length 0 lo = 0 ∧ HT.sIx xs.length xs.length hi = xs.length) : cutD xs lo hi = xs := by
  unfold cutD
  rw [h.1, h.2, List.drop_zero, Nat.sub_zero, List.take_length]
theorem esl {lo hi : Option Expr} {tl th : TO} {wl wh : OW} (ha : PEW X a ta wa) (hl : POW X lo tl wl) (hh : POW X hi th wh) : PEW X (.Subscript a (.Slice lo hi none p2) pos) (tSl (rSlW X.K) ta tl th) (wSl wa wl wh) :=
  ⟨pe_slice ((sl_list.or sl_tupA).or sl_str) ha.pe hl.po hh.po, fun bx T σ H δ Qd Q g en p q =>
  ha.sn bx T σ H δ _ _ g en (fun d x H1 e1 b1 r1 h1 => hl.sn bx T σ H1 δ _ _ (g.on e1 b1) (en.on g e1) (fun l H2 e2 b2 h2 => hh.sn bx T σ H2 δ _ _ ((g.on e1 b1).on e2 b2) ((en.on g e1).on (g.on e1 b1) e2) (fun u H3 e3 b3 h3 => by
    have g1 := g.on e1 b1
    have g2 := g1.on e2 b2
    have g3 := g2.on e3 b3
    have r3 := (r1.on g1 e2).on g2 e3
    have p3 := p.on ((e1.trans e2).trans e3)
    cases r3 with
    | lst hx nx rx => exact Or.inl (Or.inl ⟨_, _, rfl, SqL.of hx, fun q hq => p3.lst g3 hq (rx.cut l u) h3⟩)
    | tup hx rx =>
      refine Or.inl (Or.inr ⟨_, _, rfl, hx.sq, fun z => ?_, fun z q hq => p3.tup g3 hq (rx.cut l u) h3⟩)
      rw [rx.length] at z
      have h4 : Qd (.tuple (cutD _ l u)) := h3
      rw [cutD_all z] at h4
      exact p3.here g3 (.tup hx rx) h4
    | str z => exact Or.inr ⟨_, rfl, h3.1, p3.here g3 (.str _) h3.2⟩
    | _ => exact False.elim h3) h2) h1) q⟩
/-! isinstance(x, T) -/
def isiD (T : String) : D → Bool
  | .none => T == "NoneType"
  | .bool _ => T == "bool" || T == "int"
  | .int _ => T == "int"
  | .str _ => T == "str"
  | .list _ => T == "list"
  | .tuple _ => T == "tuple"
  | .dict _ => T == "dict"
def oIsi (T : String) : O1 := fun x Q => (match x with | .dict _ => False | _ => True) ∧ Q (.bool (isiD T x))
structure IsT (T : String) : Prop where
  n : kitB "NoneType" T = some (T == "NoneType")
  b : kitB "bool" T = some (T == "bool" || T == "int")
  i : kitB "int" T = some (T == "int")
  s : kitB "str" T = some (T == "str")
  l : kitB "list" T = some (T == "list")
  t : kitB "tuple" T = some (T == "tuple")
theorem isT_int : IsT "int" := ⟨by decide +kernel, by decide +kernel, by decide +kernel, by decide +kernel, by decide +kernel, by decide +kernel⟩
theorem isT_str : IsT "str" := ⟨by decide +kernel, by decide +kernel, by decide +kernel, by decide +kernel, by decide +kernel, by decide +kernel⟩
theorem isT_bool : IsT "bool" := ⟨by decide +kernel, by decide +kernel, by decide +kernel, by decide +kernel, by decide +kernel, by decide +kernel⟩
theorem isT_tuple : IsT "tuple" := ⟨by decide +kernel, by decide +kernel, by decide +kernel, by decide +kernel, by decide +kernel, by decide +kernel⟩
theorem isT_list : IsT "list" := ⟨by decide +kernel, by decide +kernel, by decide +kernel, by decide +kernel, by decide +kernel, by decide +kernel⟩
theorem tupAt_ty {K : PySem.W.Frag} {T : Addr → Prop} {H : Hp} {a : Addr} {xs : List V} (h : TupAt K T H a xs) : TyX K H (.ref a) (.type "tuple") := by
  rcases h with ⟨_, h⟩ | ⟨o, its, n, h, c, _⟩
  · exact .base (.tup h)
  · exact .kTuple h c
theorem snd_isi {K : PySem.W.Frag} {T : String} (hT : IsT T) (ha : SndE K ta wa) : SndE K (tCB (rIsi K) (tCons ta (tCons (tC (.ty T)) tNil))) (wUn (oIsi T) wa) := fun bx Tt σ H δ Qd Q g en p q =>
  ha bx Tt σ H δ _ _ g en (fun d x H1 e1 b1 r1 h1 => by
    have p1 := p.on e1
    have g1 := g.on e1 b1
    cases r1 with
    | non => exact ⟨_, _, _, _, _, rfl, .ty T, .base .non, kit_ty hT.n, p1.here g1 (.bl _) h1.2⟩
    | bl b => exact ⟨_, _, _, _, _, rfl, .ty T, .base (.bl b), kit_ty hT.b, p1.here g1 (.bl _) h1.2⟩
    | int i => exact ⟨_, _, _, _, _, rfl, .ty T, .base (.int i), kit_ty hT.i, p1.here g1 (.bl _) h1.2⟩
    | str z => exact ⟨_, _, _, _, _, rfl, .ty T, .base (.str z), kit_ty hT.s, p1.here g1 (.bl _) h1.2⟩
    | lst hx nx rx => exact ⟨_, _, _, _, _, rfl, .ty T, .base (.lst hx), kit_ty hT.l, p1.here g1 (.bl _) h1.2⟩
    | tup hx rx => exact ⟨_, _, _, _, _, rfl, .ty T, tupAt_ty hx, kit_ty hT.t, p1.here g1 (.bl _) h1.2⟩
    | _ => exact False.elim h1.1) q
theorem eisi {x : Str} {T : String} {q1 : Pos} (hT : IsT T) (hm : X.mg "isinstance" = none) (hx : X.mg x = none) (hvx : bootBuiltins x = some (.type T)) (ha : PEW X a ta wa) (hg : Gl X "isinstance" := by rfl) (hgx : Gl X x := by rfl) (hnx : x ≠ "__name__" := by decide) (hdx : (x == ("__debug__" : Str)) = false := by decide)
    (he : starEach [a, .Name x q1] X.env = (false, eval a X.env) :: starEach [.Name x q1] X.env := by rfl) (he2 : starEach [.Name x q1] X.env = (false, eval (.Name x q1) X.env) :: starEach [] X.env := by rfl) (hpl : (backTo pos (starEach [.Name x q1] X.env)).any (·.1) = false := by rfl) :
    PEW X (.Call (.Name "isinstance" p2) [a, .Name x q1] [] pos) (tCB (rIsi X.K) (tCons ta (tCons (tC (.ty T)) tNil))) (wUn (oIsi T) wa) :=
  ⟨pe_callB call_isi hg hm (by decide +kernel) (pa_cons ha.pe (pa_cons (pe_bltn hgx hx hvx rfl hnx hdx) pa_nil he2) he) (by decide) (by decide) he hpl, snd_isi hT ha.sn⟩
/-! methods of texts -/
def strsD : List D → Option (List Str)
  | [] => some []
  | .str b :: r => (strsD r).map (b :: ·)
  | _ :: _ => none
theorem strs_of {K : PySem.W.Frag} {bx : Bx} {T : Addr → Prop} {H : Hp} : ∀ {xs : List V} {ds : List D} {bs : List Str}, RPs K bx T H xs ds → strsD ds = some bs → xs = bs.map V.str
  | _, _, _, .nil, e => by cases e; rfl
  | _, _, _, .cons (d := d) (ds := ds) h r, e => by
    cases h with
    | str b =>
      unfold strsD at e
      cases e2 : strsD ds with
      | none => rw [e2] at e; cases e
      | some bs =>
        rw [e2] at e
        cases e
        rw [strs_of r e2]; rfl
    | _ => cases e
theorem RPs.ofStrs {K : PySem.W.Frag} {bx : Bx} {T : Addr → Prop} {H : Hp} : ∀ ys : List Str, RPs K bx T H (ys.map V.str) (ys.map PyData.str)
  | [] => .nil
  | y :: r => .cons (.str y) (RPs.ofStrs r)
def oM1 (f : Str → D → (D → Prop) → Prop) : O2 := fun x y Q => match x with
  | .str a => f a y Q
  | _ => False
def tM1' (r : V → List V → Hp → VK → Prop) (to te : TE) : TE := fun σ H Q => to σ H fun x H1 => (∃ a, x = .str a) ∧ te σ H1 fun y H2 => r x [y] H2 Q
theorem snd_m1 {K : PySem.W.Frag} {rr : V → List V → Hp → VK → Prop} {f : Str → D → (D → Prop) → Prop} (hr : ∀ bx T H a y dy (Qd : D → Prop) (Q : VK), Good bx T H → RP K bx T H y dy → Post K bx T H Qd Q → f a dy Qd → rr (.str a) [y] H Q) (ha : SndE K ta wa) (hb : SndE K tb wb) :
    SndE K (tM1 rr ta tb) (fun δ Q => wa δ fun x => match x with | .str a => wb δ fun y => f a y Q | _ => False) := fun bx T σ H δ Qd Q g en p q =>
  ha bx T σ H δ _ _ g en (fun d x H1 e1 b1 r1 h1 => by
    cases r1 with
    | str a =>
      refine ⟨⟨a, rfl⟩, hb bx T σ H1 δ _ _ (g.on e1 b1) (en.on g e1) (fun d2 y H2 e2 b2 r2 h2 => ?_) h1⟩
      exact hr bx T H2 a y d2 Qd Q ((g.on e1 b1).on e2 b2) r2 (p.on (e1.trans e2)) h2
    | _ => exact False.elim h1) q
def wM1 (f : Str → D → (D → Prop) → Prop) (a b : EW) : EW := fun δ Q => a δ fun x => match x with
  | .str z => b δ fun y => f z y Q
  | _ => False
def fSplit : Str → D → (D → Prop) → Prop := fun a y Q => match y with
  | .str b => (b.length == 0) = false ∧ a.length + 2 ≤ sizeLine ∧ Q (.list ((Txt.split a b).map PyData.str))
  | _ => False
def fJoin : Str → D → (D → Prop) → Prop := fun a y Q => match y with
  | .list ds => ∃ ys, strsD ds = some ys ∧ (ys.map (·.length)).sum + ys.length * a.length ≤ 16777216 ∧ Q (.str (Txt.join a ys))
  | .tuple ds => ∃ ys, strsD ds = some ys ∧ (ys.map (·.length)).sum + ys.length * a.length ≤ 16777216 ∧ Q (.str (Txt.join a ys))
  | _ => False
def rSplit : V → List V → Hp → VK → Prop := fun x xs H Q => ∃ a b, x = .str a ∧ xs = [.str b] ∧ (b.length == 0) = false ∧ a.length + 2 ≤ sizeLine ∧ rNewStrs (Txt.split a b) H Q
def rJoin (K : PySem.W.Frag) : V → List V → Hp → VK → Prop := fun x xs H Q => ∃ a p, ∃ ys : List Str, x = .str a ∧ xs = [.ref p] ∧ (SqL K H p (ys.map V.str) ∨ SqT K H p (ys.map V.str)) ∧
    (ys.map (·.length)).sum + ys.length * a.length ≤ 16777216 ∧ Q (.str (Txt.join a ys)) H
theorem esplit {apos : Pos} (ha : PEW X a ta wa) (hb : PEW X b tb wb) (hs : starEach [b] X.env = [(false, eval b X.env)] := by rfl) (hbase : attributeBase a "split" X.env (eval a X.env) = eval a X.env := by rfl) (hline : (apos.endLine == pos.line) = true := by rfl) :
    PEW X (.Call (.Attribute a "split" apos) [b] [] pos) (tM1 rSplit ta tb) (wM1 fSplit wa wb) := ⟨pe_split ha.pe hb.pe hs hbase hline, snd_m1 (fun bx T H z y dy Qd Q g r p h => by
  cases r with
  | str b => exact ⟨_, _, rfl, rfl, h.1, h.2.1, fun q hq => p.lst g hq (RPs.ofStrs _) h.2.2⟩
  | _ => exact False.elim h) ha.sn hb.sn⟩
theorem ejoin {apos : Pos} (ha : PEW X a ta wa) (hb : PEW X b tb wb) (hs : starEach [b] X.env = [(false, eval b X.env)] := by rfl) (hbase : attributeBase a "join" X.env (eval a X.env) = eval a X.env := by rfl) (hline : (apos.endLine == pos.line) = true := by rfl) :
    PEW X (.Call (.Attribute a "join" apos) [b] [] pos) (tM1 (rJoin X.K) ta tb) (wM1 fJoin wa wb) := ⟨pe_join ha.pe hb.pe hs hbase hline, snd_m1 (fun bx T H z y dy Qd Q g r p h => by
  cases r with
  | lst hx nx rx =>
    obtain ⟨ys, h1, h2, h3⟩ := h
    exact ⟨_, _, ys, rfl, rfl, Or.inl (SqL.of (by rw [← strs_of rx h1]; exact hx)), h2, p.here g (.str _) h3⟩
  | tup hx rx =>
    obtain ⟨ys, h1, h2, h3⟩ := h
    exact ⟨_, _, ys, rfl, rfl, Or.inr (by rw [← strs_of rx h1]; exact hx.sq), h2, p.here g (.str _) h3⟩
  | _ => exact False.elim h) ha.sn hb.sn⟩
/-! x.index(y): a sign's place in a text (found), an item's place in a list -/
def oSIndex : Str → D → (D → Prop) → Prop := fun a y Q => match y with
  | .str b => ∃ i rest, Builtin.Str.occurrences a b 0 a.length 1 = i :: rest ∧ Q (.int (i : Nat))
  | _ => False
def rSIndex : V → List V → Hp → VK → Prop := fun x xs H Q => ∃ a b i rest, x = .str a ∧ xs = [.str b] ∧ Builtin.Str.occurrences a b 0 a.length 1 = i :: rest ∧ Q (.int (i : Nat)) H
theorem esindex {apos : Pos} (ha : PEW X a ta wa) (hb : PEW X b tb wb) (hs : starEach [b] X.env = [(false, eval b X.env)] := by rfl) (hbase : attributeBase a "index" X.env (eval a X.env) = eval a X.env := by rfl) (hline : (apos.endLine == pos.line) = true := by rfl) :
    PEW X (.Call (.Attribute a "index" apos) [b] [] pos) (tM1 rSIndex ta tb) (wM1 oSIndex wa wb) := ⟨pe_m1 PySem.F.slot_str_index PySem.F.type_str_index mt_sindex ha.pe hb.pe hs hbase hline, snd_m1 (fun bx T H z y dy Qd Q g r p h => by
  cases r with
  | str b =>
    obtain ⟨i, rest, h1, h2⟩ := h
    exact ⟨_, _, _, _, rfl, rfl, h1, p.here g (.int _) h2⟩
  | _ => exact False.elim h) ha.sn hb.sn⟩
/-- list.index(x) found -/
def wL1 (f : List D → D → (D → Prop) → Prop) (a b : EW) : EW := fun δ Q => a δ fun x => match x with
  | .list z => b δ fun y => f z y Q
  | _ => False
def oLIndex : List D → D → (D → Prop) → Prop := fun ds y Q => SeqAt.shaped (.list ds) = true ∧ SeqAt.shaped y = true ∧
  ∃ (j : Nat) (z : D), ds[j]? = some z ∧ PyData.eqv z y = true ∧ (∀ (m : Nat) (z' : D), m < j → ds[m]? = some z' → PyData.eqv z' y = false) ∧ Q (.int (j : Nat))
theorem elindex {apos : Pos} (hu : X.A.units + 65 < cLine) (ha : PEW X a ta wa) (hb : PEW X b tb wb)
    (hbase : attributeBase a "index" X.env (eval a X.env) = eval a X.env := by rfl)
    (hfew : ((backTo pos (starEach [b] X.env)).all (fun x => !x.1) && (backToKw pos (keywordEach [] X.env)).all (fun x => x.1.isSome)
      && decide ([b].length + ([] : List Keyword).length + (if ([] : List Keyword).isEmpty then 0 else 1) < 30)) = true := by rfl)
    (hline : (apos.endLine == pos.line) = true := by rfl) (hs : starEach [b] X.env = (false, eval b X.env) :: starEach [] X.env := by rfl) (hplain : (backTo pos (starEach [] X.env)).any (·.1) = false := by rfl) :
    PEW X (.Call (.Attribute a "index" apos) [b] [] pos) (tBM X.K "list" (rIndexD X.K) ta (tCons tb tNil)) (wL1 oLIndex wa wb) :=
  ⟨pe_bm PySem.F.plainAttrs_list PySem.F.slot_list_index PySem.F.type_list_index (mt_indexD hu) ha.pe (pa_cons hb.pe pa_nil hs) hbase hfew hline hs hplain, fun bx T σ H δ Qd Q g en p q =>
  ha.sn bx T σ H δ _ _ g en (fun d x H1 e1 b1 r1 h1 => by
    have g1 := g.on e1 b1
    cases r1 with
    | lst hx nx rx =>
      refine ⟨Or.inl ⟨rfl, _, SqL.of hx⟩, hb.sn bx T σ H1 δ _ _ g1 (en.on g e1) (fun d2 y H2 e2 b2 r2 h2 => ?_) h1⟩
      obtain ⟨s1, s2, j, z, h3, h4, h5, h6⟩ := h2
      have g2 := g1.on e2 b2
      exact ⟨_, _, _, _, j, z, rfl, rfl, ((RP.lst hx nx rx).on g1 e2).dp (SeqAt.canLay_of_shaped s1), r2.dp (SeqAt.canLay_of_shaped s2), s1, s2, h3, h4, h5, (p.on (e1.trans e2)).here g2 (.int _) h6⟩
    | _ => exact False.elim h1) q⟩
/-! -i of an int -/
def oNeg : O1 := fun x Q => match x with
  | .int i => Q (.int (-i))
  | _ => False
theorem eneg (ha : PEW X a ta wa) : PEW X (.UnaryOp .USub a pos) (tUn (rU fun i => .int (-i)) ta) (wUn oNeg wa) := ⟨pe_un un_neg ha.pe, snd_un (fun bx T H x dx Qd Q g r p h => by
  cases r with
  | int i => exact ⟨i, rfl, p.here g (.int _) h⟩
  | _ => exact False.elim h) ha.sn⟩
end
/-! ### the text's own defs -/
/-- a def by its data: f tells, of the arguments' data and a wish, what holds -/
def spW (K : PySem.W.Frag) (n : Nat) (f : OL) : Sp := fun vs H Q _ => ∃ bx T ds Qd, ds.length = n ∧ Good bx T H ∧ RPs K bx T H vs ds ∧ Post K bx T H Qd Q ∧ f ds Qd
theorem spW_len {K : PySem.W.Frag} {n : Nat} {f : OL} {vs : List V} {H : Hp} {Q : VK} {E : XK} (h : spW K n f vs H Q E) : vs.length = n := by
  obtain ⟨bx, T, ds, Qd, e, _, r, _⟩ := h
  rw [r.length, e]
section
variable {X : Cx} {a b c e : Expr} {es : List Expr} {ta tb tc te : TE} {wa wb wc we : EW} {tr : TA} {wr : AW} {pos p2 : Pos}
theorem snd_call {K : PySem.W.Frag} {n : Nat} {f : OL} {E : XK} (hr : SndA K tr wr) : SndE K (tCall (spW K n f) [] E tr) (fun δ Q => wr δ fun ds => ds.length = n ∧ f ds Q) := fun bx T σ H δ Qd Q g e p h =>
  hr bx T σ H δ _ _ g e (fun ds vs H1 e1 b1 r1 h1 => ⟨bx, T, ds, Qd, h1.1, g.on e1 b1, by rw [List.append_nil]; exact r1, p.on e1, h1.2⟩) h
def wFn (n : Nat) (f : OL) (wr : AW) : EW := fun δ Q => wr δ fun ds => ds.length = n ∧ f ds Q
theorem ecall {k n : Nat} {fa : Addr} {fd : FuncData} {ps : List Str} {x : Str} {f : OL} (F : FnOk X.prog X.w X.K X.mg X.base CX0 k fa fd ps (spW X.K n f)) (hr : Room k X.A) (hm : X.mg x = some (.ref fa)) (hk : PySem.W.keepIn X.K (.ref fa) = true) (hb : Binds X.K fd ps [])
    (ha : PAW X (e :: es) tr wr) (hg : Gl X x := by rfl) (hdb : (x == ("__debug__" : Str)) = false := by decide) (he : starEach (e :: es) X.env = (false, eval e X.env) :: starEach es X.env := by rfl) (hpl : (backTo pos (starEach es X.env)).any (·.1) = false := by rfl) :
    PEW X (.Call (.Name x p2) (e :: es) [] pos) (tCall (spW X.K n f) [] E0 tr) (wFn n f wr) := ⟨pe_call F hr hg hm hk hb .nil pass0 ha.pa hdb he hpl, snd_call ha.sn⟩
theorem ecall0 {k n : Nat} {fa : Addr} {fd : FuncData} {ps : List Str} {x : Str} {f : OL} (F : FnOk X.prog X.w X.K X.mg X.base CX0 k fa fd ps (spW X.K n f)) (hr : Room k X.A) (hm : X.mg x = some (.ref fa)) (hk : PySem.W.keepIn X.K (.ref fa) = true) (hb : Binds X.K fd ps [])
    (hg : Gl X x := by rfl) (hdb : (x == ("__debug__" : Str)) = false := by decide) : PEW X (.Call (.Name x p2) [] [] pos) (tCall (spW X.K n f) [] E0 tNil) (wFn n f wNil) := ⟨pe_call0 F hr hg hm hk hb .nil pass0 hdb, snd_call snd_nil⟩
end
end Wy

set_option Elab.async false
set_option linter.all false
set_option maxRecDepth 100000
set_option maxHeartbeats 2000000
/-! W5: what loops walk, targets, list comprehensions. -/
namespace Wy
open PySem L2

/-- all that was known is as it was -/
def Kept (T T' : Addr → Prop) (H H' : Hp) : Prop := ∀ a o, ¬ T a → H a = some o → H' a = some o ∧ ¬ T' a
/-- J yields ds one by one, whatever has been done since to what may change -/
def Drives (K : PySem.W.Frag) (bx : Bx) (T : Addr → Prop) (H : Hp) (J : It) (ds : List D) : Prop := ∀ (T' : Addr → Prop) H', Kept T T' H H' → (∀ p, T' p → ∃ o, H' p = some o) → ∀ i, (ds.length ≤ i → J.stop i H') ∧
  ∀ d, ds[i]? = some d → J.go i H' ∧ ∀ x H2, J.yld i H' x H2 → (∀ a o, H' a = some o → H2 a = some o) ∧ RP K bx T' H2 x d
abbrev IW := DE → (List D → Prop) → Prop
def SndI (K : PySem.W.Frag) (t : TI) (w : IW) : Prop := ∀ bx T σ H δ (Qd : List D → Prop) (R : It → Hp → Prop), Good bx T H → RPe K bx T H σ δ → (∀ ds J H', Ext bx H H' → BoxOk bx H' → Drives K bx T H' J ds → Qd ds → R J H') → w δ Qd → t σ H R
structure PIW (X : Cx) (tg e : Expr) (t : TI) (w : IW) : Prop where
  pi : PI X tg e t
  sn : SndI X.K t w
def itemsD : D → Option (List D)
  | .list xs => some xs
  | .tuple xs => some xs
  | .str z => some (z.cps.toList.map fun c => .str ⟨#[c]⟩)
  | _ => none
def wIter (w : EW) : IW := fun δ Q => w δ fun d => match itemsD d with
  | some ds => Q ds
  | none => False
def iAny (K : PySem.W.Frag) (te : TE) : TI := fun σ H R => te σ H fun x H1 => ((∃ a xs, x = .ref a ∧ SqL K H1 a xs ∧ R (Itl K a) H1) ∨ (∃ a xs, x = .ref a ∧ SqT K H1 a xs ∧ R (Itt K a) H1)) ∨ ∃ z, x = .str z ∧ R (Its z) H1
theorem pi_any {X : Cx} {tg e : Expr} {te : TE} (he : PE X e te) : PI X tg e (iAny X.K te) := by
  refine ⟨fun pins s σ H R I h => ?_⟩
  refine thn (he.run pins s σ H _ I h) fun v s1 ⟨y, H1, I1, r1, q⟩ => ?_
  rcases q with (⟨a, xs, e, hq, q⟩ | ⟨a, xs, e, hq, q⟩) | ⟨x, ex, q⟩
  · subst e
    cases r1
    obtain ⟨its, rv, p, hz⟩ := I1.list hq
    refine wpAny_pyIter_list p.isList ?_
    exact pi_one (tk := s1.toks) I1 _ (turn_list a _) ⟨_, Heap.get?_push_size _ rfl, rfl, rfl⟩ q
  · subst e
    cases r1
    obtain ⟨its, rv, p, hz⟩ := I1.tuple hq
    refine wpAny_pyIter_tuple (show s1.heap.IsTuple a its.toArray from p) ?_
    exact pi_one (tk := s1.toks) I1 _ (turn_tuple a _) ⟨_, Heap.get?_push_size _ rfl, rfl, rfl⟩ q
  · subst ex
    obtain ⟨t, rfl⟩ := r1
    cases ha : x.cps.all (· < 128)
    · exact wpAny_pyIter_wide ha (pi_one (tk := s1.toks) I1 _ (turn_str _ x t "str_iterator" (.inr rfl)) ⟨_, Heap.get?_push_size _ rfl, rfl, rfl⟩ q)
    · exact wpAny_pyIter_ascii ha (pi_one (tk := s1.toks) I1 _ (turn_str _ x t "str_ascii_iterator" (.inl rfl)) ⟨_, Heap.get?_push_size _ rfl, rfl, rfl⟩ q)
section
variable {K : PySem.W.Frag} {bx : Bx} {T T' : Addr → Prop} {H H' : Hp}
theorem drives_list {a : Addr} {xs : List V} {ds : List D} (ha : H a = some (.lst xs)) (na : ¬ T a) (ra : RPs K bx T H xs ds) : Drives K bx T H (Itl K a) ds := fun T' H' k _ i => by
  have h1 := (k _ _ na ha).1
  have r1 := ra.move (fun _ z => z) k
  refine ⟨fun hi => ⟨xs, SqL.of h1, by rw [ra.length]; exact hi⟩, fun d hd => ?_⟩
  obtain ⟨v, hv, rv⟩ := r1.get hd
  refine ⟨⟨xs, v, SqL.of h1, hv⟩, fun x H2 hy => ?_⟩
  obtain ⟨e, hx⟩ := hy
  subst e
  have e2 := hx xs (SqL.of h1)
  rw [hv] at e2
  cases e2
  exact ⟨fun _ _ z => z, rv⟩
theorem drives_tup {a : Addr} {xs : List V} {ds : List D} (ha : TupAt K T H a xs) (ra : RPs K bx T H xs ds) : Drives K bx T H (Itt K a) ds := fun T' H' k _ i => by
  have h1 : TupAt K T' H' a xs := by
    rcases ha with ⟨n, h⟩ | h
    · exact Or.inl ⟨(k _ _ n h).2, (k _ _ n h).1⟩
    · exact Or.inr h
  have r1 := ra.move (fun _ z => z) k
  refine ⟨fun hi => ⟨xs, h1.sq, by rw [ra.length]; exact hi⟩, fun d hd => ?_⟩
  obtain ⟨v, hv, rv⟩ := r1.get hd
  refine ⟨⟨xs, v, h1.sq, hv⟩, fun x H2 hy => ?_⟩
  obtain ⟨e, hx⟩ := hy
  subst e
  have e2 := hx xs h1.sq
  rw [hv] at e2
  cases e2
  exact ⟨fun _ _ z => z, rv⟩
theorem drives_str {z : Str} : Drives K bx T H (Its z) (z.cps.toList.map fun c => .str ⟨#[c]⟩) := fun T' H' k _ i => by
  refine ⟨fun hi => ?_, fun d hd => ?_⟩
  · rw [List.length_map, Array.length_toList] at hi
    exact hi
  · rw [List.getElem?_map] at hd
    cases e : z.cps.toList[i]? with
    | none => rw [e] at hd; cases hd
    | some c =>
      rw [e] at hd
      cases hd
      have e2 : z.cps[i]? = some c := by rw [← Array.getElem?_toList]; exact e
      refine ⟨?_, fun x H2 hy => ?_⟩
      · have := (List.getElem?_eq_some_iff.mp e).1
        rwa [Array.length_toList] at this
      · obtain ⟨e3, c2, hc, ex⟩ := hy
        subst e3
        rw [e2] at hc
        cases hc
        subst ex
        exact ⟨fun _ _ z => z, .str _⟩
def rangeD (lo : Int) (n : Nat) : List D := (List.range n).map fun (i : Nat) => PyData.int (lo + (i : Int))
theorem drives_range {lo : Int} {n : Nat} : Drives K bx T H (Itr lo n) (rangeD lo n) := fun T' H' k _ i => by
  have hl : (rangeD lo n).length = n := by unfold rangeD; rw [List.length_map, List.length_range]
  refine ⟨fun hi => ?_, fun d hd => ?_⟩
  · rw [hl] at hi
    exact hi
  · have hlt : i < n := by
      have := (List.getElem?_eq_some_iff.mp hd).1
      rwa [hl] at this
    have e : (rangeD lo n)[i]? = some (.int (lo + (i : Int))) := by
      unfold rangeD
      rw [List.getElem?_map, List.getElem?_range hlt]
      rfl
    rw [e] at hd
    cases hd
    refine ⟨hlt, fun x H2 hy => ?_⟩
    obtain ⟨e3, ex⟩ := hy
    subst e3
    subst ex
    exact ⟨fun _ _ z => z, .int _⟩
end
section
variable {X : Cx} {tg a b e : Expr} {es : List Expr} {te ta tb : TE} {we wa wb : EW} {pos p2 : Pos}
theorem iter (he : PEW X e te we) : PIW X tg e (iAny X.K te) (wIter we) := ⟨pi_any he.pe, fun bx T σ H δ Qd R g en p q =>
  he.sn bx T σ H δ _ _ g en (fun d x H1 e1 b1 r1 h1 => by
    cases r1 with
    | lst ha na ra => exact Or.inl (Or.inl ⟨_, _, rfl, SqL.of ha, p _ _ H1 e1 b1 (drives_list ha na ra) h1⟩)
    | tup ha ra => exact Or.inl (Or.inr ⟨_, _, rfl, ha.sq, p _ _ H1 e1 b1 (drives_tup ha ra) h1⟩)
    | str z => exact Or.inr ⟨z, rfl, p _ _ H1 e1 b1 drives_str h1⟩
    | _ => exact False.elim h1) q⟩
def wRng1 (w : EW) : IW := fun δ Q => w δ fun d => match d with
  | .int j => (-(2 ^ 62) ≤ j ∧ j < 2 ^ 62) ∧ Q (rangeD 0 j.toNat)
  | _ => False
def wRng2 (a b : EW) : IW := fun δ Q => a δ fun x => b δ fun y => match x, y with
  | .int i, .int j => (-(2 ^ 62) ≤ i ∧ i < 2 ^ 62 ∧ -(2 ^ 62) ≤ j ∧ j < 2 ^ 62) ∧ Q (rangeD i (j - i).toNat)
  | _, _ => False
theorem irng1 (hm : X.mg "range" = none) (ha : PEW X a ta wa) (hg : Gl X "range" := by rfl) (hs : starEach [a] X.env = [(false, eval a X.env)] := by rfl) : PIW X tg (.Call (.Name "range" p2) [a] [] pos) (iRng1 (tCons ta tNil)) (wRng1 wa) :=
  ⟨pi_range1 hg hm (pa_cons ha.pe pa_nil hs) hs, fun bx T σ H δ Qd R g en p q =>
  ha.sn bx T σ H δ _ _ g en (fun d x H1 e1 b1 r1 h1 => by
    cases r1 with
    | int j => exact ⟨j, rfl, h1.1.1, h1.1.2, p _ _ H1 e1 b1 drives_range h1.2⟩
    | _ => exact False.elim h1) q⟩
theorem irng2 (hm : X.mg "range" = none) (ha : PEW X a ta wa) (hb : PEW X b tb wb) (hg : Gl X "range" := by rfl) (hs : starEach [a, b] X.env = [(false, eval a X.env), (false, eval b X.env)] := by rfl) (hs2 : starEach [b] X.env = [(false, eval b X.env)] := by rfl) :
    PIW X tg (.Call (.Name "range" p2) [a, b] [] pos) (iRng2 (tCons ta (tCons tb tNil))) (wRng2 wa wb) :=
  ⟨pi_range2 hg hm (pa_cons ha.pe (pa_cons hb.pe pa_nil hs2) (by rw [hs, hs2])) hs hs2, fun bx T σ H δ Qd R g en p q =>
  ha.sn bx T σ H δ _ _ g en (fun d x H1 e1 b1 r1 h1 => hb.sn bx T σ H1 δ _ _ (g.on e1 b1) (en.on g e1) (fun d2 y H2 e2 b2 r2 h2 => by
    cases r1 with
    | int i =>
      cases r2 with
      | int j => exact ⟨i, j, rfl, h2.1, p _ _ H2 (e1.trans e2) b2 drives_range h2.2⟩
      | _ => exact False.elim h2
    | _ => cases r2 <;> exact False.elim h2) h1) q⟩
/-! enumerate(xs), xs a list -/
def enumD (ds : List D) : List D := (ds.zipIdx).map fun p => .tuple [.int (p.2 : Nat), p.1]
def wEnum (w : EW) : IW := fun δ Q => w δ fun d => match d with
  | .list ds => Q (enumD ds)
  | _ => False
theorem enum_get {ds : List D} {i : Nat} {d : D} (h : (enumD ds)[i]? = some d) : ∃ x, ds[i]? = some x ∧ d = .tuple [.int (i : Nat), x] := by
  unfold enumD at h
  rw [List.getElem?_map, List.getElem?_zipIdx] at h
  cases e : ds[i]? with
  | none => rw [e] at h; cases h
  | some x =>
    rw [e] at h
    cases h
    exact ⟨x, rfl, by simp⟩
theorem drives_enum {K : PySem.W.Frag} {bx : Bx} {T : Addr → Prop} {H : Hp} {a : Addr} {xs : List V} {ds : List D} (ha : H a = some (.lst xs)) (na : ¬ T a) (ra : RPs K bx T H xs ds) : Drives K bx T H (Ite K a) (enumD ds) := fun T' H' k kn i => by
  have h1 := (k _ _ na ha).1
  have r1 := ra.move (fun _ z => z) k
  have hl : (enumD ds).length = ds.length := by unfold enumD; rw [List.length_map, List.length_zipIdx]
  refine ⟨fun hi => ⟨xs, SqL.of h1, by rw [ra.length, ← hl]; exact hi⟩, fun d hd => ?_⟩
  obtain ⟨y, hy, ed⟩ := enum_get hd
  subst ed
  obtain ⟨v, hv, rv⟩ := r1.get hy
  refine ⟨⟨xs, v, SqL.of h1, hv⟩, fun x H2 hq => ?_⟩
  obtain ⟨t, x', ex, ht, e, hx⟩ := hq
  have e2 := hx xs (SqL.of h1)
  rw [hv] at e2
  cases e2
  subst ex
  subst e
  have nt : ¬ T' t := fun z => by
    obtain ⟨o, ho⟩ := kn t z
    rw [ht] at ho
    cases ho
  have kp : ∀ b o, H' b = some o → upd H' t (.tup [.int (i : Nat), v]) b = some o := fun b o hb => by rw [upd_ne (ne_of_none hb ht)]; exact hb
  exact ⟨kp, .tup (.inl ⟨nt, upd_same⟩) (.cons (.int _) (.cons (rv.move (fun _ z => z) fun b o n hb => ⟨kp b o hb, n⟩) .nil))⟩
theorem ienum {elts : List Expr} {kk : Nat} {tpos : Pos} (hm : X.mg "enumerate" = none) (ha : PEW X a ta wa) (hg : Gl X "enumerate" := by rfl) (hs : starEach [a] X.env = [(false, eval a X.env)] := by rfl) :
    PIW X (.Tuple elts kk tpos) (.Call (.Name "enumerate" p2) [a] [] pos) (iEnum X.K (tCons ta tNil)) (wEnum wa) := ⟨pi_enum hg hm (pa_cons ha.pe pa_nil hs) hs, fun bx T σ H δ Qd R g en p q =>
  ha.sn bx T σ H δ _ _ g en (fun d x H1 e1 b1 r1 h1 => by
    cases r1 with
    | lst hx nx rx => exact ⟨_, _, rfl, SqL.of hx, p _ _ H1 e1 b1 (drives_enum hx nx rx) h1⟩
    | _ => exact False.elim h1) q⟩
end
/-! ### targets: u tells what of a datum goes to the slots is -/
def SndG (K : PySem.W.Frag) (g : TG) (is : List Nat) (u : D → Option (List D)) : Prop := ∀ bx T v d ds σ H (Q : L2.St → Hp → Prop), RP K bx T H v d → u d = some ds → (∀ vs, RPs K bx T H vs ds → Q (putV σ is vs) H) → g v σ H Q
structure PGW (X : Cx) (tg : Expr) (g : TG) (is : List Nat) (u : D → Option (List D)) : Prop where
  pg : PG X tg g
  sn : SndG X.K g is u
def uName : D → Option (List D) := fun d => some [d]
def uTup (n : Nat) : D → Option (List D) := fun d => match d with
  | .tuple ds => if ds.length = n then some ds else none
  | _ => none
inductive GsIs : TGs → List Nat → Prop
  | nil : GsIs gNil []
  | cons (i : Nat) {t : TGs} {is : List Nat} : GsIs t is → GsIs (gCons (gName i) t) (i :: is)
theorem GsIs.run {t : TGs} {is : List Nat} (g : GsIs t is) : ∀ {vs : List V} {σ : L2.St} {H : Hp} {Q : L2.St → Hp → Prop}, vs.length = is.length → Q (putV σ is vs) H → t vs σ H Q := by
  induction g with
  | nil => intro vs σ H Q e q; cases vs with
    | nil => exact ⟨rfl, q⟩
    | cons => cases e
  | cons i g ih => intro vs σ H Q e q; cases vs with
    | nil => cases e
    | cons v r => exact ⟨v, r, rfl, ih (by simpa using e) q⟩
section
variable {X : Cx} {tg : Expr} {pos : Pos}
theorem gnm (i : Nat) {x : Str} (hN : X.N.Nodup) (hi : X.N[i]? = some x := by rfl) (hx : Loc X.env.scope x := by first | exact Or.inl rfl | exact Or.inr rfl) (hf : X.fn x = true ∨ X.env.scope.names.lookup x = some .local := by first | exact .inl rfl | exact .inr rfl) :
    PGW X (.Name x pos) (gName i) [i] uName := ⟨pg_name hN hi hx hf, fun bx T v d ds σ H Q r e q => by
  cases e
  exact q [v] (.cons r .nil)⟩
structure PGsW (X : Cx) (es : List Expr) (t : TGs) (is : List Nat) : Prop where
  pg : PGs X es t
  is : GsIs t is
theorem gsn : PGsW X [] gNil [] := ⟨pgs_nil, .nil⟩
theorem gsc {es : List Expr} {t : TGs} {is : List Nat} (i : Nat) {x : Str} (hN : X.N.Nodup) (h : PGsW X es t is) (hi : X.N[i]? = some x := by rfl) (hx : Loc X.env.scope x := by first | exact Or.inl rfl | exact Or.inr rfl) (hf : X.fn x = true ∨ X.env.scope.names.lookup x = some .local := by first | exact .inl rfl | exact .inr rfl)
    (hs : (assignEach (.Name x pos :: es) X.env).map (·.2) = assign (.Name x pos) X.env :: (assignEach es X.env).map (·.2) := by rfl) : PGsW X (.Name x pos :: es) (gCons (gName i) t) (i :: is) := ⟨pgs_cons (pg_name hN hi hx hf) h.pg hs, .cons i h.is⟩
theorem gtup {es : List Expr} {k n : Nat} {t : TGs} {is : List Nat} (hc : X.calm = true) (h : PGsW X es t is) (hn : (assignEach es X.env).length = n := by rfl) (hl : is.length = n := by rfl) (hst : (assignEach es X.env).findIdx? (·.1) = none := by rfl) :
    PGW X (.Tuple es k pos) (gTup X.K n t) is (uTup n) := ⟨pg_tup hc h.pg hn hst, fun bx T v d ds σ H Q r e q => by
  cases r with
  | tup ha ra =>
    have e2 : (if _ = n then some _ else none) = some ds := e
    split at e2
    · rename_i z
      cases e2
      exact ⟨_, _, rfl, ha.sq, by rw [ra.length, z], h.is.run (by rw [ra.length, z, hl]) (q _ ra)⟩
    · cases e2
  | _ => cases e⟩
end
/-! ### list comprehensions -/
def wipeD (δ : DE) : List Nat → DE
  | [] => δ
  | v :: vs => (wipeD δ vs).set v none
theorem RPe.wipes {K : PySem.W.Frag} {bx : Bx} {T : Addr → Prop} {H : Hp} {σ : L2.St} {δ : DE} (r : RPe K bx T H σ δ) : ∀ vs : List Nat, RPe K bx T H (L2.wipe σ vs) (wipeD δ vs)
  | [] => r
  | v :: vs => (RPe.wipes r vs).wipe v none
theorem set_none_set (σ : L2.St) (i j : Nat) (o o' : Option V) (h : i ≠ j) : (σ.set i o).set j o' = (σ.set j o').set i o := List.set_comm _ _ h
theorem wipe_set {i : Nat} {o : Option V} : ∀ {vs : List Nat} {σ : L2.St}, i ∈ vs → L2.wipe (σ.set i o) vs = L2.wipe σ vs
  | v :: vs, σ, h => by
    show (L2.wipe (σ.set i o) vs).set v none = (L2.wipe σ vs).set v none
    by_cases e : i ∈ vs
    · rw [wipe_set e]
    · have e2 : i = v := by
        rcases List.mem_cons.mp h with h | h
        · exact h
        · exact absurd h e
      subst e2
      clear h
      revert e
      induction vs generalizing σ with
      | nil => intro _; show (σ.set i o).set i none = σ.set i none; rw [List.set_set]
      | cons w ws ih =>
        intro e
        have ne : w ≠ i := fun z => e (by rw [z]; exact List.mem_cons_self)
        show ((L2.wipe (σ.set i o) ws).set w none).set i none = ((L2.wipe σ ws).set w none).set i none
        rw [set_none_set _ _ _ _ _ ne, set_none_set (L2.wipe σ ws) _ _ _ _ ne, ih (σ := σ) (fun z => e (List.mem_cons_of_mem _ z))]
theorem wipe_idem (σ : L2.St) {vs : List Nat} : ∀ ws : List Nat, (∀ i ∈ ws, i ∈ vs) → L2.wipe (L2.wipe σ ws) vs = L2.wipe σ vs
  | [], _ => rfl
  | w :: ws, h => by
    show L2.wipe ((L2.wipe σ ws).set w none) vs = _
    rw [wipe_set (h w List.mem_cons_self), wipe_idem σ ws fun i hi => h i (List.mem_cons_of_mem _ hi)]
theorem wipe_put {ws : List Nat} {is : List Nat} : ∀ {σ : L2.St} {vs : List V}, (∀ i ∈ is, i ∈ ws) → L2.wipe (putV σ is vs) ws = L2.wipe σ ws := by
  induction is with
  | nil => intro σ vs _; cases vs <;> rfl
  | cons i is ih =>
    intro σ vs h
    cases vs with
    | nil => rfl
    | cons v vs =>
      show L2.wipe (putV (σ.set i (some v)) is vs) ws = _
      rw [ih fun j hj => h j (List.mem_cons_of_mem _ hj), wipe_set (h i List.mem_cons_self)]
/-- an expression that gives a new list -/
abbrev NW := DE → (List D → Prop) → Prop
def SndN (K : PySem.W.Frag) (t : TE) (w : NW) : Prop := ∀ bx T σ H δ (Qd : List D → Prop) (Q : VK), Good bx T H → RPe K bx T H σ δ →
  (∀ ds vs a H', Ext bx H H' → BoxOk bx H' → H a = none → H' a = some (.lst vs) → RPs K bx (fun b => T b ∨ b = a) H' vs ds → Qd ds → Q (.ref a) H') → w δ Qd → t σ H Q
def wN (w : NW) : EW := fun δ Q => w δ fun ds => Q (.list ds)
theorem SndN.e {K : PySem.W.Frag} {t : TE} {w : NW} (h : SndN K t w) : SndE K t (wN w) := fun bx T σ H δ Qd Q g en p q =>
  h bx T σ H δ _ _ g en (fun ds vs a H' e b n hn r hq => p _ _ H' e b (.lst hn (g.new n) (r.move (fun _ z => z) fun x o nx hx => ⟨hx, fun z => nx (Or.inl z)⟩)) hq) q
def lcN (δ : DE) (is : List Nat) (u : D → Option (List D)) (wt : TW) (we : EW) : List D → List D → (List D → Prop) → Prop
  | [], acc, Q => Q acc
  | d :: r, acc, Q => ∃ ds, u d = some ds ∧ wt (putD δ is ds) fun b => if b = true then we (putD δ is ds) fun y => acc.length < sizeLine ∧ lcN δ is u wt we r (acc ++ [y]) Q else lcN δ is u wt we r acc Q
def wLcN (wi : IW) (is : List Nat) (u : D → Option (List D)) (wt : TW) (we : EW) (vs : List Nat) : NW := fun δ Q => wi δ fun ds => lcN (wipeD δ vs) is u wt we ds [] Q
theorem snd_lcN {K : PySem.W.Frag} {wi : TI} {g : TG} {tt : TT} {te : TE} {vs is : List Nat} {u : D → Option (List D)} {ww : IW} {wt : TW} {we : EW} (hi : SndI K wi ww) (hg : SndG K g is u) (ht : SndT K tt wt) (he : SndE K te we) (hsub : ∀ i ∈ is, i ∈ vs) :
    SndN K (tLc wi g tt te vs) (wLcN ww is u wt we vs) := fun bx T σ H δ Qd Q gd en p q => by
  refine hi bx T σ H δ _ _ gd en (fun ds J H1 e1 b1 dr h1 => ?_) q
  intro Dn nD
  have g1 := gd.on e1 b1
  have nT : ¬ T Dn := g1.new nD
  have nB : ¬ isB bx Dn := fun ⟨a, z⟩ => by
    obtain ⟨_, ds', c, h, _⟩ := b1 Dn a z
    rw [nD] at h; cases h
  have n0 : H Dn = none := by
    cases z : H Dn with
    | none => rfl
    | some o =>
      have := e1 Dn o nB z
      rw [nD] at this; cases this
  let T1 : Addr → Prop := fun a => T a ∨ a = Dn
  have kT : Kept T T1 H1 H1 := fun a o n h => ⟨h, fun z => by
    rcases z with z | z
    · exact n z
    · rw [z, nD] at h; cases h⟩
  have en1 : RPe K bx T1 H1 (L2.wipe σ vs) (wipeD δ vs) := ((en.on gd e1).move kT).wipes vs
  let Inv' : Nat → Hp → Prop := fun i H2 => i ≤ ds.length ∧ Ext bx H1 H2 ∧ BoxOk bx H2 ∧ ∃ xs acc, H2 Dn = some (.lst xs) ∧ RPs K bx T1 H2 xs acc ∧ lcN (wipeD δ vs) is u wt we (ds.drop i) acc Qd
  refine ⟨fun i m H2 => m = ds.length - i ∧ Inv' i H2, ⟨_, rfl, Nat.zero_le _, ext_new nD, box_new nD b1, [], [], upd_same, .nil, h1⟩, ?_⟩
  rintro i m H2 ⟨rfl, hi2, e2, b2, xs, acc, hD, ra, hl⟩
  have g2 : Good bx T H2 := g1.on e2 b2
  have gT1 : Good bx T1 H2 := ⟨b2, fun b a e => Or.inl (g2.bxT b a e), fun a z => by
    rcases z with z | z
    · exact g2.kn a z
    · exact ⟨_, by rw [z]; exact hD⟩⟩
  have k2 : Kept T T1 H1 H2 := fun a o n h => ⟨(g1.ext e2 a o n h).1, (kT a o n h).2⟩
  obtain ⟨hs, hn⟩ := dr T1 H2 k2 gT1.kn i
  by_cases hlt : i < ds.length
  · obtain ⟨d, hd⟩ : ∃ d, ds[i]? = some d := ⟨ds[i], List.getElem?_eq_getElem hlt⟩
    have hdr : ds.drop i = d :: ds.drop (i + 1) := by
      rw [List.drop_eq_getElem_cons hlt]
      rw [List.getElem?_eq_getElem hlt] at hd
      cases hd; rfl
    obtain ⟨hgo, hy⟩ := hn d hd
    refine Or.inr ⟨hgo, fun H' => Inv' (i + 1) H', fun H' z => ⟨_, by omega, rfl, z⟩, fun x H3 hyl => ?_⟩
    obtain ⟨kp3, rx⟩ := hy x H3 hyl
    have e3 : Ext bx H2 H3 := fun a o _ h => kp3 a o h
    have b3 : BoxOk bx H3 := fun b a e => by
      obtain ⟨n, ds', c, z1, z2, z3⟩ := b2 b a e
      exact ⟨n, ds', c, kp3 _ _ z1, kp3 _ _ z2, z3⟩
    have g3 : Good bx T1 H3 := gT1.on e3 b3
    rw [hdr] at hl
    obtain ⟨us, hu, hw⟩ := hl
    refine hg bx T1 x d us _ H3 _ rx hu fun ws rw_ => ⟨(wipe_put hsub).trans (wipe_idem σ vs fun _ z => z), ?_⟩
    have en3 : RPe K bx T1 H3 (putV (L2.wipe σ vs) is ws) (putD (wipeD δ vs) is us) := (((en1.move fun a o n h => ⟨(g1.ext e2 a o (fun z => n (Or.inl z)) h).1, n⟩).on gT1 e3)).put rw_
    refine ht bx T1 _ H3 _ _ _ g3 en3 (fun b H4 e4 b4 h4 => ?_) hw
    have g4 : Good bx T1 H4 := g3.on e4 b4
    have hD4 : H4 Dn = some (.lst xs) := e4 _ _ nB (kp3 _ _ hD)
    have ra4 : RPs K bx T1 H4 xs acc := (ra.on gT1 e3).on g3 e4
    cases b with
    | true =>
      refine he bx T1 _ H4 _ _ _ g4 (en3.on g3 e4) (fun y v H5 e5 b5 r5 h5 => ?_) h4
      have hD5 : H5 Dn = some (.lst xs) := e5 _ _ nB hD4
      refine ⟨xs, hD5, by rw [ra.length]; exact h5.1, by omega, ?_, ?_, xs ++ [v], acc ++ [y], upd_same, ?_, h5.2⟩
      · intro a o n h
        by_cases z : a = Dn
        · rw [z, nD] at h; cases h
        · rw [upd_ne z]
          exact e5 a o n (e4 a o n (kp3 a o (e2 a o n h)))
      · intro b a e
        obtain ⟨n, ds', c, z1, z2, z3⟩ := b5 b a e
        obtain ⟨_, ds1, c1, y1, y2, _⟩ := b1 b a e
        refine ⟨n, ds', c, ?_, ?_, z3⟩
        · rw [upd_ne (ne_of_none y1 nD)]; exact z1
        · rw [upd_ne (ne_of_none y2 nD)]; exact z2
      · have kk : ∀ a o, ¬ T1 a → H5 a = some o → upd H5 Dn (.lst (xs ++ [v])) a = some o ∧ ¬ T1 a := fun a o n h => ⟨by
          rw [upd_ne (fun z => n (Or.inr z))]; exact h, n⟩
        exact (((ra4.on g4 e5).move (fun _ z => z) kk)).append (.cons (r5.move (fun _ z => z) kk) .nil)
    | false => exact ⟨by omega, (e2.trans e3).trans e4, b4, xs, acc, hD4, ra4, h4⟩
  · have hi3 : i = ds.length := by omega
    subst hi3
    refine Or.inl ⟨hs (Nat.le_refl _), ?_⟩
    rw [List.drop_length] at hl
    exact p _ _ _ H2 (e1.trans e2) b2 n0 hD ra hl
def wLc (wi : IW) (is : List Nat) (u : D → Option (List D)) (wt : TW) (we : EW) (vs : List Nat) : EW := wN (wLcN wi is u wt we vs)
theorem snd_lc {K : PySem.W.Frag} {wi : TI} {g : TG} {tt : TT} {te : TE} {vs is : List Nat} {u : D → Option (List D)} {ww : IW} {wt : TW} {we : EW} (hi : SndI K wi ww) (hg : SndG K g is u) (ht : SndT K tt wt) (he : SndE K te we) (hsub : ∀ i ∈ is, i ∈ vs) :
    SndE K (tLc wi g tt te vs) (wLc ww is u wt we vs) := (snd_lcN hi hg ht he hsub).e
section
variable {X : Cx} {elt tg it : Expr} {ifs : List Expr} {scope : Scope} {own : List (Str × Nat)} {pos : Pos} {ti : TI} {wi : IW} {g : TG} {is : List Nat} {u : D → Option (List D)} {tt : TT} {wt : TW} {te : TE} {we : EW}
structure PTsW (X : Cx) (ifs : List Expr) (t : TT) (w : TW) : Prop where
  pt : PTs X ifs t
  sn : SndT X.K t w
def wYes : TW := fun _ Q => Q true
theorem ts0 : PTsW X [] tYes wYes := ⟨pts_nil, fun bx T σ H δ Qd Q g e p q => p true H (Ext.refl _ _) g.box q⟩
theorem ts1 {c : Expr} (h : PTW X c tt wt) : PTsW X [c] tt wt := ⟨pts_one h.pt, h.sn⟩
theorem elc (hc : X.calm = true) (hN : X.N.Nodup) (hi : PIW X tg it ti wi) (ok : BlkOk X.N X.env.scope scope own)
    (hg : ∀ (s : Shared) (H : Hp) (C : Addr) (cl : List (Str × Addr)) (fp : List Addr), PGW (X.blk s H scope (compEnvC scope cl C X.env) fp) tg g is u) (ht : ∀ (s : Shared) (H : Hp) (C : Addr) (cl : List (Str × Addr)) (fp : List Addr), PTsW (X.blk s H scope (compEnvC scope cl C X.env) fp) ifs tt wt)
    (he : ∀ (s : Shared) (H : Hp) (C : Addr) (cl : List (Str × Addr)) (fp : List Addr), PEW (X.blk s H scope (compEnvC scope cl C X.env) fp) elt te we) (hsub : ∀ i ∈ is, i ∈ own.map (·.2) := by decide) (hs : ∀ x, foldedSetIterable it X.env x = pure x := by intro _; rfl) :
    PEW X (.ListComp elt [⟨tg, it, ifs, 0⟩] scope pos) (tLc ti g tt te (own.map (·.2))) (wLc wi is u wt we (own.map (·.2))) :=
  ⟨pe_lc hc hN hi.pi ok (fun s H C cl fp => (hg s H C cl fp).pg) (fun s H C cl fp => (ht s H C cl fp).pt) (fun s H C cl fp => (he s H C cl fp).pe) hs, by
    have z : Shared := {}
    exact snd_lc hi.sn (hg z (fun _ => none) 0 [] []).sn (ht z (fun _ => none) 0 [] []).sn (he z (fun _ => none) 0 [] []).sn hsub⟩
structure PNW (X : Cx) (e : Expr) (t : TE) (w : NW) : Prop where
  pe : PE X e t
  sn : SndN X.K t w
theorem nlc (hc : X.calm = true) (hN : X.N.Nodup) (hi : PIW X tg it ti wi) (ok : BlkOk X.N X.env.scope scope own)
    (hg : ∀ (s : Shared) (H : Hp) (C : Addr) (cl : List (Str × Addr)) (fp : List Addr), PGW (X.blk s H scope (compEnvC scope cl C X.env) fp) tg g is u) (ht : ∀ (s : Shared) (H : Hp) (C : Addr) (cl : List (Str × Addr)) (fp : List Addr), PTsW (X.blk s H scope (compEnvC scope cl C X.env) fp) ifs tt wt)
    (he : ∀ (s : Shared) (H : Hp) (C : Addr) (cl : List (Str × Addr)) (fp : List Addr), PEW (X.blk s H scope (compEnvC scope cl C X.env) fp) elt te we) (hsub : ∀ i ∈ is, i ∈ own.map (·.2) := by decide) (hs : ∀ x, foldedSetIterable it X.env x = pure x := by intro _; rfl) :
    PNW X (.ListComp elt [⟨tg, it, ifs, 0⟩] scope pos) (tLc ti g tt te (own.map (·.2))) (wLcN wi is u wt we (own.map (·.2))) :=
  ⟨pe_lc hc hN hi.pi ok (fun s H C cl fp => (hg s H C cl fp).pg) (fun s H C cl fp => (ht s H C cl fp).pt) (fun s H C cl fp => (he s H C cl fp).pe) hs, by
    have z : Shared := {}
    exact snd_lcN hi.sn (hg z (fun _ => none) 0 [] []).sn (ht z (fun _ => none) 0 [] []).sn (he z (fun _ => none) 0 [] []).sn hsub⟩
/-! a new list by other ways -/
theorem nlst {es : List Expr} {tr : TA} {wr : AW} (h : PAW X es tr wr) : PNW X (.List es pos) (tLst tr) (fun δ Q => wr δ fun xs => xs.length ≤ sizeLine ∧ Q xs) := ⟨pe_lst h.pa, fun bx T σ H δ Qd Q g e p q =>
  h.sn bx T σ H δ _ _ g e (fun ds vs H1 e1 b1 r1 h1 => ⟨by rw [r1.length]; exact h1.1, fun a na => by
    have g1 := g.on e1 b1
    have n0 : H a = none := by
      cases z : H a with
      | none => rfl
      | some o =>
        by_cases nb : isB bx a
        · obtain ⟨x, hx⟩ := nb
          obtain ⟨_, ds', c, h2, _⟩ := b1 a x hx
          rw [na] at h2; cases h2
        · have := e1 a o nb z
          rw [na] at this; cases this
    exact p ds vs a _ (e1.trans (ext_new na)) (box_new na b1) n0 upd_same (r1.move (fun _ z => z) fun x o nx hx => ⟨by rw [upd_ne (ne_of_none hx na)]; exact hx, fun z => by
      rcases z with z | z
      · exact nx z
      · rw [z, na] at hx; cases hx⟩) h1.2⟩) q⟩
end
end Wy

set_option Elab.async false
set_option linter.all false
set_option maxRecDepth 100000
set_option maxHeartbeats 2000000
/-! W6: statements, loops, own lists. -/
namespace Wy
open PySem L2

/-- a slot: data, or a list of the def's own that it may change -/
inductive Sl where
  | dat (d : D)
  | own (l : List D)
abbrev SE := List (Option Sl)
def slH : Option Sl → Option D
  | some (.dat d) => some d
  | _ => none
def slF : Option Sl → Option D
  | some (.dat d) => some d
  | some (.own l) => some (.list l)
  | none => none
/-- the slots as data: own lists hidden; own lists among them -/
def vH (ρ : SE) : DE := ρ.map slH
def vF (ρ : SE) : DE := ρ.map slF
def UM (M W : Addr → Prop) : Addr → Prop := fun a => M a ∨ W a
structure Gd (bx : Bx) (M W : Addr → Prop) (H : Hp) : Prop where
  box : BoxOk bx H
  bxM : ∀ b a, bx = some (b, a) → M b ∧ ¬ W a
  kn : ∀ p, M p ∨ W p → ∃ o, H p = some o
  dis : ∀ p, W p → ¬ M p
structure RS (K : PySem.W.Frag) (bx : Bx) (M W : Addr → Prop) (H : Hp) (σ : L2.St) (ρ : SE) : Prop where
  len : ρ.length ≤ σ.length
  dat : ∀ (i : Nat) d, ρ[i]? = some (some (.dat d)) → ∃ v, σ[i]? = some (some v) ∧ RP K bx (UM M W) H v d
  own : ∀ (i : Nat) l, ρ[i]? = some (some (.own l)) → ∃ p vs, σ[i]? = some (some (.ref p)) ∧ H p = some (.lst vs) ∧ RPs K bx (UM M W) H vs l ∧ W p
  ne : ∀ (i j : Nat) l l' p, i ≠ j → ρ[i]? = some (some (.own l)) → ρ[j]? = some (some (.own l')) → σ[i]? = some (some (.ref p)) → σ[j]? = some (some (.ref p)) → False
/-- what a statement may change -/
def Stp (bx : Bx) (W : Addr → Prop) (H : Hp) (W' : Addr → Prop) (H' : Hp) : Prop := ∀ p o, H p = some o → ¬ W p → ¬ isB bx p → H' p = some o ∧ ¬ W' p
theorem Stp.refl (bx : Bx) (W : Addr → Prop) (H : Hp) : Stp bx W H W H := fun _ _ h n _ => ⟨h, n⟩
theorem Stp.trans {bx : Bx} {W W1 W2 : Addr → Prop} {H H1 H2 : Hp} (a : Stp bx W H W1 H1) (b : Stp bx W1 H1 W2 H2) : Stp bx W H W2 H2 := fun p o h n m => b p o (a p o h n m).1 (a p o h n m).2 m
structure PsW where
  nx : SE → Prop
  rt : D → Prop
  bk : SE → Prop := fun _ => False
  ct : SE → Prop := fun _ => False
abbrev SW := SE → PsW → Prop
section
variable {K : PySem.W.Frag} {bx : Bx} {M W W' W1 : Addr → Prop} {H H1 H' : Hp} {σ : L2.St} {ρ : SE}
theorem Gd.good (g : Gd bx M W H) : Good bx (UM M W) H := ⟨g.box, fun b a e => Or.inl (g.bxM b a e).1, g.kn⟩
theorem Gd.goodM (g : Gd bx M W H) : Good bx M H := ⟨g.box, fun b a e => (g.bxM b a e).1, fun p h => g.kn p (Or.inl h)⟩
theorem Gd.nb (g : Gd bx M W H) {p : Addr} (h : W p) : ¬ isB bx p := fun ⟨a, e⟩ => g.dis p h (g.bxM p a e).1
theorem Gd.on (g : Gd bx M W H) (e : Ext bx H H1) (b : BoxOk bx H1) : Gd bx M W H1 := ⟨b, g.bxM, (g.good.on e b).kn, g.dis⟩
theorem Stp.of (e : Ext bx H H1) : Stp bx W H W H1 := fun p o h n m => ⟨e p o m h, n⟩
theorem Stp.kept (g : Gd bx M W H) (s : Stp bx W H W1 H1) : Kept (UM M W) (UM M W1) H H1 := fun a o n h => by
  have nb : ¬ isB bx a := fun ⟨x, e⟩ => n (Or.inl (g.bxM a x e).1)
  have z := s a o h (fun q => n (Or.inr q)) nb
  exact ⟨z.1, fun q => by
    rcases q with q | q
    · exact n (Or.inl q)
    · exact z.2 q⟩
theorem RS.on (g : Gd bx M W H) (e : Ext bx H H1) (r : RS K bx M W H σ ρ) : RS K bx M W H1 σ ρ := ⟨r.len, fun i d h =>
    let ⟨v, h1, h2⟩ := r.dat i d h
    ⟨v, h1, h2.on g.good e⟩, fun i l h =>
    let ⟨p, vs, h1, h2, h3, h4⟩ := r.own i l h
    ⟨p, vs, h1, e p _ (g.nb h4) h2, h3.on g.good e, h4⟩, r.ne⟩
theorem getH {i : Nat} {d : D} (h : (vH ρ)[i]? = some (some d)) : ρ[i]? = some (some (.dat d)) := by
  unfold vH at h
  rw [List.getElem?_map] at h
  cases e : ρ[i]? with
  | none => rw [e] at h; cases h
  | some o =>
    rw [e] at h
    cases o with
    | none => cases h
    | some s =>
      cases s with
      | dat x => cases h; rfl
      | own l => cases h
theorem getF {i : Nat} {d : D} (h : (vF ρ)[i]? = some (some d)) : ρ[i]? = some (some (.dat d)) ∨ ∃ l, ρ[i]? = some (some (.own l)) ∧ d = .list l := by
  unfold vF at h
  rw [List.getElem?_map] at h
  cases e : ρ[i]? with
  | none => rw [e] at h; cases h
  | some o =>
    rw [e] at h
    cases o with
    | none => cases h
    | some s =>
      cases s with
      | dat x => cases h; exact Or.inl rfl
      | own l => cases h; exact Or.inr ⟨l, rfl, rfl⟩
theorem RS.eH (r : RS K bx M W H σ ρ) : RPe K bx (UM M W) H σ (vH ρ) := ⟨by unfold vH; rw [List.length_map]; exact r.len, fun i d h => r.dat i d (getH h)⟩
theorem toM {a : Addr} {o : HO} : ¬ UM M W a → H a = some o → H a = some o ∧ ¬ M a := fun n h => ⟨h, fun z => n (Or.inl z)⟩
theorem RS.eF (g : Gd bx M W H) (r : RS K bx M W H σ ρ) : RPe K bx M H σ (vF ρ) := ⟨by unfold vF; rw [List.length_map]; exact r.len, fun i d h => by
  rcases getF h with hh | ⟨l, hh, e⟩
  · obtain ⟨v, h1, h2⟩ := r.dat i d hh
    exact ⟨v, h1, h2.move (fun _ z => z) fun a o => toM⟩
  · subst e
    obtain ⟨p, vs, h1, h2, h3, h4⟩ := r.own i l hh
    exact ⟨_, h1, .lst h2 (g.dis p h4) (h3.move (fun _ z => z) fun a o => toM)⟩⟩
/-- a slot gets data -/
theorem RS.set (r : RS K bx M W H σ ρ) (i : Nat) {v : V} {d : D} (h : RP K bx (UM M W) H v d) : RS K bx M W H (σ.set i (some v)) (ρ.set i (some (.dat d))) := ⟨by
    rw [List.length_set, List.length_set]; exact r.len, fun j e hj => by
    by_cases q : i = j
    · subst q
      have hl : i < ρ.length := by
        have := (List.getElem?_eq_some_iff.mp hj).1
        rwa [List.length_set] at this
      rw [List.getElem?_set_self hl] at hj
      cases hj
      exact ⟨v, List.getElem?_set_self (Nat.lt_of_lt_of_le hl r.len), h⟩
    · rw [List.getElem?_set_ne q] at hj ⊢
      exact r.dat j e hj, fun j e hj => by
    by_cases q : i = j
    · subst q
      have hl : i < ρ.length := by
        have := (List.getElem?_eq_some_iff.mp hj).1
        rwa [List.length_set] at this
      rw [List.getElem?_set_self hl] at hj
      cases hj
    · rw [List.getElem?_set_ne q] at hj ⊢
      exact r.own j e hj, fun a b l l' p nab ha hb sa sb => by
    have f : ∀ (j : Nat) l, (ρ.set i (some (.dat d)))[j]? = some (some (.own l)) → i ≠ j := fun j l hj q => by
      subst q
      have hl : i < ρ.length := by
        have := (List.getElem?_eq_some_iff.mp hj).1
        rwa [List.length_set] at this
      rw [List.getElem?_set_self hl] at hj
      cases hj
    have ia := f a l ha
    have ib := f b l' hb
    rw [List.getElem?_set_ne ia] at ha sa
    rw [List.getElem?_set_ne ib] at hb sb
    exact r.ne a b l l' p nab ha hb sa sb⟩
def putS : SE → List Nat → List D → SE
  | ρ, i :: is, d :: ds => putS (ρ.set i (some (.dat d))) is ds
  | ρ, _, _ => ρ
theorem RS.put {is : List Nat} : ∀ {σ : L2.St} {ρ : SE} {vs : List V} {ds : List D}, RS K bx M W H σ ρ → RPs K bx (UM M W) H vs ds → RS K bx M W H (putV σ is vs) (putS ρ is ds) := by
  induction is with
  | nil => intro σ ρ vs ds r q; cases q <;> exact r
  | cons i is ih =>
    intro σ ρ vs ds r q
    cases q with
    | nil => exact r
    | cons h q => exact ih (r.set i h) q
end
/-- what is wanted, by data and by heaps -/
structure Imp (K : PySem.W.Frag) (bx : Bx) (M W : Addr → Prop) (H : Hp) (P : PsW) (Dn : Ends) : Prop where
  nx : ∀ W' σ' H' ρ', Stp bx W H W' H' → Gd bx M W' H' → RS K bx M W' H' σ' ρ' → P.nx ρ' → Dn.nx σ' H'
  bk : ∀ W' σ' H' ρ', Stp bx W H W' H' → Gd bx M W' H' → RS K bx M W' H' σ' ρ' → P.bk ρ' → Dn.bk σ' H'
  ct : ∀ W' σ' H' ρ', Stp bx W H W' H' → Gd bx M W' H' → RS K bx M W' H' σ' ρ' → P.ct ρ' → Dn.ct σ' H'
  rt : ∀ W' v d H', Stp bx W H W' H' → BoxOk bx H' → RP K bx M H' v d → P.rt d → Dn.rt v H'
theorem Imp.on {K : PySem.W.Frag} {bx : Bx} {M W W1 : Addr → Prop} {H H1 : Hp} {P : PsW} {Dn : Ends} (p : Imp K bx M W H P Dn) (s : Stp bx W H W1 H1) : Imp K bx M W1 H1 P Dn :=
  ⟨fun W' σ' H' ρ' t => p.nx W' σ' H' ρ' (s.trans t), fun W' σ' H' ρ' t => p.bk W' σ' H' ρ' (s.trans t), fun W' σ' H' ρ' t => p.ct W' σ' H' ρ' (s.trans t), fun W' v d H' t => p.rt W' v d H' (s.trans t)⟩
def SndS (K : PySem.W.Frag) (t : TS) (w : SW) : Prop := ∀ bx M W σ H ρ (P : PsW) (Dn : Ends), Gd bx M W H → RS K bx M W H σ ρ → Imp K bx M W H P Dn → w ρ P → t Dn σ H
structure PSW (X : Cx) (st : Stmt) (t : TS) (w : SW) : Prop where
  ps : PS X st t
  sn : SndS X.K t w
structure PSsW (X : Cx) (st : List Stmt) (t : TS) (w : SW) : Prop where
  ps : PSs X st t
  sn : SndS X.K t w
/-! ### blocks -/
def wNext : SW := fun ρ P => P.nx ρ
def wSeq (w u : SW) : SW := fun ρ P => w ρ { P with nx := fun ρ' => u ρ' P }
def wAsg (i : Nat) (e : EW) : SW := fun ρ P => e (vH ρ) fun d => P.nx (ρ.set i (some (.dat d)))
def scal1 : D → Bool
  | .none => true
  | .bool _ => true
  | .int _ => true
  | .str _ => true
  | _ => false
def wAsgS (i : Nat) (e : EW) : SW := fun ρ P => e (vF ρ) fun d => scal1 d = true ∧ P.nx (ρ.set i (some (.dat d)))
def wGs (is : List Nat) (u : D → Option (List D)) (e : EW) : SW := fun ρ P => e (vH ρ) fun d => ∃ ds, u d = some ds ∧ P.nx (putS ρ is ds)
def wRet (e : EW) : SW := fun ρ P => e (vF ρ) P.rt
def wRetN : SW := fun _ P => P.rt .none
def wIfS (t : TW) (a b : SW) : SW := fun ρ P => t (vF ρ) fun c => if c = true then a ρ P else b ρ P
def wDrop (e : EW) : SW := fun ρ P => e (vF ρ) fun _ => P.nx ρ
def wBreak : SW := fun ρ P => P.bk ρ
def wCont : SW := fun ρ P => P.ct ρ
def wNever : SW := fun _ _ => False
def frz (i : Nat) (ρ : SE) : SE := match ρ[i]? with
  | some (some (.own l)) => ρ.set i (some (.dat (.list l)))
  | _ => ρ
def wFrz (i : Nat) (w : SW) : SW := fun ρ P => w (frz i ρ) P
section
variable {K : PySem.W.Frag} {t u : TS} {w w' : SW} {te : TE} {we : EW} {tt : TT} {wt : TW}
theorem snd_next : SndS K tNext wNext := fun bx M W σ H ρ P Dn g r p h => p.nx W σ H ρ (Stp.refl bx W H) g r h
theorem snd_seq (h1 : SndS K t w) (h2 : SndS K u w') : SndS K (tSeq t u) (wSeq w w') := fun bx M W σ H ρ P Dn g r p h =>
  h1 bx M W σ H ρ { P with nx := fun ρ' => w' ρ' P } _ g r ⟨fun W' σ' H' ρ' s g' r' q => h2 bx M W' σ' H' ρ' P Dn g' r' (p.on s) q, p.bk, p.ct, p.rt⟩ h
theorem scal_move {bx bx' : Bx} {T T' : Addr → Prop} {H H' : Hp} {v : V} {d : D} (r : RP K bx T H v d) (s : scal1 d = true) : RP K bx' T' H' v d := by
  cases r with
  | non => exact .non
  | bl b => exact .bl b
  | int i => exact .int i
  | str x => exact .str x
  | _ => cases s
theorem snd_asg {i : Nat} (h : SndE K te we) : SndS K (tAsg te (gName i)) (wAsg i we) := fun bx M W σ H ρ P Dn g r p q =>
  h bx (UM M W) σ H (vH ρ) _ _ g.good r.eH (fun d v H1 e b rv hq => p.nx W _ H1 _ (Stp.of e) (g.on e b) ((r.on g e).set i rv) hq) q
theorem snd_asgS {i : Nat} (h : SndE K te we) : SndS K (tAsg te (gName i)) (wAsgS i we) := fun bx M W σ H ρ P Dn g r p q =>
  h bx M σ H (vF ρ) _ _ g.goodM (r.eF g) (fun d v H1 e b rv hq => p.nx W _ H1 _ (Stp.of e) (g.on e b) ((r.on g e).set i (scal_move rv hq.1)) hq.2) q
theorem snd_gs {gt : TG} {is : List Nat} {un : D → Option (List D)} (h : SndE K te we) (hg : SndG K gt is un) : SndS K (tAsg te gt) (wGs is un we) := fun bx M W σ H ρ P Dn g r p q =>
  h bx (UM M W) σ H (vH ρ) _ _ g.good r.eH (fun d v H1 e b rv hq => by
    obtain ⟨ds, hu, hn⟩ := hq
    exact hg bx (UM M W) v d ds σ H1 _ rv hu fun vs rvs => p.nx W _ H1 _ (Stp.of e) (g.on e b) ((r.on g e).put rvs) hn) q
theorem snd_ret (h : SndE K te we) : SndS K (tRet te) (wRet we) := fun bx M W σ H ρ P Dn g r p q =>
  h bx M σ H (vF ρ) _ _ g.goodM (r.eF g) (fun d v H1 e b rv hq => p.rt W v d H1 (Stp.of e) b rv hq) q
theorem snd_retN : SndS K tRetN wRetN := fun bx M W σ H ρ P Dn g r p q => p.rt W .non .none H (Stp.refl bx W H) g.box .non q
theorem snd_ifS (h : SndT K tt wt) (h1 : SndS K t w) (h2 : SndS K u w') : SndS K (tIfS tt t u) (wIfS wt w w') := fun bx M W σ H ρ P Dn g r p q =>
  h bx M σ H (vF ρ) _ _ g.goodM (r.eF g) (fun c H1 e b hq => by
    cases c with
    | true => exact h1 bx M W σ H1 ρ P Dn (g.on e b) (r.on g e) (p.on (Stp.of e)) hq
    | false => exact h2 bx M W σ H1 ρ P Dn (g.on e b) (r.on g e) (p.on (Stp.of e)) hq) q
theorem snd_drop (h : SndE K te we) : SndS K (tDrop te) (wDrop we) := fun bx M W σ H ρ P Dn g r p q =>
  h bx M σ H (vF ρ) _ _ g.goodM (r.eF g) (fun d v H1 e b rv hq => p.nx W σ H1 ρ (Stp.of e) (g.on e b) (r.on g e) hq) q
theorem snd_break : SndS K tBreak wBreak := fun bx M W σ H ρ P Dn g r p h => p.bk W σ H ρ (Stp.refl bx W H) g r h
theorem snd_cont : SndS K tCont wCont := fun bx M W σ H ρ P Dn g r p h => p.ct W σ H ρ (Stp.refl bx W H) g r h
theorem snd_never : SndS K tNever wNever := fun bx M W σ H ρ P Dn g r p h => h.elim
/-- an own list is from here on data -/
theorem snd_frz {i : Nat} (h : SndS K t w) : SndS K t (wFrz i w) := fun bx M W σ H ρ P Dn g r p q => by
  unfold wFrz frz at q
  split at q
  · rename_i l e
    obtain ⟨a, vs, h1, h2, h3, h4⟩ := r.own i l e
    let W1 : Addr → Prop := fun b => W b ∧ b ≠ a
    have kk : ∀ b o, ¬ UM M W b → H b = some o → H b = some o ∧ ¬ UM M W1 b := fun b o n hb => ⟨hb, fun z => by
      rcases z with z | z
      · exact n (Or.inl z)
      · exact n (Or.inr z.1)⟩
    have g1 : Gd bx M W1 H := ⟨g.box, fun b c e => ⟨(g.bxM b c e).1, fun z => (g.bxM b c e).2 z.1⟩, fun b z => g.kn b (by
      rcases z with z | z
      · exact Or.inl z
      · exact Or.inr z.1), fun b z => g.dis b z.1⟩
    have hl : i < ρ.length := (List.getElem?_eq_some_iff.mp e).1
    refine h bx M W1 σ H _ P Dn g1 ⟨by rw [List.length_set]; exact r.len, fun j d hj => ?_, fun j l' hj => ?_, fun j k l1 l2 b njk hj hk sj sk => ?_⟩ (p.on fun b o hb n m => ⟨hb, fun z => n z.1⟩) q
    · by_cases q : i = j
      · subst q
        rw [List.getElem?_set_self hl] at hj
        cases hj
        exact ⟨_, h1, .lst h2 (fun z => by
          rcases z with z | z
          · exact g.dis a h4 z
          · exact z.2 rfl) (h3.move (fun _ z => z) kk)⟩
      · rw [List.getElem?_set_ne q] at hj
        obtain ⟨v, z1, z2⟩ := r.dat j d hj
        exact ⟨v, z1, z2.move (fun _ z => z) kk⟩
    · by_cases q : i = j
      · subst q
        rw [List.getElem?_set_self hl] at hj
        cases hj
      · rw [List.getElem?_set_ne q] at hj
        obtain ⟨b, ws, z1, z2, z3, z4⟩ := r.own j l' hj
        exact ⟨b, ws, z1, z2, z3.move (fun _ z => z) kk, z4, fun z => r.ne i j l l' a q e hj h1 (by rw [← z]; exact z1)⟩
    · have f : ∀ (x : Nat) m, (ρ.set i (some (.dat (.list l))))[x]? = some (some (.own m)) → ρ[x]? = some (some (.own m)) := fun x m hx => by
        by_cases q : i = x
        · subst q
          rw [List.getElem?_set_self hl] at hx
          cases hx
        · rw [List.getElem?_set_ne q] at hx; exact hx
      exact r.ne j k l1 l2 b njk (f j l1 hj) (f k l2 hk) sj sk
  · exact h bx M W σ H ρ P Dn g r p q
end
section
variable {X : Cx} {st : Stmt} {rest : List Stmt} {t u : TS} {w w' : SW} {e c tg : Expr} {te : TE} {we : EW} {tt : TT} {wt : TW} {pos pos' : Pos}
theorem sn : PSsW X [] tNext wNext := ⟨pss_nil, snd_next⟩
theorem sc (h1 : PSW X st t w) (h2 : PSsW X rest u w') : PSsW X (st :: rest) (tSeq t u) (wSeq w w') := ⟨pss_cons h1.ps h2.ps, snd_seq h1.sn h2.sn⟩
theorem s1 (h1 : PSW X st t w) : PSsW X [st] t w := ⟨pss_one h1.ps, h1.sn⟩
theorem sf (i : Nat) (h : PSsW X rest t w) : PSsW X rest t (wFrz i w) := ⟨h.ps, snd_frz h.sn⟩
theorem sset (i : Nat) {x : Str} (hN : X.N.Nodup) (he : PEW X e te we) (hi : X.N[i]? = some x := by rfl) (hx : Loc X.env.scope x := by first | exact Or.inl rfl | exact Or.inr rfl) (hs : swapsWith e (some (.Name x pos')) pos.line X.env = pure false := by rfl)
    (hf : X.fn x = true ∨ X.env.scope.names.lookup x = some .local := by first | exact .inl rfl | exact .inr rfl) : PSW X (.Assign [.Name x pos'] e pos) (tAsg te (gName i)) (wAsg i we) := ⟨ps_set hN hi hx he.pe hs hf, snd_asg he.sn⟩
theorem ssetS (i : Nat) {x : Str} (hN : X.N.Nodup) (he : PEW X e te we) (hi : X.N[i]? = some x := by rfl) (hx : Loc X.env.scope x := by first | exact Or.inl rfl | exact Or.inr rfl) (hs : swapsWith e (some (.Name x pos')) pos.line X.env = pure false := by rfl)
    (hf : X.fn x = true ∨ X.env.scope.names.lookup x = some .local := by first | exact .inl rfl | exact .inr rfl) : PSW X (.Assign [.Name x pos'] e pos) (tAsg te (gName i)) (wAsgS i we) := ⟨ps_set hN hi hx he.pe hs hf, snd_asgS he.sn⟩
theorem sasg {g : TG} {is : List Nat} {un : D → Option (List D)} (he : PEW X e te we) (hg : PGW X tg g is un) (hs : swapsWithSole [tg] e pos.line X.env = pure false := by rfl) (hw : swappedStores [tg] e X.env = pure none := by rfl)
    (h1 : (assignEach [tg] X.env).map (·.2) = [assign tg X.env] := by rfl) : PSW X (.Assign [tg] e pos) (tAsg te g) (wGs is un we) := ⟨ps_asg he.pe hg.pg hs hw h1, snd_gs he.sn hg.sn⟩
theorem sret (he : PEW X e te we) : PSW X (.Return (some e) pos) (tRet te) (wRet we) := ⟨ps_ret he.pe, snd_ret he.sn⟩
theorem sretN : PSW X (.Return none pos) tRetN wRetN := ⟨ps_retN, snd_retN⟩
theorem sif {a b : List Stmt} (hc : PTW X c tt wt) (ha : PSsW X a t w) (hb : PSsW X b u w') : PSW X (.If c a b pos) (tIfS tt t u) (wIfS wt w w') := ⟨ps_if hc.pt ha.ps hb.ps, snd_ifS hc.sn ha.sn hb.sn⟩
theorem sexp (he : PEW X e te we) (hs : swapsWith e none pos.line X.env = pure false := by rfl) : PSW X (.Expr e pos) (tDrop te) (wDrop we) := ⟨ps_expr he.pe hs, snd_drop he.sn⟩
theorem spass : PSW X (.Pass pos) tNext wNext := ⟨ps_pass, snd_next⟩
theorem sbrk : PSW X (.Break pos) tBreak wBreak := ⟨ps_break, snd_break⟩
theorem scnt : PSW X (.Continue pos) tCont wCont := ⟨ps_continue, snd_cont⟩
theorem snever : PSW X st tNever wNever := ⟨ps_never, snd_never⟩
/-! ### a, b = x, y -/
def wPar (i j : Nat) (a : AW) : SW := fun ρ P => a (vH ρ) fun ds => match ds with
  | [x, y] => P.nx ((ρ.set i (some (.dat x))).set j (some (.dat y)))
  | _ => False
theorem spar {i j : Nat} {x y : Str} {a b : Expr} {ta : TA} {wa : AW} {px py pt : Pos} {kt k2 pt2} (hc : X.calm = true) (hN : X.N.Nodup) (ha : PAW X [a, b] ta wa) (hi : X.N[i]? = some x := by rfl) (hj : X.N[j]? = some y := by rfl) (hij : i ≠ j := by decide)
    (hx : X.env.scope.names.lookup x = some .local := by rfl) (hy : X.env.scope.names.lookup y = some .local := by rfl)
    (hw : swappedStores [.Tuple [.Name x px, .Name y py] kt pt] (.Tuple [a, b] k2 pt2) X.env = pure (some [x, y]) := by rfl)
    (hs : swapsWithSole [.Tuple [.Name x px, .Name y py] kt pt] (.Tuple [a, b] k2 pt2) pos.line X.env = pure false := by rfl) :
    PSW X (.Assign [.Tuple [.Name x px, .Name y py] kt pt] (.Tuple [a, b] k2 pt2) pos) (tPar i j ta) (wPar i j wa) := ⟨ps_par hc hN hi hj hij hx hy ha.pa hw hs, fun bx M W σ H ρ P Dn g r p q =>
  ha.sn bx (UM M W) σ H (vH ρ) _ _ g.good r.eH (fun ds vs H1 e b rv hq => by
    cases rv with
    | nil => exact False.elim hq
    | cons r1 rv =>
      cases rv with
      | nil => exact False.elim hq
      | cons r2 rv =>
        cases rv with
        | nil => exact ⟨_, _, rfl, p.nx W _ H1 _ (Stp.of e) (g.on e b) (((r.on g e).set i r1).set j r2) hq⟩
        | cons => exact False.elim hq) q⟩
/-! ### x op= e of a number or a text -/
def wAug (i : Nat) (o : O2) (e : EW) : SW := fun ρ P => match ρ[i]? with
  | some (some (.dat x)) => e (vF ρ) fun y => o x y fun z => scal1 z = true ∧ P.nx (ρ.set i (some (.dat z)))
  | _ => False
theorem saug (i : Nat) {x : Str} {op : Operator} {rr : R2} {o : O2} (hN : X.N.Nodup) (ho : OpW X (inplaceOp op) rr o) (he : PEW X e te we) (hi : X.N[i]? = some x := by rfl) (hx : Loc X.env.scope x := by first | exact Or.inl rfl | exact Or.inr rfl)
    (hf : X.fn x = true ∨ X.env.scope.names.lookup x = some .local := by first | exact .inl rfl | exact .inr rfl) : PSW X (.AugAssign (.Name x pos') op e pos) (tAug i te rr) (wAug i o we) := ⟨ps_aug hN hi hx he.pe ho.op hf, fun bx M W σ H ρ P Dn g r p q => by
  unfold wAug at q
  split at q
  · rename_i d ed
    obtain ⟨v, hv, rv⟩ := r.dat i d ed
    refine ⟨v, hv, he.sn bx M σ H (vF ρ) _ _ g.goodM (r.eF g) (fun y vy H1 e1 b1 r1 h1 => ?_) q⟩
    have g1 := g.on e1 b1
    refine ho.sn bx M H1 v vy d y _ _ g1.goodM ((rv.on g.good e1).move (fun _ z => z) fun a o => toM) r1 (fun z vz H2 e2 b2 r2 h2 => ?_) h1
    exact p.nx W _ H2 _ ((Stp.of e1).trans (Stp.of e2)) (g1.on e2 b2) (((r.on g e1).on g1 e2).set i (scal_move r2 h2.1)) h2.2
  · exact q.elim⟩
/-! ### while -/
def wWhile (t : TW) (b : SW) : SW := fun ρ P => ∃ I : Nat → SE → Prop, (∃ m, I m ρ) ∧ ∀ m ρ, I m ρ → t (vF ρ) fun c => if c = true then b ρ { nx := fun ρ' => ∃ m', m' < m ∧ I m' ρ', ct := fun ρ' => ∃ m', m' < m ∧ I m' ρ', bk := P.nx, rt := P.rt } else P.nx ρ
theorem snd_while {K : PySem.W.Frag} (h : SndT K tt wt) (h1 : SndS K t w) : SndS K (tWhile tt t) (wWhile wt w) := fun bx M W σ H ρ P Dn g r p q => by
  obtain ⟨I, ⟨m0, i0⟩, hI⟩ := q
  refine ⟨fun m σ' H' => ∃ W' ρ', Stp bx W H W' H' ∧ Gd bx M W' H' ∧ RS K bx M W' H' σ' ρ' ∧ I m ρ', ⟨m0, W, ρ, Stp.refl bx W H, g, r, i0⟩, ?_⟩
  rintro m σ' H' ⟨W', ρ', s', g', r', i'⟩
  refine h bx M σ' H' (vF ρ') _ _ g'.goodM (r'.eF g') (fun c H1 e b hq => ?_) (hI m ρ' i')
  cases c with
  | true =>
    refine ⟨fun σ2 H2 => ∃ m', m' < m ∧ ∃ W2 ρ2, Stp bx W H W2 H2 ∧ Gd bx M W2 H2 ∧ RS K bx M W2 H2 σ2 ρ2 ∧ I m' ρ2, fun σ2 H2 z => z, ?_⟩
    have s1 : Stp bx W H W' H1 := s'.trans (Stp.of e)
    refine h1 bx M W' σ' H1 ρ' _ _ (g'.on e b) (r'.on g' e) ⟨fun W2 σ2 H2 ρ2 s2 g2 r2 z => ?_, fun W2 σ2 H2 ρ2 s2 g2 r2 z => ?_, fun W2 σ2 H2 ρ2 s2 g2 r2 z => ?_, fun W2 v d H2 s2 b2 r2 z => ?_⟩ hq
    · obtain ⟨m', lt, im⟩ := z
      exact ⟨m', lt, W2, ρ2, s1.trans s2, g2, r2, im⟩
    · exact p.nx W2 σ2 H2 ρ2 (s1.trans s2) g2 r2 z
    · obtain ⟨m', lt, im⟩ := z
      exact ⟨m', lt, W2, ρ2, s1.trans s2, g2, r2, im⟩
    · exact p.rt W2 v d H2 (s1.trans s2) b2 r2 z
  | false => exact p.nx W' σ' H1 ρ' (s'.trans (Stp.of e)) (g'.on e b) (r'.on g' e) hq
theorem swhile {body : List Stmt} (hp : PassesOwn (model X.prog X.w) X.A X.env X.xe) (hc : PTW X c tt wt) (hb : PSsW X body t w) : PSW X (.While c body [] pos) (tWhile tt t) (wWhile wt w) := ⟨ps_while hp hc.pt hb.ps, snd_while hc.sn hb.sn⟩
/-! ### for -/
def forD (is : List Nat) (un : D → Option (List D)) (b : SW) : List D → SW
  | [], ρ, P => P.nx ρ
  | d :: r, ρ, P => ∃ ds, un d = some ds ∧ b (putS ρ is ds) { nx := fun ρ' => forD is un b r ρ' P, ct := fun ρ' => forD is un b r ρ' P, bk := P.nx, rt := P.rt }
def wFor (wi : IW) (is : List Nat) (un : D → Option (List D)) (b : SW) : SW := fun ρ P => wi (vH ρ) fun ds => forD is un b ds ρ P
theorem snd_for {K : PySem.W.Frag} {ti : TI} {wi : IW} {g : TG} {is : List Nat} {un : D → Option (List D)} (hi : SndI K ti wi) (hg : SndG K g is un) (h1 : SndS K t w) : SndS K (tFor ti g t) (wFor wi is un w) := fun bx M W σ H ρ P Dn gd r p q => by
  refine hi bx (UM M W) σ H (vH ρ) _ _ gd.good r.eH (fun ds J H1 e1 b1 dr hq => ?_) q
  have gd1 := gd.on e1 b1
  refine ⟨fun i m σ' H' => m = ds.length - i ∧ i ≤ ds.length ∧ ∃ W' ρ', Stp bx W H1 W' H' ∧ Gd bx M W' H' ∧ RS K bx M W' H' σ' ρ' ∧ forD is un w (ds.drop i) ρ' P, ⟨_, rfl, Nat.zero_le _, W, ρ, Stp.refl bx W H1, gd1, r.on gd e1, hq⟩, ?_⟩
  rintro i m σ' H' ⟨rfl, hle, W', ρ', s', g', r', hf⟩
  obtain ⟨hs, hn⟩ := dr (UM M W') H' (s'.kept gd1) g'.kn i
  have s0 : Stp bx W H W' H' := (Stp.of e1).trans s'
  by_cases hlt : i < ds.length
  · obtain ⟨d, hd⟩ : ∃ d, ds[i]? = some d := ⟨ds[i], List.getElem?_eq_getElem hlt⟩
    have hdr : ds.drop i = d :: ds.drop (i + 1) := by
      rw [List.drop_eq_getElem_cons hlt]
      rw [List.getElem?_eq_getElem hlt] at hd
      cases hd; rfl
    obtain ⟨hgo, hy⟩ := hn d hd
    refine Or.inr ⟨hgo, fun σ2 H2 => i + 1 ≤ ds.length ∧ ∃ W2 ρ2, Stp bx W H1 W2 H2 ∧ Gd bx M W2 H2 ∧ RS K bx M W2 H2 σ2 ρ2 ∧ forD is un w (ds.drop (i + 1)) ρ2 P, fun σ2 H2 z => ⟨_, by omega, rfl, z⟩, fun x H2 hyl => ?_⟩
    obtain ⟨kp, rx⟩ := hy x H2 hyl
    have e2 : Ext bx H' H2 := fun a o _ h => kp a o h
    have b2 : BoxOk bx H2 := fun b a e => by
      obtain ⟨n, ds', c, z1, z2, z3⟩ := g'.box b a e
      exact ⟨n, ds', c, kp _ _ z1, kp _ _ z2, z3⟩
    have g2 := g'.on e2 b2
    rw [hdr] at hf
    obtain ⟨us, hu, hw⟩ := hf
    refine hg bx (UM M W') x d us σ' H2 _ rx hu fun vs rvs => ?_
    have s2 : Stp bx W H1 W' H2 := s'.trans (Stp.of e2)
    refine h1 bx M W' _ H2 _ { nx := fun ρ' => forD is un w (ds.drop (i + 1)) ρ' P, rt := P.rt, bk := P.nx, ct := fun ρ' => forD is un w (ds.drop (i + 1)) ρ' P } _ g2 ((r'.on g' e2).put rvs) ⟨fun W3 σ3 H3 ρ3 s3 g3 r3 z => ⟨by omega, W3, ρ3, s2.trans s3, g3, r3, z⟩, fun W3 σ3 H3 ρ3 s3 g3 r3 z => p.nx W3 σ3 H3 ρ3 ((Stp.of e1).trans (s2.trans s3)) g3 r3 z,
      fun W3 σ3 H3 ρ3 s3 g3 r3 z => ⟨by omega, W3, ρ3, s2.trans s3, g3, r3, z⟩, fun W3 v d' H3 s3 b3 r3 z => p.rt W3 v d' H3 ((Stp.of e1).trans (s2.trans s3)) b3 r3 z⟩ hw
  · have hi3 : i = ds.length := by omega
    subst hi3
    rw [List.drop_length] at hf
    exact Or.inl ⟨hs (Nat.le_refl _), p.nx W' σ' H' ρ' s0 g' r' hf⟩
theorem sfor {it : Expr} {body : List Stmt} {ti : TI} {wi : IW} {g : TG} {is : List Nat} {un : D → Option (List D)} (hp : PassesOwn (model X.prog X.w) X.A X.env X.xe) (hc : X.calm = true) (hi : PIW X tg it ti wi) (hg : PGW X tg g is un) (hb : PSsW X body t w)
    (hs : ∀ x, foldedSetIterable it X.env x = pure x := by intro _; rfl) : PSW X (.For tg it body [] pos) (tFor ti g t) (wFor wi is un w) := ⟨ps_for hp hc hi.pi hg.pg hb.ps hs, snd_for hi.sn hg.sn hb.sn⟩
end
end Wy

set_option Elab.async false
set_option linter.all false
set_option maxRecDepth 100000
set_option maxHeartbeats 2000000
/-! W7: own lists made and changed, a def by its body, the law's box. -/
namespace Wy
open PySem PyProof.Rows L2
section
variable {K : PySem.W.Frag} {bx : Bx} {M W : Addr → Prop} {H H1 : Hp} {σ : L2.St} {ρ : SE}
/-- a slot gets a new list -/
theorem own_new (g : Gd bx M W H) (r : RS K bx M W H σ ρ) (e : Ext bx H H1) (b : BoxOk bx H1) {a : Addr} {vs : List V} {ds : List D} (na : H a = none) (ha : H1 a = some (.lst vs)) (rv : RPs K bx (fun x => UM M W x ∨ x = a) H1 vs ds) (i : Nat) :
    Gd bx M (fun x => W x ∨ x = a) H1 ∧ RS K bx M (fun x => W x ∨ x = a) H1 (σ.set i (some (.ref a))) (ρ.set i (some (.own ds))) ∧ Stp bx W H (fun x => W x ∨ x = a) H1 := by
  have g1 := g.on e b
  have r1 := r.on g e
  have ne : ∀ x o, H x = some o → x ≠ a := fun x o h z => by rw [z, na] at h; cases h
  have nM : ¬ M a := fun z => by
    obtain ⟨o, ho⟩ := g.kn a (Or.inl z)
    rw [na] at ho; cases ho
  have nb : ∀ b c, bx = some (b, c) → b ≠ a ∧ c ≠ a := fun b c e => by
    obtain ⟨_, ds', k, h1, h2, _⟩ := g.box b c e
    exact ⟨ne _ _ h1, ne _ _ h2⟩
  have kk : ∀ x o, ¬ UM M W x → H x = some o → H1 x = some o ∧ ¬ UM M (fun y => W y ∨ y = a) x := fun x o n h => ⟨(g.good.ext e x o n h).1, fun z => by
    rcases z with z | z | z
    · exact n (Or.inl z)
    · exact n (Or.inr z)
    · exact ne x o h z⟩
  refine ⟨⟨b, fun p c e => ⟨(g.bxM p c e).1, fun z => ?_⟩, fun p z => ?_, fun p z => ?_⟩, ⟨?_, fun j d hj => ?_, fun j l hj => ?_, fun j k l l' p njk hj hk sj sk => ?_⟩, fun p o hp n m => ⟨e p o m hp, fun z => ?_⟩⟩
  · rcases z with z | z
    · exact (g.bxM p c e).2 z
    · exact (nb p c e).2 z
  · rcases z with z | z | z
    · exact g1.kn p (Or.inl z)
    · exact g1.kn p (Or.inr z)
    · exact ⟨_, by rw [z]; exact ha⟩
  · rcases z with z | z
    · exact g.dis p z
    · rw [z]; exact nM
  · rw [List.length_set, List.length_set]; exact r.len
  · by_cases q : i = j
    · subst q
      have hl : i < ρ.length := by
        have := (List.getElem?_eq_some_iff.mp hj).1
        rwa [List.length_set] at this
      rw [List.getElem?_set_self hl] at hj
      cases hj
    · rw [List.getElem?_set_ne q] at hj ⊢
      obtain ⟨v, h1, h2⟩ := r.dat j d hj
      exact ⟨v, h1, h2.move (fun _ z => z) kk⟩
  · by_cases q : i = j
    · subst q
      have hl : i < ρ.length := by
        have := (List.getElem?_eq_some_iff.mp hj).1
        rwa [List.length_set] at this
      rw [List.getElem?_set_self hl] at hj
      cases hj
      refine ⟨a, vs, List.getElem?_set_self (Nat.lt_of_lt_of_le hl r.len), ha, rv.move (fun _ z => z) fun x o n h => ⟨h, fun z => ?_⟩, Or.inr rfl⟩
      rcases z with z | z | z
      · exact n (Or.inl (Or.inl z))
      · exact n (Or.inl (Or.inr z))
      · exact n (Or.inr z)
    · rw [List.getElem?_set_ne q] at hj ⊢
      obtain ⟨p, ws, h1, h2, h3, h4⟩ := r.own j l hj
      exact ⟨p, ws, h1, e p _ (g.nb h4) h2, h3.move (fun _ z => z) kk, Or.inl h4⟩
  · have f : ∀ (x : Nat) m p, (ρ.set i (some (.own ds)))[x]? = some (some (.own m)) → (σ.set i (some (.ref a)))[x]? = some (some (.ref p)) → (i = x ∧ p = a) ∨ (i ≠ x ∧ ρ[x]? = some (some (.own m)) ∧ σ[x]? = some (some (.ref p)) ∧ p ≠ a) := fun x m p hx sx => by
      by_cases q : i = x
      · subst q
        have hl : i < ρ.length := by
          have := (List.getElem?_eq_some_iff.mp hx).1
          rwa [List.length_set] at this
        rw [List.getElem?_set_self (Nat.lt_of_lt_of_le hl r.len)] at sx
        cases sx
        exact Or.inl ⟨rfl, rfl⟩
      · rw [List.getElem?_set_ne q] at hx sx
        obtain ⟨p', ws, h1, h2, _, _⟩ := r.own x m hx
        rw [sx] at h1
        cases h1
        exact Or.inr ⟨q, hx, sx, ne _ _ h2⟩
    rcases f j l p hj sj with ⟨e1, e2⟩ | ⟨n1, a1, a2, a3⟩
    · rcases f k l' p hk sk with ⟨e3, e4⟩ | ⟨n3, b1, b2, b3⟩
      · exact njk (e1.symm.trans e3)
      · exact b3 e2
    · rcases f k l' p hk sk with ⟨e3, e4⟩ | ⟨n3, b1, b2, b3⟩
      · exact a3 e4
      · exact r.ne j k l l' p njk a1 b1 a2 b2
  · rcases z with z | z
    · exact n z
    · exact ne p o hp z
/-- the own list of a slot is changed -/
theorem own_upd (g : Gd bx M W H) (r : RS K bx M W H σ ρ) {i : Nat} {l : List D} {a : Addr} {vs ws : List V} {ds : List D} (hi : ρ[i]? = some (some (.own l))) (si : σ[i]? = some (some (.ref a))) (wa : W a) (rv : RPs K bx (UM M W) H ws ds) :
    Gd bx M W (upd H a (.lst ws)) ∧ RS K bx M W (upd H a (.lst ws)) σ (ρ.set i (some (.own ds))) ∧ Stp bx W H W (upd H a (.lst ws)) := by
  have hl : i < ρ.length := (List.getElem?_eq_some_iff.mp hi).1
  have kk : ∀ x o, ¬ UM M W x → H x = some o → upd H a (.lst ws) x = some o ∧ ¬ UM M W x := fun x o n h => ⟨by
    rw [upd_ne (fun z => n (Or.inr (by rw [z]; exact wa)))]; exact h, n⟩
  have nba := g.nb wa
  refine ⟨⟨fun b c e => ?_, g.bxM, fun p z => ?_, g.dis⟩, ⟨by rw [List.length_set]; exact r.len, fun j d hj => ?_, fun j m hj => ?_, fun j k m m' p njk hj hk sj sk => ?_⟩, fun p o hp n m => ⟨?_, n⟩⟩
  · obtain ⟨n, ds', c', h1, h2, h3⟩ := g.box b c e
    have ba : b ≠ a := fun z => nba ⟨c, by rw [← z]; exact e⟩
    have ca : c ≠ a := fun z => (g.bxM b c e).2 (by rw [z]; exact wa)
    exact ⟨n, ds', c', by rw [upd_ne ba]; exact h1, by rw [upd_ne ca]; exact h2, h3⟩
  · by_cases q : p = a
    · exact ⟨_, by rw [q]; exact upd_same⟩
    · obtain ⟨o, ho⟩ := g.kn p z
      exact ⟨o, by rw [upd_ne q]; exact ho⟩
  · by_cases q : i = j
    · subst q
      rw [List.getElem?_set_self hl] at hj
      cases hj
    · rw [List.getElem?_set_ne q] at hj
      obtain ⟨v, h1, h2⟩ := r.dat j d hj
      exact ⟨v, h1, h2.move (fun _ z => z) kk⟩
  · by_cases q : i = j
    · subst q
      rw [List.getElem?_set_self hl] at hj
      cases hj
      exact ⟨a, ws, si, upd_same, rv.move (fun _ z => z) kk, wa⟩
    · rw [List.getElem?_set_ne q] at hj
      obtain ⟨p, us, h1, h2, h3, h4⟩ := r.own j m hj
      have pa : p ≠ a := fun z => r.ne i j l m a q hi hj si (by rw [← z]; exact h1)
      exact ⟨p, us, h1, by rw [upd_ne pa]; exact h2, h3.move (fun _ z => z) kk, h4⟩
  · have f : ∀ (x : Nat) m, (ρ.set i (some (.own ds)))[x]? = some (some (.own m)) → ∃ m', ρ[x]? = some (some (.own m')) := fun x m hx => by
      by_cases q : i = x
      · subst q; exact ⟨l, hi⟩
      · rw [List.getElem?_set_ne q] at hx; exact ⟨m, hx⟩
    obtain ⟨m1, h1⟩ := f j m hj
    obtain ⟨m2, h2⟩ := f k m' hk
    exact r.ne j k m1 m2 p njk h1 h2 sj sk
  · rw [upd_ne (fun z => n (by rw [z]; exact wa))]; exact hp
end
/-! ### x = a new list of the def's own -/
def wOwn (i : Nat) (e : NW) : SW := fun ρ P => e (vH ρ) fun l => P.nx (ρ.set i (some (.own l)))
theorem snd_own {K : PySem.W.Frag} {te : TE} {we : NW} {i : Nat} (h : SndN K te we) : SndS K (tAsg te (gName i)) (wOwn i we) := fun bx M W σ H ρ P Dn g r p q =>
  h bx (UM M W) σ H (vH ρ) _ _ g.good r.eH (fun ds vs a H1 e b na ha rv hq => by
    obtain ⟨g1, r1, s1⟩ := own_new g r e b na ha rv i
    exact p.nx _ _ H1 _ s1 g1 r1 hq) q
/-- x.append(e) -/
def wApp (i : Nat) (e : EW) : SW := fun ρ P => match ρ[i]? with
  | some (some (.own l)) => e (vH ρ) fun d => l.length < sizeLine ∧ P.nx (ρ.set i (some (.own (l ++ [d]))))
  | _ => False
theorem snd_app {K : PySem.W.Frag} {te : TE} {we : EW} {i : Nat} (h : SndE K te we) : SndS K (tDrop (tBM K "list" rAppend (tVar i) (tCons te tNil))) (wApp i we) := fun bx M W σ H ρ P Dn g r p q => by
  unfold wApp at q
  split at q
  · rename_i l e
    obtain ⟨a, vs, h1, h2, h3, h4⟩ := r.own i l e
    refine ⟨_, h1, Or.inl ⟨rfl, _, SqL.of h2⟩, h bx (UM M W) σ H (vH ρ) _ _ g.good r.eH (fun d v H1 e1 b1 rv hq => ?_) q⟩
    have g1 := g.on e1 b1
    have r1 := r.on g e1
    have h2' : H1 a = some (.lst vs) := e1 a _ (g.nb h4) h2
    have h3' := h3.on g.good e1
    obtain ⟨g2, r2, s2⟩ := own_upd g1 r1 (ws := vs ++ [v]) (ds := l ++ [d]) e h1 h4 (h3'.append (.cons rv .nil)) (vs := vs)
    exact ⟨a, vs, v, rfl, rfl, h2', by rw [h3.length]; exact hq.1, p.nx W _ _ _ ((Stp.of e1).trans s2) g2 r2 hq.2⟩
  · exact q.elim
/-- x[k] = e -/
def wSetI (i : Nat) (ek e : EW) : SW := fun ρ P => match ρ[i]? with
  | some (some (.own l)) => e (vH ρ) fun d => ek (vF ρ) fun k => match k with
    | .int z => ∃ j, ixN l.length z = some j ∧ P.nx (ρ.set i (some (.own (l.set j d))))
    | _ => False
  | _ => False
theorem snd_setI {K : PySem.W.Frag} {te tk : TE} {we wk : EW} {i : Nat} (h : SndE K te we) (hk : SndE K tk wk) : SndS K (tAsg te (gSub (tVar i) tk rSetL)) (wSetI i wk we) := fun bx M W σ H ρ P Dn g r p q => by
  unfold wSetI at q
  split at q
  · rename_i l e
    obtain ⟨a, vs, h1, h2, h3, h4⟩ := r.own i l e
    refine h bx (UM M W) σ H (vH ρ) _ _ g.good r.eH (fun d v H1 e1 b1 rv hq => ?_) q
    have g1 := g.on e1 b1
    have r1 := r.on g e1
    refine ⟨_, h1, hk bx M σ H1 (vF ρ) _ _ g1.goodM (r1.eF g1) (fun k vk H2 e2 b2 rk hq2 => ?_) hq⟩
    cases rk with
    | int z =>
      obtain ⟨j, hj, hn⟩ := hq2
      have g2 := g1.on e2 b2
      have r2 := r1.on g1 e2
      have h2' : H2 a = some (.lst vs) := e2 a _ (g.nb h4) (e1 a _ (g.nb h4) h2)
      have h3' := (h3.on g.good e1).on g1.good e2
      obtain ⟨g3, r3, s3⟩ := own_upd g2 r2 (ws := vs.set j v) (ds := l.set j d) e h1 h4 (h3'.setAt j (rv.on g1.good e2)) (vs := vs)
      exact ⟨a, vs, z, j, rfl, rfl, h2', by rw [h3.length]; exact hj, p.nx W _ _ _ (((Stp.of e1).trans (Stp.of e2)).trans s3) g3 r3 hn⟩
    | _ => exact False.elim hq2
  · exact q.elim
section
variable {X : Cx} {e k : Expr} {te tk : TE} {we wk : EW} {wn : NW} {pos pos' p1 p2 : Pos}
theorem sown (i : Nat) {x : Str} (hN : X.N.Nodup) (he : PNW X e te wn) (hi : X.N[i]? = some x := by rfl) (hx : Loc X.env.scope x := by first | exact Or.inl rfl | exact Or.inr rfl) (hs : swapsWith e (some (.Name x pos')) pos.line X.env = pure false := by rfl)
    (hf : X.fn x = true ∨ X.env.scope.names.lookup x = some .local := by first | exact .inl rfl | exact .inr rfl) : PSW X (.Assign [.Name x pos'] e pos) (tAsg te (gName i)) (wOwn i wn) := ⟨ps_set hN hi hx he.pe hs hf, snd_own he.sn⟩
theorem sapp (i : Nat) {x : Str} {apos : Pos} (he : PEW X e te we) (hN : X.N[i]? = some x := by rfl) (hv : Vis X.env.scope x := by first | exact Or.inl rfl | exact Or.inr (Or.inl rfl) | exact Or.inr (Or.inr rfl)) (hd : (x == ("__debug__" : Str)) = false := by decide)
    (hcd : (x == ("__classdict__" : Str)) = false := by decide)
    (hbase : attributeBase (.Name x p1) "append" X.env (eval (.Name x p1) X.env) = eval (.Name x p1) X.env := by rfl)
    (hfew : ((backTo p2 (starEach [e] X.env)).all (fun x => !x.1) && (backToKw p2 (keywordEach [] X.env)).all (fun x => x.1.isSome)
      && decide ([e].length + ([] : List Keyword).length + (if ([] : List Keyword).isEmpty then 0 else 1) < 30)) = true := by rfl)
    (hline : (apos.endLine == p2.line) = true := by rfl) (hst : starEach [e] X.env = (false, eval e X.env) :: starEach [] X.env := by rfl) (hplain : (backTo p2 (starEach [] X.env)).any (·.1) = false := by rfl)
    (hs : swapsWith (.Call (.Attribute (.Name x p1) "append" apos) [e] [] p2) none pos.line X.env = pure false := by rfl) :
    PSW X (.Expr (.Call (.Attribute (.Name x p1) "append" apos) [e] [] p2) pos) (tDrop (tBM X.K "list" rAppend (tVar i) (tCons te tNil))) (wApp i we) :=
  ⟨ps_expr (pe_bm PySem.F.plainAttrs_list PySem.F.slot_list_append PySem.F.type_list_append mt_append (pv i hN hv hd hcd) (pa_cons he.pe pa_nil hst) hbase hfew hline hst hplain) hs, snd_app he.sn⟩
theorem sseti (i : Nat) {x : Str} (hk : PEW X k tk wk) (he : PEW X e te we) (hN : X.N[i]? = some x := by rfl) (hv : Vis X.env.scope x := by first | exact Or.inl rfl | exact Or.inr (Or.inl rfl) | exact Or.inr (Or.inr rfl)) (hd : (x == ("__debug__" : Str)) = false := by decide)
    (hcd : (x == ("__classdict__" : Str)) = false := by decide) (hs : swapsWithSole [.Subscript (.Name x p1) k p2] e pos.line X.env = pure false := by rfl) (hw : swappedStores [.Subscript (.Name x p1) k p2] e X.env = pure none := by rfl)
    (h1 : (assignEach [.Subscript (.Name x p1) k p2] X.env).map (·.2) = [assign (.Subscript (.Name x p1) k p2) X.env] := by rfl)
    (hg : PG X (.Subscript (.Name x p1) k p2) (gSub (tVar i) tk rSetL)) : PSW X (.Assign [.Subscript (.Name x p1) k p2] e pos) (tAsg te (gSub (tVar i) tk rSetL)) (wSetI i wk we) := ⟨ps_asg he.pe hg hs hw h1, snd_setI he.sn hk.sn⟩
/-- y = [.. for ..] on one line -/
theorem ssetC (i : Nat) {y : Str} {py : Pos} {elt tg it : Expr} {ifs : List Expr} {scope : Scope} {own : List (Str × Nat)} {ti : TI} {wi : IW} {g : TG} {is : List Nat} {u : D → Option (List D)} {tt : TT} {wt : TW} (hc : X.calm = true) (hN : X.N.Nodup)
    (hi : PIW X tg it ti wi) (ok : BlkOk X.N X.env.scope scope own)
    (hg : ∀ (s : Shared) (H : Hp) (C : Addr) (cl : List (Str × Addr)) (fp : List Addr), PGW (X.blk s H scope (compEnvC scope cl C X.env) fp) tg g is u) (ht : ∀ (s : Shared) (H : Hp) (C : Addr) (cl : List (Str × Addr)) (fp : List Addr), PTsW (X.blk s H scope (compEnvC scope cl C X.env) fp) ifs tt wt)
    (he : ∀ (s : Shared) (H : Hp) (C : Addr) (cl : List (Str × Addr)) (fp : List Addr), PEW (X.blk s H scope (compEnvC scope cl C X.env) fp) elt te we) (hy : X.N[i]? = some y := by rfl) (hyl : X.env.scope.names.lookup y = some .local := by rfl)
    (hsw : swapsWith (.ListComp elt [⟨tg, it, ifs, 0⟩] scope pos) (some (.Name y py)) pos'.line X.env = pure true := by exact sw_true rfl rfl rfl (by decide +kernel)) (hsub : ∀ i ∈ is, i ∈ own.map (·.2) := by decide) (hs : ∀ x, foldedSetIterable it X.env x = pure x := by intro _; rfl) :
    PSW X (.Assign [.Name y py] (.ListComp elt [⟨tg, it, ifs, 0⟩] scope pos) pos') (tAsg (tLc ti g tt te (own.map (·.2))) (gName i)) (wAsg i (wLc wi is u wt we (own.map (·.2)))) :=
  ⟨ps_setLc hc hN hy hyl hsw hi.pi ok (fun s H C cl fp => (hg s H C cl fp).pg) (fun s H C cl fp => (ht s H C cl fp).pt) (fun s H C cl fp => (he s H C cl fp).pe) hs, by
    have z : Shared := {}
    exact snd_asg (snd_lc hi.sn (hg z (fun _ => none) 0 [] []).sn (ht z (fun _ => none) 0 [] []).sn (he z (fun _ => none) 0 [] []).sn hsub)⟩
theorem sownC (i : Nat) {y : Str} {py : Pos} {elt tg it : Expr} {ifs : List Expr} {scope : Scope} {own : List (Str × Nat)} {ti : TI} {wi : IW} {g : TG} {is : List Nat} {u : D → Option (List D)} {tt : TT} {wt : TW} (hc : X.calm = true) (hN : X.N.Nodup)
    (hi : PIW X tg it ti wi) (ok : BlkOk X.N X.env.scope scope own)
    (hg : ∀ (s : Shared) (H : Hp) (C : Addr) (cl : List (Str × Addr)) (fp : List Addr), PGW (X.blk s H scope (compEnvC scope cl C X.env) fp) tg g is u) (ht : ∀ (s : Shared) (H : Hp) (C : Addr) (cl : List (Str × Addr)) (fp : List Addr), PTsW (X.blk s H scope (compEnvC scope cl C X.env) fp) ifs tt wt)
    (he : ∀ (s : Shared) (H : Hp) (C : Addr) (cl : List (Str × Addr)) (fp : List Addr), PEW (X.blk s H scope (compEnvC scope cl C X.env) fp) elt te we) (hy : X.N[i]? = some y := by rfl) (hyl : X.env.scope.names.lookup y = some .local := by rfl)
    (hsw : swapsWith (.ListComp elt [⟨tg, it, ifs, 0⟩] scope pos) (some (.Name y py)) pos'.line X.env = pure true := by exact sw_true rfl rfl rfl (by decide +kernel)) (hsub : ∀ i ∈ is, i ∈ own.map (·.2) := by decide) (hs : ∀ x, foldedSetIterable it X.env x = pure x := by intro _; rfl) :
    PSW X (.Assign [.Name y py] (.ListComp elt [⟨tg, it, ifs, 0⟩] scope pos) pos') (tAsg (tLc ti g tt te (own.map (·.2))) (gName i)) (wOwn i (wLcN wi is u wt we (own.map (·.2)))) :=
  ⟨ps_setLc hc hN hy hyl hsw hi.pi ok (fun s H C cl fp => (hg s H C cl fp).pg) (fun s H C cl fp => (ht s H C cl fp).pt) (fun s H C cl fp => (he s H C cl fp).pe) hs, by
    have z : Shared := {}
    exact snd_own (snd_lcN hi.sn (hg z (fun _ => none) 0 [] []).sn (ht z (fun _ => none) 0 [] []).sn (he z (fun _ => none) 0 [] []).sn hsub)⟩
end
/-! ### a def by its body -/
def startS (n : Nat) (ds : List D) : SE := ds.map (fun d => some (.dat d)) ++ List.replicate (n - ds.length) none
def fnW (n : Nat) (w : SW) : OL := fun ds Q => w (startS n ds) { nx := fun _ => Q .none, rt := Q }
theorem start_get {K : PySem.W.Frag} {bx : Bx} {T T' : Addr → Prop} {H : Hp} (kk : ∀ x o, ¬ T x → H x = some o → H x = some o ∧ ¬ T' x) {vs : List V} {ds : List D} (r : RPs K bx T H vs ds) (N : List Str) :
    (∀ (i : Nat) d, (startS N.length ds)[i]? = some (some (.dat d)) → ∃ v, (L2.start N vs)[i]? = some (some v) ∧ RP K bx T' H v d) ∧ ∀ (i : Nat) l, (startS N.length ds)[i]? ≠ some (some (.own l)) := by
  have hl := r.length
  refine ⟨fun i d h => ?_, fun i l h => ?_⟩
  · unfold startS at h
    by_cases q : i < ds.length
    · rw [List.getElem?_append_left (by rw [List.length_map]; exact q), List.getElem?_map] at h
      cases e : ds[i]? with
      | none => rw [e] at h; cases h
      | some d' =>
        rw [e] at h
        cases h
        obtain ⟨v, hv, rv⟩ := r.get e
        refine ⟨v, ?_, rv.move (fun _ z => z) kk⟩
        unfold L2.start
        rw [List.getElem?_append_left (by rw [List.length_map, hl]; exact q), List.getElem?_map, hv]
        rfl
    · rw [List.getElem?_append_right (by rw [List.length_map]; omega)] at h
      rw [List.getElem?_replicate] at h
      split at h <;> cases h
  · unfold startS at h
    by_cases q : i < ds.length
    · rw [List.getElem?_append_left (by rw [List.length_map]; exact q), List.getElem?_map] at h
      cases e : ds[i]? with
      | none => rw [e] at h; cases h
      | some d' => rw [e] at h; cases h
    · rw [List.getElem?_append_right (by rw [List.length_map]; omega)] at h
      rw [List.getElem?_replicate] at h
      split at h <;> cases h
theorem fn_sound {K : PySem.W.Frag} {scope : Scope} {N ps : List Str} {w : SW} {t : TS} (S : FnScope N ps scope) (ht : SndS K t w) {vs : List V} {H : Hp} {Q : VK} {E : XK} (hsp : spW K ps.length (fnW N.length w) vs H Q E) :
    t { nx := fun _ H' => Q .non H', rt := Q } (L2.start N vs) H := by
  obtain ⟨bx, T, ds, Qd, hl, g, r, p, hw⟩ := hsp
  have kk : ∀ x o, ¬ T x → H x = some o → H x = some o ∧ ¬ UM T (fun _ => False) x := fun x o n h => ⟨h, fun z => by
    rcases z with z | z
    · exact n z
    · exact z⟩
  obtain ⟨s1, s2⟩ := start_get kk r N
  have hpl : ps.length ≤ N.length := by
    have := congrArg List.length S.pre
    rw [List.length_take] at this
    omega
  refine ht bx T (fun _ => False) _ H _ _ _ ⟨g.box, fun b a e => ⟨g.bxT b a e, fun z => z⟩, fun p z => ?_, fun p z => z.elim⟩ ⟨?_, s1, fun i l h => (s2 i l h).elim, fun i j l l' p nij hi => (s2 i l hi).elim⟩ ⟨?_, ?_, ?_, ?_⟩ hw
  · rcases z with z | z
    · exact g.kn p z
    · exact z.elim
  · unfold startS L2.start
    rw [List.length_append, List.length_append, List.length_map, List.length_map, List.length_replicate, List.length_replicate, r.length]
    omega
  · intro W' σ' H' ρ' st g' r' q
    exact p .none .non H' (fun a o n h => (st a o h (fun z => z) n).1) g'.box .non q
  · intro W' σ' H' ρ' st g' r' q
    exact q.elim
  · intro W' σ' H' ρ' st g' r' q
    exact q.elim
  · intro W' v d H' st b' rv q
    exact p d v H' (fun a o n h => (st a o h (fun z => z) n).1) b' rv q
theorem okW {P : Program} {wd : World} {K : PySem.W.Frag} {mg : Str → Option Value} {base : Heap} {x qual : Str} {params : Arguments} {body : List Stmt} {scope : Scope} {f : Addr} {fd : FuncData} {N ps : List Str} {k n m : Nat} {w : SW}
    (F : FunD K x qual params body scope [] [] f fd) (S : FnScope N ps scope) (hn : ps.length = n) (hm : N.length = m)
    (h : ∀ (cdv : Value) (A : Around) (outer : List Env) (s : Shared) (H : Hp) (E : XK), Room k (A.deeper (envOfC qual scope s.heap.objs.size f cdv)) → ∃ t, PSsW (cxOf CX0 P wd K mg base N qual scope f cdv A outer s H E).nox body t w) :
    FnOk P wd K mg base CX0 (k + 1) f fd ps (spW K n (fnW m w)) := by
  subst hn hm
  refine F.ok S (fun vs H Q E h => spW_len h) (fun cdv A outer s H vs Q E hr hsp => ?_)
  obtain ⟨t, ht⟩ := h cdv A outer s H E hr
  exact ⟨t, PSs.nox ht.ps, fn_sound S ht.sn hsp⟩
end Wy

set_option Elab.async false
set_option linter.all false
set_option maxRecDepth 100000
set_option maxHeartbeats 2000000
/-! W8: the words that all laws share: a cell of the script, a draw; the law's own beginning. -/
namespace Wy
open PySem PyProof.Rows L2
section
variable {K : PySem.W.Frag}
abbrev tLen1 (K : PySem.W.Frag) (t : TE) : TE := tCB (fun xs H Q => ∃ x n, xs = [x] ∧ LenV K x H n ∧ Q (.int n) H) (tCons t tNil)
abbrev tInt1 (t : TE) : TE := tCB (fun xs H Q => (∃ i, xs = [.int i] ∧ Q (.int i) H) ∨ ∃ k, xs = [.bl k] ∧ Q (.int (if k then 1 else 0)) H) (tCons t tNil)
/-- if k < len(script): return script[k]; return 0 -/
def tCell (K : PySem.W.Frag) : TS := tSeq (tIfS (tTest (tOp (rI0 fun i j => .bl (decide (i < j))) (tVar 1) (tLen1 K (tVar 0)))) (tRet (tOp (rIxL K) (tVar 0) (tVar 1))) tNext) (tRet (tC (.int 0)))
def cellW : OL := fun ds Q => match ds with
  | [s, .int k] => s = scD ∧ 0 ≤ k ∧ ∀ z : Int, Q (.int z)
  | _ => False
theorem scr_of {bx : Bx} {T : Addr → Prop} {H : Hp} {v : V} (r : RP K bx T H v scD) : ∃ a ns, v = .ref a ∧ ScrAt K T H a ns := by
  generalize e : scD = d at r
  cases r with
  | scr h => exact ⟨_, _, rfl, h⟩
  | box h => cases e
  | dic h n q =>
    cases e
    generalize e2 : ([(PyData.bool true, PyData.none)] : List (D × D)) = l at q
    cases q with
    | nil => cases e2
    | cons h1 h2 =>
      rename_i k v0 vs d0 ds0
      cases k <;> cases e2
  | _ => cases e
theorem box_of {bx : Bx} {T : Addr → Prop} {H : Hp} {v : V} (r : RP K bx T H v bxD) : ∃ b a, v = .ref b ∧ bx = some (b, a) := by
  generalize e : bxD = d at r
  cases r with
  | scr h => cases e
  | box h => exact ⟨_, _, rfl, h⟩
  | dic h n q =>
    cases e
    generalize e2 : ([(PyData.none, PyData.none)] : List (D × D)) = l at q
    cases q with
    | nil => cases e2
    | cons h1 h2 =>
      rename_i k v0 vs d0 ds0
      cases k <;> cases e2
  | _ => cases e
theorem cell_ok {vs : List V} {H : Hp} {Q : VK} {E : XK} (h : spW K 2 cellW vs H Q E) {N : List Str} : tCell K { nx := fun _ H' => Q .non H', rt := Q } (L2.start N vs) H := by
  obtain ⟨bx, T, ds, Qd, hl, g, r, p, hw⟩ := h
  cases r with
  | nil => cases hl
  | cons r1 r =>
    cases r with
    | nil => cases hl
    | cons r2 r =>
      cases r with
      | cons _ _ => cases hl
      | nil =>
        cases r2 with
        | int k =>
          obtain ⟨e, hk, hz⟩ := hw
          subst e
          obtain ⟨a, ns, rfl, hs⟩ := scr_of r1
          refine ⟨_, rfl, _, rfl, _, ns.length, rfl, Or.inl ⟨_, hs.sq, by rw [List.length_map]⟩, k, (ns.length : Int), rfl, rfl, _, rfl, ?_⟩
          by_cases q : k < (ns.length : Int)
          · have q2 : decide (k < (ns.length : Int)) = true := decide_eq_true q
            show if decide (k < (ns.length : Int)) = true then _ else _
            rw [if_pos q2]
            have hlt : k.toNat < ns.length := by omega
            obtain ⟨y, hy⟩ : ∃ y, ns[k.toNat]? = some y := ⟨_, List.getElem?_eq_getElem hlt⟩
            refine ⟨_, rfl, _, rfl, a, _, k, .int y, rfl, rfl, hs.sq, ?_, p.here g (.int _) (hz _)⟩
            have e : k = ((k.toNat : Nat) : Int) := by omega
            rw [e]
            refine atI_nat ?_
            rw [List.getElem?_map, hy]
            rfl
          · have q2 : decide (k < (ns.length : Int)) = false := decide_eq_false q
            show if decide (k < (ns.length : Int)) = true then _ else _
            rw [q2]
            exact p.here g (.int _) (hz 0)
        | _ => exact hw.elim
/-- box[1] = box[1] + 1; .. -/
def tDraw (K : PySem.W.Frag) : TS := tSeq (tAsg (tOp (rI0 fun i j => .int (i + j)) (tOp (rIxL K) (tVar 0) (tC (.int 1))) (tC (.int 1))) (gSub (tVar 0) (tC (.int 1)) rSetL))
  (tSeq (tIfS (tTest (tOp (rI0 fun i j => .bl (decide (j < i))) (tOp (rIxL K) (tVar 0) (tC (.int 1))) (tLen1 K (tOp (rIxL K) (tVar 0) (tC (.int 0))))))
    (tRet (tOp (rI (fun _ j => 0 < j) fun i j => .int (i % j)) (tInt1 (tOp (rI0 fun i j => .int (i + j)) (tOp (rI CMul fun i j => .int (i * j)) (tOp (rIxL K) (tVar 0) (tC (.int 1))) (tC (.int 7))) (tC (.int 3)))) (tVar 1))) tNext)
  (tRet (tOp (rI (fun _ j => 0 < j) fun i j => .int (i % j)) (tInt1 (tOp (rIxL K) (tOp (rIxL K) (tVar 0) (tC (.int 0))) (tOp (rI0 fun i j => .int (i - j)) (tOp (rIxL K) (tVar 0) (tC (.int 1))) (tC (.int 1))))) (tVar 1))))
def drawW : OL := fun ds Q => match ds with
  | [b, .int m] => b = bxD ∧ 0 < m ∧ ∀ r : Int, 0 ≤ r → r < m → Q (.int r)
  | _ => False
theorem draw_ok {vs : List V} {H : Hp} {Q : VK} {E : XK} (h : spW K 2 drawW vs H Q E) {N : List Str} : tDraw K { nx := fun _ H' => Q .non H', rt := Q } (L2.start N vs) H := by
  obtain ⟨bx, T, ds, Qd, hl, g, r, p, hw⟩ := h
  cases r with
  | nil => cases hl
  | cons r1 r =>
    cases r with
    | nil => cases hl
    | cons r2 r =>
      cases r with
      | cons _ _ => cases hl
      | nil =>
        cases r2 with
        | int m =>
          obtain ⟨e, hm, hz⟩ := hw
          subst e
          obtain ⟨b, a, rfl, eb⟩ := box_of r1
          obtain ⟨nab, ds, c, hb, ha, hc⟩ := g.box b a eb
          have hb1 : upd H b (.lst [.ref a, .int (c + 1)]) b = some (.lst [.ref a, .int (c + 1)]) := upd_same
          have ha1 : upd H b (.lst [.ref a, .int (c + 1)]) a = some (.lst (ds.map V.int)) := by rw [upd_ne nab]; exact ha
          have ee : Ext bx H (upd H b (.lst [.ref a, .int (c + 1)])) := fun q o n hq => by
            rw [upd_ne (fun z => n ⟨a, by rw [z]; exact eb⟩)]; exact hq
          have bb : BoxOk bx (upd H b (.lst [.ref a, .int (c + 1)])) := fun b' a' e' => by
            rw [eb] at e'
            cases e'
            exact ⟨nab, ds, c + 1, hb1, ha1, by omega⟩
          have fin : ∀ z : Int, Q (.int (z % m)) (upd H b (.lst [.ref a, .int (c + 1)])) := fun z =>
            p _ _ _ ee bb (.int _) (hz _ (Int.emod_nonneg _ (by omega)) (Int.emod_lt_of_pos _ hm))
          refine ⟨_, rfl, _, _, _, _, rfl, rfl, SqL.of hb, rfl, _, _, rfl, rfl, _, rfl, b, _, _, 1, rfl, rfl, hb, rfl, ?_⟩
          show tSeq _ _ _ _ (upd H b (.lst [.ref a, .int (c + 1)]))
          refine ⟨_, rfl, _, _, _, _, rfl, rfl, SqL.of hb1, rfl, _, rfl, _, _, _, _, rfl, rfl, SqL.of hb1, rfl, _, ds.length, rfl, Or.inl ⟨_, SqL.of ha1, by rw [List.length_map]⟩, _, _, rfl, rfl, _, rfl, ?_⟩
          by_cases q : (ds.length : Int) < c + 1
          · have q2 : decide ((ds.length : Int) < c + 1) = true := decide_eq_true q
            show if decide ((ds.length : Int) < c + 1) = true then _ else _
            rw [if_pos q2]
            refine ⟨_, rfl, _, _, _, _, rfl, rfl, SqL.of hb1, rfl, _, _, rfl, rfl, .inr ⟨by decide, by decide⟩, _, _, rfl, rfl, Or.inl ⟨_, rfl, _, rfl, _, _, rfl, rfl, hm, fin _⟩⟩
          · have q2 : decide ((ds.length : Int) < c + 1) = false := decide_eq_false q
            show if decide ((ds.length : Int) < c + 1) = true then _ else _
            rw [q2]
            have hlt : c.toNat < ds.length := by omega
            refine ⟨_, rfl, _, _, _, _, rfl, rfl, SqL.of hb1, rfl, _, rfl, _, _, _, _, rfl, rfl, SqL.of hb1, rfl, _, _, rfl, rfl, _, _, _, .int ds[c.toNat], rfl, rfl, SqL.of ha1, ?_, Or.inl ⟨_, rfl, _, rfl, _, _, rfl, rfl, hm, fin _⟩⟩
            have e : c + 1 - 1 = ((c.toNat : Nat) : Int) := by omega
            rw [e]
            refine atI_nat ?_
            rw [List.getElem?_map, List.getElem?_eq_getElem hlt]
            rfl
        | _ => exact hw.elim
end
/-! ### the law: box = [digits, 0], then the rest -/
def spLaw (K : PySem.W.Frag) : Sp := fun vs H Q _ => ∃ (a : Addr) (ns : List Int), vs = [.ref a] ∧ Only H ∧ SqL K H a (ns.map V.int) ∧ ∀ H', Q (.bl true) H'
def intsD (ds : List D) : Option (List Int) := match ds with
  | [] => some []
  | .int i :: r => (intsD r).map (i :: ·)
  | _ :: _ => none
theorem ints_of {K : PySem.W.Frag} {bx : Bx} {T : Addr → Prop} {H : Hp} : ∀ {xs : List V} {ds : List D} {bs : List Int}, RPs K bx T H xs ds → intsD ds = some bs → xs = bs.map V.int
  | _, _, _, .nil, e => by cases e; rfl
  | _, _, _, .cons (d := d) (ds := ds) h r, e => by
    cases h with
    | int b =>
      unfold intsD at e
      cases e2 : intsD ds with
      | none => rw [e2] at e; cases e
      | some bs =>
        rw [e2] at e
        cases e
        rw [ints_of r e2]; rfl
    | _ => cases e
/-- what of a law's body is to be shown: its first statement makes the box at slot i, the rest runs to True -/
def lawW (m i : Nat) (dig : EW) (w : SW) : Prop := (dig (some scD :: List.replicate (m - 1) none) fun d => ∃ ds bs, d = .list ds ∧ intsD ds = some bs) ∧
  w ((some (.dat scD) :: List.replicate (m - 1) none).set i (some (.dat bxD))) { nx := fun _ => False, rt := fun d => d = .bool true }
theorem law_ok {K : PySem.W.Frag} {N : List Str} {i : Nat} {td : TE} {dig : EW} {t : TS} {w : SW} (hi : 0 < i) (hN : 1 ≤ N.length) (hd : SndE K td dig) (hr : SndS K t w) (hw : lawW N.length i dig w) {vs : List V} {H : Hp} {Q : VK} {E : XK} (h : spLaw K vs H Q E) :
    tSeq (tAsg (tLst (tCons td (tCons (tC (.int 0)) tNil))) (gName i)) t { nx := fun _ H' => Q .non H', rt := Q } (L2.start N vs) H := by
  obtain ⟨s, ns, rfl, ho, hs, hq⟩ := h
  obtain ⟨hdig, hrest⟩ := hw
  have scr : ∀ (T : Addr → Prop) (H' : Hp), (∀ a o, H a = some o → H' a = some o ∧ ¬ T a) → ScrAt K T H' s ns := fun T H' k => by
    rcases hs with (h | ⟨o, h⟩) | h
    · rcases ho s with e | ⟨o, xs, e⟩
      · rw [e] at h; cases h
      · rw [e] at h; cases h
    · exact Or.inl ⟨(k _ _ h).2, o, (k _ _ h).1⟩
    · exact Or.inr h
  have hst : L2.start N [.ref s] = some (.ref s) :: List.replicate (N.length - 1) none := rfl
  rw [hst]
  have emp : ∀ (j : Nat) (d : D), ((some scD : Option D) :: List.replicate (N.length - 1) none)[j]? = some (some d) → j = 0 ∧ d = scD := fun j d h => by
    cases j with
    | zero => cases h; exact ⟨rfl, rfl⟩
    | succ j =>
      rw [List.getElem?_cons_succ, List.getElem?_replicate] at h
      split at h <;> cases h
  have g0 : Good none (fun _ => False) H := ⟨fun b a e => (nomatch e), fun b a e => (nomatch e), fun p z => z.elim⟩
  refine hd none (fun _ => False) _ H _ _ _ g0 ⟨by simp, fun j d h => ?_⟩ (fun d v H1 e1 b1 r1 h1 => ?_) hdig
  · obtain ⟨rfl, rfl⟩ := emp j d h
    exact ⟨_, rfl, .scr (scr _ _ fun a o h => ⟨h, fun z => z⟩)⟩
  · obtain ⟨ds, bs, rfl, hb⟩ := h1
    cases r1 with
    | lst ha na ra =>
      rename_i a vs
      have hv := ints_of ra hb
      subst hv
      refine ⟨by show 2 ≤ sizeLine; decide, fun p hp => ?_⟩
      have nap : a ≠ p := ne_of_none ha hp
      have ne1 : ∀ x o, H1 x = some o → upd H1 p (.lst [.ref a, .int 0]) x = some o := fun x o h => by rw [upd_ne (ne_of_none h hp)]; exact h
      have k1 : ∀ x o, H x = some o → H1 x = some o := fun x o h => e1 x o (fun ⟨y, z⟩ => (nomatch z)) h
      have nT : ∀ x o, H x = some o → ¬ UM (fun b => b = p) (fun _ => False) x := fun x o h z => by
        rcases z with z | z
        · rw [z] at h
          rw [k1 _ _ h] at hp; cases hp
        · exact z
      refine hr (some (p, a)) (fun b => b = p) (fun _ => False) _ _ ((some (.dat scD) :: List.replicate (N.length - 1) none).set i (some (.dat bxD))) { nx := fun _ => False, rt := fun d => d = .bool true } _ ?_ ?_ ?_ hrest
      · refine ⟨fun b c e => ?_, fun b c e => ?_, fun x z => ?_, fun x z => z.elim⟩
        · cases e
          exact ⟨nap, bs, 0, upd_same, ne1 _ _ ha, by omega⟩
        · cases e
          exact ⟨rfl, fun z => z⟩
        · rcases z with z | z
          · exact ⟨_, by rw [z]; exact upd_same⟩
          · exact z.elim
      · refine ⟨by simp, fun j d h => ?_, fun j l h => ?_, fun j k l l' q _ h => ?_⟩
        · by_cases z : i = j
          · subst z
            by_cases q : i < (some (Sl.dat scD) :: List.replicate (N.length - 1) none).length
            · rw [List.getElem?_set_self q] at h
              cases h
              exact ⟨_, List.getElem?_set_self (by simpa using q), .box rfl⟩
            · rw [List.getElem?_eq_none (by rw [List.length_set]; omega)] at h
              cases h
          · rw [List.getElem?_set_ne z] at h ⊢
            cases j with
            | zero =>
              cases h
              exact ⟨_, rfl, .scr (scr _ _ fun x o hx => ⟨ne1 x o (k1 x o hx), nT x o hx⟩)⟩
            | succ j =>
              rw [List.getElem?_cons_succ, List.getElem?_replicate] at h
              split at h <;> cases h
        · by_cases z : i = j
          · subst z
            by_cases q : i < (some (Sl.dat scD) :: List.replicate (N.length - 1) none).length
            · rw [List.getElem?_set_self q] at h
              cases h
            · rw [List.getElem?_eq_none (by rw [List.length_set]; omega)] at h
              cases h
          · rw [List.getElem?_set_ne z] at h
            cases j with
            | zero => cases h
            | succ j =>
              rw [List.getElem?_cons_succ, List.getElem?_replicate] at h
              split at h <;> cases h
        · by_cases z : i = j
          · subst z
            by_cases q : i < (some (Sl.dat scD) :: List.replicate (N.length - 1) none).length
            · rw [List.getElem?_set_self q] at h
              cases h
            · rw [List.getElem?_eq_none (by rw [List.length_set]; omega)] at h
              cases h
          · rw [List.getElem?_set_ne z] at h
            cases j with
            | zero => cases h
            | succ j =>
              rw [List.getElem?_cons_succ, List.getElem?_replicate] at h
              split at h <;> cases h
      · refine ⟨fun W' σ' H' ρ' st g' r' q => q.elim, fun W' σ' H' ρ' st g' r' q => q.elim, fun W' σ' H' ρ' st g' r' q => q.elim, fun W' v d H' st b' rv q => ?_⟩
        subst q
        cases rv
        exact hq H'
/-- a def that is never called -/
theorem ok_false {P : Program} {wd : World} {K : PySem.W.Frag} {mg : Str → Option Value} {base : Heap} {f : Addr} {fd : FuncData} {ps : List Str} {k n : Nat} : FnOk P wd K mg base CX0 k f fd ps (spW K n fun _ _ => False) :=
  ⟨fun vs H Q E h => by obtain ⟨_, _, _, _, _, _, _, _, z⟩ := h; exact z.elim, fun A outer s H args us vs Q E _ _ _ _ h => by obtain ⟨_, _, _, _, _, _, _, _, z⟩ := h; exact z.elim⟩
end Wy

set_option Elab.async false
set_option linter.all false
set_option maxRecDepth 100000
set_option maxHeartbeats 2000000
/-! W9: more ways to a new list, insert, stored items that are scalars, small words for printed proofs. -/
namespace Wy
open PySem PyProof.Rows L2
theorem hu64 {A : Around} {k : Nat} (hr : Room k A) : A.units + 64 < cLine := hr.units
theorem hu65 {A : Around} {k : Nat} (hr : Room k A) : A.units + 65 < cLine := by have := hr.un; omega
/-- a def of the top as it stands -/
structure Df (K : PySem.W.Frag) (mg : Str → Option Value) (x : Str) (st : Stmt) where
  f : Addr
  fd : FuncData
  F : FunD K x x (defArgs st) (defBody st) (defScope st) [] [] f fd
  g : mg x = some (.ref f)
section
variable {K : PySem.W.Frag} {bx : Bx} {T : Addr → Prop} {H H1 : Hp}
theorem none_back (e : Ext bx H H1) (b : BoxOk bx H1) {a : Addr} (na : H1 a = none) : H a = none := by
  cases z : H a with
  | none => rfl
  | some o =>
    by_cases nb : isB bx a
    · obtain ⟨x, hx⟩ := nb
      obtain ⟨_, ds', c, h2, _⟩ := b a x hx
      rw [na] at h2; cases h2
    · have := e a o nb z
      rw [na] at this; cases this
theorem RPs.fresh {a : Addr} {o : HO} {vs : List V} {ds : List D} (na : H a = none) (r : RPs K bx T H vs ds) : RPs K bx (fun b => T b ∨ b = a) (upd H a o) vs ds := r.move (fun _ z => z) fun x o' nx hx => ⟨by rw [upd_ne (ne_of_none hx na)]; exact hx, fun z => by
  rcases z with z | z
  · exact nx z
  · rw [z, na] at hx; cases hx⟩
end
section
variable {X : Cx} {a b e k : Expr} {ta tb te tk : TE} {wa wb we wk : EW} {pos p1 p2 pos' : Pos}
/-- list + list -/
def wCatN (a b : EW) : NW := fun δ Q => a δ fun x => b δ fun y => match x, y with
  | .list xs, .list ys => xs.length + ys.length ≤ sizeLine ∧ Q (xs ++ ys)
  | _, _ => False
theorem ncat (ha : PEW X a ta wa) (hb : PEW X b tb wb) : PNW X (.BinOp a .Add b pos) (tOp rCat ta tb) (wCatN wa wb) := ⟨pe_op op_cat ha.pe hb.pe, fun bx T σ H δ Qd Q g en p q =>
  ha.sn bx T σ H δ _ _ g en (fun dx x H1 e1 b1 r1 h1 => hb.sn bx T σ H1 δ _ _ (g.on e1 b1) (en.on g e1) (fun dy y H2 e2 b2 r2 h2 => by
    have g1 := g.on e1 b1
    have g2 := g1.on e2 b2
    have r1' := r1.on g1 e2
    cases r1' with
    | lst hx nx rx =>
      cases r2 with
      | lst hy ny ry => exact ⟨_, _, _, _, rfl, rfl, hx, hy, by rw [rx.length, ry.length]; exact h2.1, fun l hl => p _ _ l _ ((e1.trans e2).trans (ext_new hl)) (box_new hl b2) (none_back (e1.trans e2) b2 hl) upd_same ((rx.append ry).fresh hl) h2.2⟩
      | _ => exact False.elim h2
    | _ => cases r2 <;> exact False.elim h2) h1) q⟩
/-- text.split(sep) -/
def wSplitN (a b : EW) : NW := fun δ Q => a δ fun x => match x with
  | .str z => b δ fun y => match y with
    | .str s => (s.length == 0) = false ∧ z.length + 2 ≤ sizeLine ∧ Q ((Txt.split z s).map PyData.str)
    | _ => False
  | _ => False
theorem nsplit {apos : Pos} (ha : PEW X a ta wa) (hb : PEW X b tb wb) (hs : starEach [b] X.env = [(false, eval b X.env)] := by rfl) (hbase : attributeBase a "split" X.env (eval a X.env) = eval a X.env := by rfl) (hline : (apos.endLine == pos.line) = true := by rfl) :
    PNW X (.Call (.Attribute a "split" apos) [b] [] pos) (tM1 rSplit ta tb) (wSplitN wa wb) := ⟨pe_split ha.pe hb.pe hs hbase hline, fun bx T σ H δ Qd Q g en p q =>
  ha.sn bx T σ H δ _ _ g en (fun dx x H1 e1 b1 r1 h1 => by
    cases r1 with
    | str z =>
      refine ⟨⟨z, rfl⟩, hb.sn bx T σ H1 δ _ _ (g.on e1 b1) (en.on g e1) (fun dy y H2 e2 b2 r2 h2 => ?_) h1⟩
      cases r2 with
      | str s => exact ⟨_, _, rfl, rfl, h2.1, h2.2.1, fun l hl => p _ _ l _ ((e1.trans e2).trans (ext_new hl)) (box_new hl b2) (none_back (e1.trans e2) b2 hl) upd_same ((RPs.ofStrs _).fresh hl) h2.2.2⟩
      | _ => exact False.elim h2
    | _ => exact False.elim h1) q⟩
/-- list(x) -/
def wListN (a : EW) : NW := fun δ Q => a δ fun x => match x with
  | .list xs => Q xs
  | .tuple xs => Q xs
  | _ => False
theorem nlistof (hm : X.mg "list" = none) (ha : PEW X a ta wa) (hg : Gl X "list" := by rfl) (he : starEach [a] X.env = (false, eval a X.env) :: starEach [] X.env := by rfl) (hpl : (backTo pos (starEach [] X.env)).any (·.1) = false := by rfl) :
    PNW X (.Call (.Name "list" p2) [a] [] pos) (tCB (fun xs H Q => ∃ p ys, xs = [.ref p] ∧ (SqL X.K H p ys ∨ SqT X.K H p ys) ∧ ∀ l, H l = none → Q (.ref l) (upd H l (.lst ys))) (tCons ta tNil)) (wListN wa) :=
  ⟨pe_callTy call_list_of hg hm (by decide +kernel) (pa_cons ha.pe pa_nil he) (by decide) (by decide) he hpl, fun bx T σ H δ Qd Q g en p q =>
  ha.sn bx T σ H δ _ _ g en (fun dx x H1 e1 b1 r1 h1 => by
    cases r1 with
    | lst hx nx rx => exact ⟨_, _, rfl, Or.inl (SqL.of hx), fun l hl => p _ _ l _ (e1.trans (ext_new hl)) (box_new hl b1) (none_back e1 b1 hl) upd_same (rx.fresh hl) h1⟩
    | tup hx rx => exact ⟨_, _, rfl, Or.inr hx.sq, fun l hl => p _ _ l _ (e1.trans (ext_new hl)) (box_new hl b1) (none_back e1 b1 hl) upd_same (rx.fresh hl) h1⟩
    | _ => exact False.elim h1) q⟩
/-- x[k] = e, e no list or tuple, of own lists too -/
def wSetIS (i : Nat) (ek e : EW) : SW := fun ρ P => match ρ[i]? with
  | some (some (.own l)) => e (vF ρ) fun d => scal1 d = true ∧ ek (vF ρ) fun k => match k with
    | .int z => ∃ j, ixN l.length z = some j ∧ P.nx (ρ.set i (some (.own (l.set j d))))
    | _ => False
  | _ => False
theorem snd_setIS {K : PySem.W.Frag} {i : Nat} (h : SndE K te we) (hk : SndE K tk wk) : SndS K (tAsg te (gSub (tVar i) tk rSetL)) (wSetIS i wk we) := fun bx M W σ H ρ P Dn g r p q => by
  unfold wSetIS at q
  split at q
  · rename_i l e
    obtain ⟨a, vs, h1, h2, h3, h4⟩ := r.own i l e
    refine h bx M σ H (vF ρ) _ _ g.goodM (r.eF g) (fun d v H1 e1 b1 rv hq => ?_) q
    obtain ⟨hs, hq⟩ := hq
    have g1 := g.on e1 b1
    have r1 := r.on g e1
    refine ⟨_, h1, hk bx M σ H1 (vF ρ) _ _ g1.goodM (r1.eF g1) (fun k vk H2 e2 b2 rk hq2 => ?_) hq⟩
    cases rk with
    | int z =>
      obtain ⟨j, hj, hn⟩ := hq2
      have g2 := g1.on e2 b2
      have r2 := r1.on g1 e2
      have h2' : H2 a = some (.lst vs) := e2 a _ (g.nb h4) (e1 a _ (g.nb h4) h2)
      have h3' := (h3.on g.good e1).on g1.good e2
      obtain ⟨g3, r3, s3⟩ := own_upd g2 r2 (ws := vs.set j v) (ds := l.set j d) e h1 h4 (h3'.setAt j (scal_move rv hs)) (vs := vs)
      exact ⟨a, vs, z, j, rfl, rfl, h2', by rw [h3.length]; exact hj, p.nx W _ _ _ (((Stp.of e1).trans (Stp.of e2)).trans s3) g3 r3 hn⟩
    | _ => exact False.elim hq2
  · exact q.elim
theorem ssetiS (i : Nat) {x : Str} (hk : PEW X k tk wk) (he : PEW X e te we) (hg : PG X (.Subscript (.Name x p1) k p2) (gSub (tVar i) tk rSetL)) (hs : swapsWithSole [.Subscript (.Name x p1) k p2] e pos.line X.env = pure false := by rfl) (hw : swappedStores [.Subscript (.Name x p1) k p2] e X.env = pure none := by rfl)
    (h1 : (assignEach [.Subscript (.Name x p1) k p2] X.env).map (·.2) = [assign (.Subscript (.Name x p1) k p2) X.env] := by rfl) : PSW X (.Assign [.Subscript (.Name x p1) k p2] e pos) (tAsg te (gSub (tVar i) tk rSetL)) (wSetIS i wk we) := ⟨ps_asg he.pe hg hs hw h1, snd_setIS he.sn hk.sn⟩
/-- x.insert(k, e) -/
abbrev rIns : V → List V → Hp → VK → Prop := fun x vs H Q => ∃ (l : Addr) (xs : List V) (i : Int) (y : V), x = .ref l ∧ vs = [.int i, y] ∧ H l = some (.lst xs) ∧ xs.length < sizeLine ∧ 0 ≤ i ∧ i < 2 ^ 63 ∧
    Q .non (upd H l (.lst (xs.take i.toNat ++ [y] ++ xs.drop i.toNat)))
def wIns (i : Nat) (ek e : EW) : SW := fun ρ P => match ρ[i]? with
  | some (some (.own l)) => ek (vF ρ) fun k => match k with
    | .int z => e (vH ρ) fun d => (l.length < sizeLine ∧ 0 ≤ z ∧ z < 2 ^ 63) ∧ P.nx (ρ.set i (some (.own (l.take z.toNat ++ [d] ++ l.drop z.toNat))))
    | _ => False
  | _ => False
theorem snd_ins {K : PySem.W.Frag} {i : Nat} (hk : SndE K tk wk) (h : SndE K te we) : SndS K (tDrop (tBM K "list" rIns (tVar i) (tCons tk (tCons te tNil)))) (wIns i wk we) := fun bx M W σ H ρ P Dn g r p q => by
  unfold wIns at q
  split at q
  · rename_i l e
    obtain ⟨a, vs, h1, h2, h3, h4⟩ := r.own i l e
    refine ⟨_, h1, Or.inl ⟨rfl, _, SqL.of h2⟩, hk bx M σ H (vF ρ) _ _ g.goodM (r.eF g) (fun k vk H1 e1 b1 rk hq => ?_) q⟩
    have g1 := g.on e1 b1
    have r1 := r.on g e1
    cases rk with
    | int z =>
      refine h bx (UM M W) σ H1 (vH ρ) _ _ g1.good r1.eH (fun d v H2 e2 b2 rv hq2 => ?_) hq
      have g2 := g1.on e2 b2
      have r2 := r1.on g1 e2
      have h2' : H2 a = some (.lst vs) := e2 a _ (g.nb h4) (e1 a _ (g.nb h4) h2)
      have h3' := (h3.on g.good e1).on g1.good e2
      obtain ⟨g3, r3, s3⟩ := own_upd g2 r2 (ws := vs.take z.toNat ++ [v] ++ vs.drop z.toNat) (ds := l.take z.toNat ++ [d] ++ l.drop z.toNat) e h1 h4 (((h3'.take _).append (.cons rv .nil)).append (h3'.drop _)) (vs := vs)
      exact ⟨a, vs, z, v, rfl, rfl, h2', by rw [h3.length]; exact hq2.1.1, hq2.1.2.1, hq2.1.2.2, p.nx W _ _ _ (((Stp.of e1).trans (Stp.of e2)).trans s3) g3 r3 hq2.2⟩
    | _ => exact False.elim hq
  · exact q.elim
theorem sins (i : Nat) {x : Str} {apos : Pos} (hk : PEW X k tk wk) (he : PEW X e te we) (hN : X.N[i]? = some x := by rfl) (hv : Vis X.env.scope x := by first | exact Or.inl rfl | exact Or.inr (Or.inl rfl) | exact Or.inr (Or.inr rfl)) (hd : (x == ("__debug__" : Str)) = false := by decide)
    (hcd : (x == ("__classdict__" : Str)) = false := by decide)
    (hbase : attributeBase (.Name x p1) "insert" X.env (eval (.Name x p1) X.env) = eval (.Name x p1) X.env := by rfl)
    (hfew : ((backTo p2 (starEach [k, e] X.env)).all (fun x => !x.1) && (backToKw p2 (keywordEach [] X.env)).all (fun x => x.1.isSome)
      && decide ([k, e].length + ([] : List Keyword).length + (if ([] : List Keyword).isEmpty then 0 else 1) < 30)) = true := by rfl)
    (hline : (apos.endLine == p2.line) = true := by rfl) (hst : starEach [k, e] X.env = (false, eval k X.env) :: starEach [e] X.env := by rfl) (hst2 : starEach [e] X.env = (false, eval e X.env) :: starEach [] X.env := by rfl) (hplain : (backTo p2 (starEach [e] X.env)).any (·.1) = false := by rfl)
    (hs : swapsWith (.Call (.Attribute (.Name x p1) "insert" apos) [k, e] [] p2) none pos.line X.env = pure false := by rfl) :
    PSW X (.Expr (.Call (.Attribute (.Name x p1) "insert" apos) [k, e] [] p2) pos) (tDrop (tBM X.K "list" rIns (tVar i) (tCons tk (tCons te tNil)))) (wIns i wk we) :=
  ⟨ps_expr (pe_bm PySem.F.plainAttrs_list PySem.F.slot_list_insert PySem.F.type_list_insert mt_insert (pv i hN hv hd hcd) (pa_cons hk.pe (pa_cons he.pe pa_nil hst2) hst) hbase hfew hline hst hplain) hs, snd_ins hk.sn he.sn⟩
end
end Wy

set_option Elab.async false
set_option linter.all false
set_option maxRecDepth 100000
set_option maxHeartbeats 2000000
/-! W10: the rules with the written part named (within a comprehension's block the reading must not lean on the block). -/
namespace Wy
open PySem PyProof.Rows L2
section
variable {X : Cx} (K : PySem.W.Frag) {a b c e : Expr} {es : List Expr} {ta tb tc te : TE} {wa wb wc we : EW} {tr : TA} {wr : AW} {pos p2 : Pos} {lo hi : Option Expr} {tl th : TO} {wl wh : OW}
theorem ka_add (hK : X.K = K := by rfl) : OpW X (binaryOp .Add) (rAddW K) oAdd := by subst hK; exact ow_add
theorem ka_eq (hu : X.A.units + 64 < cLine) (hK : X.K = K := by rfl) : OpW X (compareOp .Eq) (rEqW K) oEq := by subst hK; exact ow_eq hu
theorem ka_ne (hu : X.A.units + 64 < cLine) (hK : X.K = K := by rfl) : OpW X (compareOp .NotEq) (rNeW K) oNe := by subst hK; exact ow_ne hu
theorem ka_in (hu : X.A.units + 65 < cLine) (hK : X.K = K := by rfl) : OpW X (compareOp .In) (rInW K) (oInB false) := by subst hK; exact ow_in hu
theorem ka_notin (hu : X.A.units + 65 < cLine) (hK : X.K = K := by rfl) : OpW X (compareOp .NotIn) (rNotInW K) (oInB true) := by subst hK; exact ow_notin hu
theorem kix (ha : PEW X a ta wa) (hb : PEW X b tb wb) (hK : X.K = K := by rfl) (hs : PlainIx b := by exact fun _ _ => rfl) : PEW X (.Subscript a b pos) (tOp (rIx K) ta tb) (wOp oIx wa wb) := by subst hK; exact eix ha hb hs
theorem ksl (ha : PEW X a ta wa) (hl : POW X lo tl wl) (hh : POW X hi th wh) (hK : X.K = K := by rfl) : PEW X (.Subscript a (.Slice lo hi none p2) pos) (tSl (rSlW K) ta tl th) (wSl wa wl wh) := by subst hK; exact esl ha hl hh
theorem ktru (ha : PEW X a ta wa) (hK : X.K = K := by rfl) (he : ∀ whole, isTrue a X.env whole = (do let v ← whole; standAt a.pos; holding [v] (truthy v)) := by intro _; rfl) :
    PTW X a (fun σ H Q => ta σ H fun x H' => ∃ k, TruV K x H' k ∧ Q k H') (wTru wa) := by subst hK; exact ttru ha he
theorem kb_len (hK : X.K = K := by rfl) : CbW X (.builtin "len") (fun xs H Q => ∃ x n, xs = [x] ∧ LenV K x H n ∧ Q (.int n) H) (on1 oLen) := by subst hK; exact cb_len
theorem kb_all (hc : X.calm = true) (hK : X.K = K := by rfl) : CbW X (.builtin "all") (rAll K) (on1 oAll) := by subst hK; exact cb_all hc
theorem kb_any (hc : X.calm = true) (hK : X.K = K := by rfl) : CbW X (.builtin "any") (rAny K) (on1 oAny) := by subst hK; exact cb_any hc
theorem kb_list (hK : X.K = K := by rfl) : CbW X (.type "list") (fun xs H Q => ∃ p ys, xs = [.ref p] ∧ (SqL K H p ys ∨ SqT K H p ys) ∧ ∀ l, H l = none → Q (.ref l) (upd H l (.lst ys))) (on1 oListOf) := by subst hK; exact cb_list
theorem kb_tuple (hK : X.K = K := by rfl) : CbW X (.type "tuple") (fun xs H Q => ∃ p ys, xs = [.ref p] ∧ ((SqL K H p ys ∧ ∀ l, H l = none → Q (.ref l) (upd H l (.tup ys))) ∨ (SqT K H p ys ∧ Q (.ref p) H))) (on1 oTupleOf) := by subst hK; exact cb_tuple
theorem kisi {x : Str} {T : String} {q1 : Pos} (hT : IsT T) (hm : X.mg "isinstance" = none) (hx : X.mg x = none) (hvx : bootBuiltins x = some (.type T)) (ha : PEW X a ta wa) (hK : X.K = K := by rfl) (hg : Gl X "isinstance" := by rfl) (hgx : Gl X x := by rfl) (hnx : x ≠ "__name__" := by decide) (hdx : (x == ("__debug__" : Str)) = false := by decide)
    (he : starEach [a, .Name x q1] X.env = (false, eval a X.env) :: starEach [.Name x q1] X.env := by rfl) (he2 : starEach [.Name x q1] X.env = (false, eval (.Name x q1) X.env) :: starEach [] X.env := by rfl) (hpl : (backTo pos (starEach [.Name x q1] X.env)).any (·.1) = false := by rfl) :
    PEW X (.Call (.Name "isinstance" p2) [a, .Name x q1] [] pos) (tCB (rIsi K) (tCons ta (tCons (tC (.ty T)) tNil))) (wUn (oIsi T) wa) := by subst hK; exact eisi hT hm hx hvx ha hg hgx hnx hdx he he2 hpl
theorem kjoin {apos : Pos} (ha : PEW X a ta wa) (hb : PEW X b tb wb) (hK : X.K = K := by rfl) (hs : starEach [b] X.env = [(false, eval b X.env)] := by rfl) (hbase : attributeBase a "join" X.env (eval a X.env) = eval a X.env := by rfl) (hline : (apos.endLine == pos.line) = true := by rfl) :
    PEW X (.Call (.Attribute a "join" apos) [b] [] pos) (tM1 (rJoin K) ta tb) (wM1 fJoin wa wb) := by subst hK; exact ejoin ha hb hs hbase hline
theorem klindex {apos : Pos} (hu : X.A.units + 65 < cLine) (ha : PEW X a ta wa) (hb : PEW X b tb wb) (hK : X.K = K := by rfl)
    (hbase : attributeBase a "index" X.env (eval a X.env) = eval a X.env := by rfl)
    (hfew : ((backTo pos (starEach [b] X.env)).all (fun x => !x.1) && (backToKw pos (keywordEach [] X.env)).all (fun x => x.1.isSome)
      && decide ([b].length + ([] : List Keyword).length + (if ([] : List Keyword).isEmpty then 0 else 1) < 30)) = true := by rfl)
    (hline : (apos.endLine == pos.line) = true := by rfl) (hs : starEach [b] X.env = (false, eval b X.env) :: starEach [] X.env := by rfl) (hplain : (backTo pos (starEach [] X.env)).any (·.1) = false := by rfl) :
    PEW X (.Call (.Attribute a "index" apos) [b] [] pos) (tBM K "list" (rIndexD K) ta (tCons tb tNil)) (wL1 oLIndex wa wb) := by subst hK; exact elindex hu ha hb hbase hfew hline hs hplain
theorem kcall {k n : Nat} {fa : Addr} {fd : FuncData} {ps : List Str} {x : Str} {f : OL} (F : FnOk X.prog X.w X.K X.mg X.base CX0 k fa fd ps (spW K n f)) (hr : Room k X.A) (hm : X.mg x = some (.ref fa)) (hk : PySem.W.keepIn K (.ref fa) = true) (hb : Binds K fd ps [])
    (ha : PAW X (e :: es) tr wr) (hK : X.K = K := by rfl) (hg : Gl X x := by rfl) (hdb : (x == ("__debug__" : Str)) = false := by decide) (he : starEach (e :: es) X.env = (false, eval e X.env) :: starEach es X.env := by rfl) (hpl : (backTo pos (starEach es X.env)).any (·.1) = false := by rfl) :
    PEW X (.Call (.Name x p2) (e :: es) [] pos) (tCall (spW K n f) [] E0 tr) (wFn n f wr) := by subst hK; exact ecall F hr hm hk hb ha hg hdb he hpl
theorem kcall0 {k n : Nat} {fa : Addr} {fd : FuncData} {ps : List Str} {x : Str} {f : OL} (F : FnOk X.prog X.w X.K X.mg X.base CX0 k fa fd ps (spW K n f)) (hr : Room k X.A) (hm : X.mg x = some (.ref fa)) (hk : PySem.W.keepIn K (.ref fa) = true) (hb : Binds K fd ps [])
    (hK : X.K = K := by rfl) (hg : Gl X x := by rfl) (hdb : (x == ("__debug__" : Str)) = false := by decide) : PEW X (.Call (.Name x p2) [] [] pos) (tCall (spW K n f) [] E0 tNil) (wFn n f wNil) := by subst hK; exact ecall0 F hr hm hk hb hg hdb
theorem kiter {tg : Expr} (he : PEW X e te we) (hK : X.K = K := by rfl) : PIW X tg e (iAny K te) (wIter we) := by subst hK; exact iter he
theorem kenum {elts : List Expr} {kk : Nat} {tpos : Pos} (hm : X.mg "enumerate" = none) (ha : PEW X a ta wa) (hK : X.K = K := by rfl) (hg : Gl X "enumerate" := by rfl) (hs : starEach [a] X.env = [(false, eval a X.env)] := by rfl) :
    PIW X (.Tuple elts kk tpos) (.Call (.Name "enumerate" p2) [a] [] pos) (iEnum K (tCons ta tNil)) (wEnum wa) := by subst hK; exact ienum hm ha hg hs
theorem ktup {k n : Nat} {t : TGs} {is : List Nat} (hc : X.calm = true) (h : PGsW X es t is) (hK : X.K = K := by rfl) (hn : (assignEach es X.env).length = n := by rfl) (hl : is.length = n := by rfl) (hst : (assignEach es X.env).findIdx? (·.1) = none := by rfl) :
    PGW X (.Tuple es k pos) (gTup K n t) is (uTup n) := by subst hK; exact gtup hc h hn hl hst
theorem kg {x : Str} {v : V} {u : Value} {d : D} (hm : X.mg x = some u) (rv : RelV v u) (hc : ∀ bx T H, RP K bx T H v d) (hK : X.K = K := by rfl) (hg : Gl X x := by rfl) (hd : (x == ("__debug__" : Str)) = false := by decide) : PEW X (.Name x pos) (tC v) (wC d) := by subst hK; exact eg hm rv hc hg hd
end
end Wy

set_option Elab.async false
set_option linter.all false
set_option maxRecDepth 100000
set_option maxHeartbeats 2000000
/-! W11: where a token must have been given out (str.replace). -/
namespace Wy
open PySem PyProof.Rows L2
section
variable {X : Cx} {a b c e : Expr} {ta tb te : TE} {tt tu : TT} {pos : Pos}
def PTT (X : Cx) (e : Expr) (t : TT) : Prop := ∀ (pins : List (Addr × Obj)) (s : Shared) (σ : L2.St) (H : Hp) (Q : Bool → Hp → Prop), 1 ≤ s.toks → Inv X pins σ H s → t σ H Q → wpAny (model X.prog X.w) X.A (isTrue e X.env (eval e X.env)) (TP X pins σ Q) X.xe s
def PWT (X : Cx) (e : Expr) (t : TT) : Prop := ∀ (wh : Sem Value) (pins : List (Addr × Obj)) (s : Shared) (σ : L2.St) (H : Hp) (Q : Bool → Hp → Prop), 1 ≤ s.toks → Inv X pins σ H s → t σ H Q → wpAny (model X.prog X.w) X.A (isTrue e X.env wh) (TP X pins σ Q) X.xe s
theorem PTT.of (h : PT X e tt) : PTT X e tt := fun pins s σ H Q _ I q => h.run pins s σ H Q I q
theorem PWT.t (h : PWT X e tt) : PTT X e tt := fun pins s σ H Q k I q => h _ pins s σ H Q k I q
theorem ptt_not (ha : PTT X a tt) : PTT X (.UnaryOp .Not a pos) (tNot tt) := fun pins s σ H Q k I h => isTrue_not (ha pins s σ H (fun z H1 => Q (!z) H1) k I h)
theorem pwt_or1 (ha : PTT X a tt) : PWT X (.BoolOp .Or [a] pos) tt := fun wh pins s σ H Q k I h => by
  refine isTrue_or (thn (ha pins s σ H Q k I h) fun z s2 hz => ?_)
  cases z
  · exact isTrue_or_nil hz
  · exact hz
theorem pwt_or {rest : List Expr} (ha : PTT X a tt) (hb : PWT X (.BoolOp .Or (b :: rest) pos) tu) : PWT X (.BoolOp .Or (a :: b :: rest) pos) (tOr tt tu) := fun wh pins s σ H Q k I h => by
  refine isTrue_or (wpAny_mono (PySem.wpAny_toks (ha pins s σ H _ k I h)) (fun z s2 hz => ?_) fun _ _ z => z.2)
  obtain ⟨hk, H2, I2, hq⟩ := hz
  cases z
  · exact hb wh pins s2 σ H2 Q (Nat.le_trans k hk) I2 hq
  · exact ⟨H2, I2, hq⟩
theorem ptt_truth (ha : PET X a ta) (he : ∀ whole, isTrue a X.env whole = (do let v ← whole; standAt a.pos; holding [v] (truthy v)) := by intro _; rfl) : PTT X a (fun σ H Q => ta σ H fun x H' => ∃ k, TruV X.K x H' k ∧ Q k H') := fun pins s σ H Q k I h =>
  isTrue_plain (thn (ha pins s σ H _ k I h) fun v s2 hz => by
    obtain ⟨x, H2, I2, r2, hq⟩ := hz
    exact tru_ok pins s2 σ H2 x v Q I2 r2 hq) (he _)
theorem pet_ifE (hc : PT X c tt) (ha : PET X a ta) (hb : PET X b tb) : PET X (.IfExp c a b pos) (tIf tt ta tb) := fun pins s σ H Q k I h => by
  refine wpAny_IfExp (wpAny_mono (PySem.wpAny_toks (hc.run pins s σ H _ I h)) (fun z s2 hz => ?_) fun _ _ z => z.2)
  obtain ⟨hk, H2, I2, hq⟩ := hz
  cases z
  · exact hb pins s2 σ H2 Q (Nat.le_trans k hk) I2 hq
  · exact ha pins s2 σ H2 Q (Nat.le_trans k hk) I2 hq
theorem pet_and {rest : List Expr} (ha : PET X a ta) (hb : PET X (.BoolOp .And (b :: rest) pos) tb) : PET X (.BoolOp .And (a :: b :: rest) pos) (tAndV ta tb) := fun pins s σ H Q k I h => by
  refine BoolOp_and (wpAny_mono (PySem.wpAny_toks (ha pins s σ H _ k I h)) (fun v s2 hz => ?_) fun _ _ z => z.2)
  obtain ⟨hk, x, H2, I2, r2, d, ed, hq⟩ := hz
  subst ed
  cases r2
  refine wpAny_truthy_bool ?_
  cases d
  · exact ⟨.bl false, H2, I2, rfl, hq⟩
  · exact hb pins s2 σ H2 Q (Nat.le_trans k hk) I2 hq
theorem pet_one {op} (h : PET X a ta) : PET X (.BoolOp op [a] pos) ta := fun pins s σ H Q k I q => BoolOp_one (h pins s σ H Q k I q)
end
/-! ### a def that wants a token out -/
structure FnT (P : Program) (w : World) (K : PySem.W.Frag) (mg : Str → Option Value) (base : Heap) (k : Nat) (f : Addr) (fd : FuncData) (ps : List Str) (sp : Sp) : Prop where
  len : ∀ vs H Q E, sp vs H Q E → vs.length = ps.length
  run : ∀ (A : Around) (outer : List Env) (s : Shared) (H : Hp) (args : Args) (us : List Value) (vs : List V) (Q : VK) (E : XK), 1 ≤ s.toks → Room k A → Env0 P w K mg base A outer s H → BindsTo s fd args (ps.zip us) → Vals vs us → sp vs H Q E →
    codeAny (model P w) A (.call (.ref f) args) (CR CX0 outer P w H s Q E) s
section
variable {X : Cx} {k n : Nat} {fa : Addr} {fd : FuncData} {ps : List Str} {sp : Sp} {x : Str} {e : Expr} {es : List Expr} {t : TA} {pos p2 : Pos}
theorem run_t {pins : List (Addr × Obj)} {σ : L2.St} {H : Hp} {s : Shared} {Q : VK} {us : List Value} {vs : List V} (F : FnT X.prog X.w X.K X.mg X.base k fa fd ps sp) (hr : Room k X.A) (hb : Binds X.K fd ps []) (h1 : 1 ≤ s.toks)
    (I : Inv X pins σ H s) (r : Vals vs us) (h : sp vs H Q E0) : wpAny (model X.prog X.w) X.A (call (.ref fa) us) (EP X pins σ Q) X.xe s := by
  have hl : (us ++ []).length = ps.length := by rw [List.append_nil, ← r.length]; exact F.len _ _ _ _ h
  have bt := hb s us I.kIn hl
  rw [List.append_nil] at bt
  refine wpAny_call (codeAny_mono (F.run X.A X.stack s H ⟨us, []⟩ us vs Q E0 h1 hr I.env0 bt r h) fun res s' hq => ?_)
  rcases res with er | fl
  · exact False.elim hq
  · cases fl with
    | ret u => exact I.after hq
    | _ => exact False.elim hq
theorem pet_call (F : FnT X.prog X.w X.K X.mg X.base k fa fd ps sp) (hr : Room k X.A) (hm : X.mg x = some (.ref fa)) (hk : PySem.W.keepIn X.K (.ref fa) = true) (hb : Binds X.K fd ps []) (ha : PAT X (e :: es) t) (hg : Gl X x := by rfl) (hdb : (x == ("__debug__" : Str)) = false := by decide)
    (he : starEach (e :: es) X.env = (false, eval e X.env) :: starEach es X.env := by rfl) (hpl : (backTo pos (starEach es X.env)).any (·.1) = false := by rfl) : PET X (.Call (.Name x p2) (e :: es) [] pos) (tCall sp [] E0 t) := fun pins s σ H Q k1 I h => by
  refine wpAny_Call_Name_kw (ld_glob I hg hm ?_ hdb)
  refine PySem.W.callWith_K (h₀ := X.base) I.ok.mod.kin hk (wpAny_mono (PySem.wpAny_toks (ha pos pins s σ H _ k1 I h)) (fun us s2 hz => ?_) fun _ _ z => z.2) he hpl
  obtain ⟨hk2, vs, H2, I2, r2, hq⟩ := hz
  rw [List.append_nil] at hq
  exact ⟨I2.kIn, run_t F hr hb (Nat.le_trans k1 hk2) I2 r2 hq⟩
end
section
variable {X : Cx} {c e tg it : Expr} {te : TE} {tt : TT} {t u : TS} {sts sts2 : List Stmt} {pos pos' : Pos}
theorem pst_set {i : Nat} {x : Str} (hN : X.N.Nodup) (he : PET X e te) (hi : X.N[i]? = some x := by rfl) (hx : Loc X.env.scope x := by first | exact Or.inl rfl | exact Or.inr rfl) (hs : swapsWith e (some (.Name x pos')) pos.line X.env = pure false := by rfl)
    (hf : X.fn x = true ∨ X.env.scope.names.lookup x = some .local := by first | exact .inl rfl | exact .inr rfl) : PST X (.Assign [.Name x pos'] e pos) (tAsg te (gName i)) := fun pins s σ H D k I h => by
  refine wpAny_Assign_Name (thn (he pins s σ H _ k I h) fun v s2 hz => ?_) hs
  obtain ⟨y, H2, I2, r2, hq⟩ := hz
  exact store_ok I2 hN hi hx r2 (fun s3 I3 => ⟨_, H2, I3, hq⟩) hf
theorem pst_ifT (hc : PTT X c tt) (ha : PSsT X sts t) (hb : PSsT X sts2 u) : PST X (.If c sts sts2 pos) (tIfS tt t u) := fun pins s σ H D k I h => by
  refine wpAny_If (wpAny_mono (PySem.wpAny_toks (hc pins s σ H _ k I h)) (fun z s2 hz => ?_) fun _ _ z => z.2)
  obtain ⟨hk, H2, I2, hq⟩ := hz
  cases z
  · exact hb pins s2 σ H2 D (Nat.le_trans k hk) I2 hq
  · exact ha pins s2 σ H2 D (Nat.le_trans k hk) I2 hq
/-- a for loop whose body wants a token out -/
theorem pst_forT {wi : TI} {g : TG} (hp : PassesOwn (model X.prog X.w) X.A X.env X.xe) (hc : X.calm = true) (hi : PI X tg it wi) (hg : PG X tg g) (hb : PSsT X sts t) (hs : ∀ x, foldedSetIterable it X.env x = pure x := by intro _; rfl) :
    PST X (.For tg it sts [] pos) (tFor wi g t) := fun pins s σ H D k I h => by
  refine wpAny_For (wpAny_mono (PySem.wpAny_toks (hi.run pins s σ H _ I h)) (fun v s1 q1 => wpAny_mono (PySem.wpAny_toks q1.2) (fun itv s2 q2 => ?_) fun _ _ z => z.2) fun _ _ z => z.2) hs
  have k2 : 1 ≤ s2.toks := Nat.le_trans k (Nat.le_trans q1.1 q2.1)
  obtain ⟨ad, fp, tn, J, H2, ea, I2, Tn, st2, f2, W, ⟨m0, w0⟩, go⟩ := q2.2
  subst ea
  have fpk : ∀ {Hx : Hp}, (∀ b ∈ fp, Hx b = none) → ∀ b ∈ fp, FpOk X pins Hx b := fun hn b hb => ⟨hn b hb, (f2 b hb).2⟩
  refine codeAny_forLoop_any (fun n sx => 1 ≤ sx.toks ∧ ∃ i σx Hx, Inv X pins σx Hx sx ∧ tn i sx.heap ∧ (∀ b ∈ fp, Hx b = none) ∧ W i n σx Hx) ?_ m0 ⟨k2, 0, σ, H2, I2, st2, fun b hb => (f2 b hb).1, w0⟩
  rintro n s3 ⟨k3, i, σ3, H3, I3, st3, fr3, w3⟩
  rcases go i n σ3 H3 w3 with ⟨hstop, hnx⟩ | ⟨hgo, Nn, hNn, hstep⟩
  · refine wpAny_passesOwn hp (thn (Tn.done X rfl rfl rfl hc i pins s3 σ3 H3 X.xe I3 (fpk fr3) st3 hstop) fun r s4 hr4 => ?_)
    obtain ⟨er, I4⟩ := hr4
    subst er
    exact wpAny_execs_nil ⟨σ3, H3, I4, hnx⟩
  · refine wpAny_passesOwn hp (wpAny_mono (PySem.wpAny_toks (Tn.item X rfl rfl rfl hc i pins s3 σ3 H3 X.xe I3 (fpk fr3) st3 hgo)) (fun r s4 hr4 => ?_) fun _ _ z => z.2)
    obtain ⟨k4, u4, er, h4⟩ := hr4
    subst er
    refine wpAny_passesOwn hp (wpAny_mono (PySem.wpAny_toks h4) (fun _ s5 hr5 => ?_) fun _ _ z => z.2)
    obtain ⟨k5, x5, H5, I5, r5, y5, st5, fr5⟩ := hr5
    have Ip := I5.pinned (fpk fr5) (Tn.obj _ _ st5)
    refine wpAny_passesOwn hp (wpAny_mono (PySem.wpAny_toks (hg.run _ s5 σ3 H5 x5 u4 _ Ip r5 (hstep x5 H5 y5))) (fun _ s6 hr6 => ?_) fun _ _ z => z.2)
    obtain ⟨k6, σ6, H6, I6, q6⟩ := hr6
    have kk : 1 ≤ s6.toks := Nat.le_trans k3 (Nat.le_trans k4 (Nat.le_trans k5 k6))
    refine wpAny_passesOwn hp (wpAny_mono (PySem.wpAny_toks (hb _ s6 σ6 H6 _ kk I6 q6)) (fun fl s7 hr7 => ?_) fun _ _ z => z.2)
    obtain ⟨k7, q7⟩ := hr7
    have nxt : ∀ {σ7 : L2.St} {H7 : Hp}, Inv X (pins ++ pinsAt fp s5.heap) σ7 H7 s7 → Nn σ7 H7 → ∃ m, m < n ∧ 1 ≤ s7.toks ∧ ∃ i σx Hx, Inv X pins σx Hx s7 ∧ tn i s7.heap ∧ (∀ b ∈ fp, Hx b = none) ∧ W i m σx Hx := fun {σ7 H7} I7 n7 => by
      obtain ⟨m7, lt7, w7⟩ := hNn σ7 H7 n7
      have pn : ∀ b ∈ fp, ∀ o, s5.heap.get? b = some o → s7.heap.get? b = some o ∧ H7 b = none := fun b hb o ho => by
        have z := I7.pin (b, o) (List.mem_append_right _ (List.mem_append_right _ (mem_pinsAt hb ho)))
        exact ⟨z.1, z.2.1⟩
      refine ⟨m7, lt7, Nat.le_trans kk k7, i + 1, σ7, H7, I7.unpinned, Tn.keep _ _ _ st5 fun b hb o ho => (pn b hb o ho).1, fun b hb => ?_, w7⟩
      obtain ⟨o, ho, _⟩ := Tn.obj _ _ st5 b hb
      exact (pn b hb o ho).2
    cases fl with
    | next => obtain ⟨σ7, H7, I7, n7⟩ := q7; exact nxt I7 n7
    | cont => obtain ⟨σ7, H7, I7, n7⟩ := q7; exact nxt I7 n7
    | brk => obtain ⟨σ7, H7, I7, z7⟩ := q7; exact ⟨σ7, H7, I7.unpinned, z7⟩
    | ret v => obtain ⟨x7, σ7, H7, I7, r7, z7⟩ := q7; exact ⟨x7, σ7, H7, I7.unpinned, r7, z7⟩
end
theorem okT {P : Program} {w : World} {K : PySem.W.Frag} {mg : Str → Option Value} {base : Heap} {x qual : Str} {params : Arguments} {body : List Stmt} {scope : Scope} {f : Addr} {fd : FuncData} {N ps : List Str} {k : Nat} {sp : Sp}
    (F : FunD K x qual params body scope [] [] f fd) (S : FnScope N ps scope) (len : ∀ vs H Q E, sp vs H Q E → vs.length = ps.length)
    (hbody : ∀ (cdv : Value) (A : Around) (outer : List Env) (s : Shared) (H : Hp) (vs : List V) (Q : VK) (E : XK), Room k (A.deeper (envOfC qual scope s.heap.objs.size f cdv)) → sp vs H Q E →
      ∃ t, PSsT (cxOf CX0 P w K mg base N qual scope f cdv A outer s H E).nox body t ∧ t { nx := fun _ H' => Q .non H', rt := Q } (L2.start N vs) H) : FnT P w K mg base (k + 1) f fd ps sp := by
  obtain ⟨oc, od, dV, kV, doc, pm, an, cdv, ct, osl, rfl, lk, hcd, _, _⟩ := F.ex
  refine ⟨len, fun A outer s H args us vs Q E k1 hr e0 hb rv hsp => ?_⟩
  have KH : K.In s.heap := e0.mod.kin.keeps fun b o z => (e0.bs b o z).1
  have nl : s.heap.NoLimit := e0.mod.nolimit.keeps fun b o z => (e0.bs b o z).1
  have hk : ∀ y ∈ ps.zip us, scope.names.lookup y.1 = some .local ∨ (scope.names.lookup y.1 = some .cell ∧ ((cellsFrom (s.heap.objs.size + 1) scope.names []).lookup y.1).isSome = true) := by
    rintro ⟨n, v⟩ hy
    rcases S.par n (List.of_mem_zip hy).1 with z | z
    · exact Or.inl z
    · exact Or.inr ⟨z, PySem.W.cellsFrom_some _ _ _ (Or.inl z)⟩
  refine codeAny_call_function hr.depth (KH _ _ lk) rfl S.co S.gen rfl (PySem.W.codeRec_of KH hcd) (hb _ _ _ _ ?_)
  refine PySem.wpAny_with_toks k1 ?_
  refine wpAny_newFunctionEnv_cells S.kind hk fun env he s1 x => ?_
  intro k2
  subst he
  refine ⟨nl.keeps x.toInCall.keep, codeAny_func ?_⟩
  obtain ⟨t, ht, hq⟩ := hbody cdv A outer s H vs Q E (hr.deeper _) hsp
  have I0 : Inv (cxOf CX0 P w K mg base N qual scope f cdv A outer s H E) [] (L2.start N vs) H s1 := inv_start S hr.hd e0 (len _ _ _ _ hsp) rv x
  refine wpAny_mono (ht [] s1 (L2.start N vs) H _ k2 (I0.wish _) hq) (fun fl s' hs => ?_) fun e s' hs => False.elim hs
  cases fl with
  | ret u =>
    obtain ⟨v, σ', H', J, r2, q⟩ := hs
    exact ⟨v, H', J.os, J.bare, J.base, J.hok, r2, q⟩
  | next =>
    obtain ⟨σ', H', J, q⟩ := hs
    exact ⟨.non, H', J.os, J.bare, J.base, J.hok, rfl, q⟩
  | brk => obtain ⟨_, _, _, z⟩ := hs; exact False.elim z
  | cont => obtain ⟨_, _, _, z⟩ := hs; exact False.elim z
/-! ### with their data -/
structure PEWT (X : Cx) (e : Expr) (t : TE) (w : EW) : Prop where
  pe : PET X e t
  sn : SndE X.K t w
structure PTWT (X : Cx) (e : Expr) (t : TT) (w : TW) : Prop where
  pt : PTT X e t
  sn : SndT X.K t w
structure PWWT (X : Cx) (e : Expr) (t : TT) (w : TW) : Prop where
  pw : PWT X e t
  sn : SndT X.K t w
structure PAWT (X : Cx) (es : List Expr) (t : TA) (w : AW) : Prop where
  pa : PAT X es t
  sn : SndA X.K t w
structure PSWT (X : Cx) (st : Stmt) (t : TS) (w : SW) : Prop where
  ps : PST X st t
  sn : SndS X.K t w
structure PSsWT (X : Cx) (st : List Stmt) (t : TS) (w : SW) : Prop where
  ps : PSsT X st t
  sn : SndS X.K t w
section
variable {X : Cx} {a b c e tg it : Expr} {es : List Expr} {ta tb te : TE} {wa wb we : EW} {tt tu : TT} {wt wu : TW} {t u : TS} {w w' : SW} {tr : TA} {wr : AW} {sts sts2 rest : List Stmt} {st : Stmt} {pos pos' p2 : Pos}
theorem PEW.T (h : PEW X e te we) : PEWT X e te we := ⟨CwR.PET.of h.pe, h.sn⟩
theorem PTW.T (h : PTW X e tt wt) : PTWT X e tt wt := ⟨PTT.of h.pt, h.sn⟩
theorem PSW.T (h : PSW X st t w) : PSWT X st t w := ⟨PST.of h.ps, h.sn⟩
theorem PSsW.T (h : PSsW X sts t w) : PSsWT X sts t w := ⟨PSsT.of h.ps, h.sn⟩
theorem Tan : PAWT X [] tNil wNil := ⟨pat_nil, snd_nil⟩
theorem Tac (ha : PEWT X e te we) (hr : PAWT X es tr wr) (hs : starEach (e :: es) X.env = (false, eval e X.env) :: starEach es X.env := by rfl) : PAWT X (e :: es) (tCons te tr) (wCons we wr) := ⟨pat_cons ha.pe hr.pa hs, snd_cons ha.sn hr.sn⟩
theorem Tbin {op : Operator} {r : R2} {o : O2} (h : OpW X (binaryOp op) r o) (ha : PEWT X a ta wa) (hb : PEWT X b tb wb) : PEWT X (.BinOp a op b pos) (tOp r ta tb) (wOp o wa wb) := ⟨CwR.pet_op h.op ha.pe hb.pe, snd_op h.sn ha.sn hb.sn⟩
theorem Tif (hc : PTW X c tt wt) (ha : PEWT X a ta wa) (hb : PEWT X b tb wb) : PEWT X (.IfExp c a b pos) (tIf tt ta tb) (wIf wt wa wb) := ⟨pet_ifE hc.pt ha.pe hb.pe, snd_if hc.sn ha.sn hb.sn⟩
theorem Tand {rs : List Expr} (ha : PEWT X a ta wa) (hb : PEWT X (.BoolOp .And (b :: rs) pos) tb wb) : PEWT X (.BoolOp .And (a :: b :: rs) pos) (tAndV ta tb) (wAndV wa wb) := ⟨pet_and ha.pe hb.pe, snd_andV ha.sn hb.sn⟩
theorem Tone {op} (h : PEWT X a ta wa) : PEWT X (.BoolOp op [a] pos) ta wa := ⟨pet_one h.pe, h.sn⟩
theorem Tnot (ha : PTWT X a tt wt) : PTWT X (.UnaryOp .Not a pos) (tNot tt) (wNot wt) := ⟨ptt_not ha.pt, snd_not ha.sn⟩
theorem Tor1 (ha : PTWT X a tt wt) : PWWT X (.BoolOp .Or [a] pos) tt wt := ⟨pwt_or1 ha.pt, ha.sn⟩
theorem Tor {rs : List Expr} (ha : PTWT X a tt wt) (hb : PWWT X (.BoolOp .Or (b :: rs) pos) tu wu) : PWWT X (.BoolOp .Or (a :: b :: rs) pos) (tOr tt tu) (wOr wt wu) := ⟨pwt_or ha.pt hb.pw, snd_or ha.sn hb.sn⟩
theorem PWWT.test (h : PWWT X e tt wt) : PTWT X e tt wt := ⟨PWT.t h.pw, h.sn⟩
theorem Ttru (ha : PEWT X a ta wa) (he : ∀ whole, isTrue a X.env whole = (do let v ← whole; standAt a.pos; holding [v] (truthy v)) := by intro _; rfl) : PTWT X a (fun σ H Q => ta σ H fun x H' => ∃ k, TruV X.K x H' k ∧ Q k H') (wTru wa) :=
  ⟨ptt_truth ha.pe he, fun bx T σ H δ Qd Q g en p h => ha.sn bx T σ H δ _ _ g en (fun d x H1 e1 b1 r1 h1 => by
    cases r1 with
    | non => exact ⟨false, rfl, p _ H1 e1 b1 h1⟩
    | bl b => exact ⟨b, rfl, p _ H1 e1 b1 h1⟩
    | int i => exact ⟨_, rfl, p _ H1 e1 b1 h1⟩
    | str y => exact ⟨_, ⟨h1.1, rfl⟩, p _ H1 e1 b1 h1.2⟩
    | lst ha na ra => exact ⟨_, Or.inl ⟨_, SqL.of ha, rfl⟩, p _ H1 e1 b1 (by cases ra <;> exact h1)⟩
    | tup ha ra => exact ⟨_, Or.inr (Or.inl ⟨_, ha.sq, rfl⟩), p _ H1 e1 b1 (by cases ra <;> exact h1)⟩
    | _ => exact False.elim h1) h⟩
theorem Tcall {k n : Nat} {fa : Addr} {fd : FuncData} {ps : List Str} {x : Str} {f : OL} (F : FnT X.prog X.w X.K X.mg X.base k fa fd ps (spW X.K n f)) (hr : Room k X.A) (hm : X.mg x = some (.ref fa)) (hk : PySem.W.keepIn X.K (.ref fa) = true) (hb : Binds X.K fd ps [])
    (ha : PAWT X (e :: es) tr wr) (hg : Gl X x := by rfl) (hdb : (x == ("__debug__" : Str)) = false := by decide) (he : starEach (e :: es) X.env = (false, eval e X.env) :: starEach es X.env := by rfl) (hpl : (backTo pos (starEach es X.env)).any (·.1) = false := by rfl) :
    PEWT X (.Call (.Name x p2) (e :: es) [] pos) (tCall (spW X.K n f) [] E0 tr) (wFn n f wr) := ⟨pet_call F hr hm hk hb ha.pa hg hdb he hpl, snd_call ha.sn⟩
/-- a call of a def that wants no token, with arguments that want one -/
theorem FnOk.tok {P : Program} {wd : World} {K : PySem.W.Frag} {mg : Str → Option Value} {base : Heap} {k : Nat} {fa : Addr} {fd : FuncData} {ps : List Str} {sp : Sp} (F : FnOk P wd K mg base CX0 k fa fd ps sp) : FnT P wd K mg base k fa fd ps sp := ⟨F.len, fun A outer s H args us vs Q E _ => F.run A outer s H args us vs Q E⟩
theorem Tsn : PSsWT X [] tNext wNext := ⟨PSsT.of pss_nil, snd_next⟩
theorem Tsc (h1 : PSWT X st t w) (h2 : PSsWT X rest u w') : PSsWT X (st :: rest) (tSeq t u) (wSeq w w') := ⟨psst_cons h1.ps h2.ps, snd_seq h1.sn h2.sn⟩
theorem Ts1 (h1 : PSWT X st t w) : PSsWT X [st] t w := ⟨fun pins s σ H D k I h => by
  refine wpAny_execs_cons (thn (h1.ps pins s σ H D k I h) fun f s2 q => ?_)
  cases f with
  | next => exact wpAny_execs_nil q
  | _ => exact q, h1.sn⟩
theorem Tset (i : Nat) {x : Str} (hN : X.N.Nodup) (he : PEWT X e te we) (hi : X.N[i]? = some x := by rfl) (hx : Loc X.env.scope x := by first | exact Or.inl rfl | exact Or.inr rfl) (hs : swapsWith e (some (.Name x pos')) pos.line X.env = pure false := by rfl)
    (hf : X.fn x = true ∨ X.env.scope.names.lookup x = some .local := by first | exact .inl rfl | exact .inr rfl) : PSWT X (.Assign [.Name x pos'] e pos) (tAsg te (gName i)) (wAsg i we) := ⟨pst_set hN he.pe hi hx hs hf, snd_asg he.sn⟩
theorem Tret (he : PEWT X e te we) : PSWT X (.Return (some e) pos) (tRet te) (wRet we) := ⟨CwR.pst_ret he.pe, snd_ret he.sn⟩
theorem TifS (hc : PTWT X c tt wt) (ha : PSsWT X sts t w) (hb : PSsWT X sts2 u w') : PSWT X (.If c sts sts2 pos) (tIfS tt t u) (wIfS wt w w') := ⟨pst_ifT hc.pt ha.ps hb.ps, snd_ifS hc.sn ha.sn hb.sn⟩
theorem Tfor {ti : TI} {wi : IW} {g : TG} {is : List Nat} {un : D → Option (List D)} (hp : PassesOwn (model X.prog X.w) X.A X.env X.xe) (hc : X.calm = true) (hi : PIW X tg it ti wi) (hg : PGW X tg g is un) (hb : PSsWT X sts t w)
    (hs : ∀ x, foldedSetIterable it X.env x = pure x := by intro _; rfl) : PSWT X (.For tg it sts [] pos) (tFor ti g t) (wFor wi is un w) := ⟨pst_forT hp hc hi.pi hg.pg hb.ps hs, snd_for hi.sn hg.sn hb.sn⟩
/-- text.replace(y, z).replace(y2, z2), all written -/
def wRepl (a : EW) (y z : Str) : EW := fun δ Q => a δ fun x => match x with
  | .str s => s.length + (s.length + 1) * z.length ≤ 16777216 ∧ Q (.str (Txt.replace s y z))
  | _ => False
theorem snd_repl {K : PySem.W.Frag} {y z : Str} (ha : SndE K ta wa) : SndE K (CwR.tReplC ta y z) (wRepl wa y z) := fun bx T σ H δ Qd Q g en p q =>
  ha bx T σ H δ _ _ g en (fun d x H1 e1 b1 r1 h1 => by
    cases r1 with
    | str s => exact ⟨s, rfl, h1.1, (p.on e1).here (g.on e1 b1) (.str _) h1.2⟩
    | _ => exact False.elim h1) q
theorem Trepl {y z : Str} {j k : Nat} {c0 c1 apos : Pos} (ha : PEWT X a ta wa) (hyz : (y == z) = false := by decide)
    (hst : starEach [.Constant (.str y) j c0, .Constant (.str z) k c1] X.env = [(false, eval (.Constant (.str y) j c0) X.env), (false, eval (.Constant (.str z) k c1) X.env)] := by rfl)
    (hbase : attributeBase a "replace" X.env (eval a X.env) = eval a X.env := by rfl) (hline : (apos.endLine == pos.line) = true := by rfl) :
    PEWT X (.Call (.Attribute a "replace" apos) [.Constant (.str y) j c0, .Constant (.str z) k c1] [] pos) (CwR.tReplC ta y z) (wRepl wa y z) := ⟨CwR.pet_replT ha.pe hyz hst hbase hline, snd_repl ha.sn⟩
end
theorem okWT {P : Program} {wd : World} {K : PySem.W.Frag} {mg : Str → Option Value} {base : Heap} {x qual : Str} {params : Arguments} {body : List Stmt} {scope : Scope} {f : Addr} {fd : FuncData} {N ps : List Str} {k n m : Nat} {w : SW}
    (F : FunD K x qual params body scope [] [] f fd) (S : FnScope N ps scope) (hn : ps.length = n) (hm : N.length = m)
    (h : ∀ (cdv : Value) (A : Around) (outer : List Env) (s : Shared) (H : Hp) (E : XK), Room k (A.deeper (envOfC qual scope s.heap.objs.size f cdv)) → ∃ t, PSsWT (cxOf CX0 P wd K mg base N qual scope f cdv A outer s H E).nox body t w) :
    FnT P wd K mg base (k + 1) f fd ps (spW K n (fnW m w)) := by
  subst hn hm
  refine okT F S (fun vs H Q E h => spW_len h) (fun cdv A outer s H vs Q E hr hsp => ?_)
  obtain ⟨t, ht⟩ := h cdv A outer s H E hr
  exact ⟨t, ht.ps, fn_sound S ht.sn hsp⟩
/-- behind «box = [.., 0]» a token is out -/
theorem pss_box {X : Cx} {i j : Nat} {x : Str} {de : Expr} {td : TE} {cpos lpos pos pos' : Pos} {rest : List Stmt} {u : TS} {z : Int} (hN : X.N.Nodup) (hd : PE X de td) (h2 : PSsT X rest u) (hi : X.N[i]? = some x := by rfl) (hx : Loc X.env.scope x := by first | exact Or.inl rfl | exact Or.inr rfl)
    (hs : swapsWith (.List [de, .Constant (.int z) j cpos] lpos) (some (.Name x pos')) pos.line X.env = pure false := by rfl) (hf : X.fn x = true ∨ X.env.scope.names.lookup x = some .local := by first | exact .inl rfl | exact .inr rfl)
    (he : starEach [de, .Constant (.int z) j cpos] X.env = (false, eval de X.env) :: starEach [.Constant (.int z) j cpos] X.env := by rfl) (he2 : starEach [.Constant (.int z) j cpos] X.env = (false, eval (.Constant (.int z) j cpos) X.env) :: starEach [] X.env := by rfl) :
    PSs X (.Assign [.Name x pos'] (.List [de, .Constant (.int z) j cpos] lpos) pos :: rest) (tSeq (tAsg (tLst (tCons td (tCons (tC (.int z)) tNil))) (gName i)) u) := by
  refine ⟨fun pins s σ H D I h => ?_⟩
  have pos1 : PET X (.Constant (.int z) j cpos) (tC (.int z)) := CwR.PET.of pe_int
  have core : wpAny (model X.prog X.w) X.A (eval (.List [de, .Constant (.int z) j cpos] lpos) X.env) (fun v s1 => 1 ≤ s1.toks ∧ EP X pins σ (fun v H1 => u D (σ.set i (some v)) H1) v s1) X.xe s := by
    refine wpAny_List_spliced ?_
    rw [he]
    show wpAny _ _ (spliced ((false, eval de X.env) :: backTo lpos (starEach [.Constant (.int z) j cpos] X.env))) _ _ s
    refine Calls.spliced_cons (thn (hd.run pins s σ H _ I h) fun v s1 q1 => ?_)
    obtain ⟨x1, H1, I1, r1, h1⟩ := q1
    rw [he2]
    show wpAny _ _ (spliced ((false, eval (.Constant (.int z) j cpos) X.env) :: backTo lpos (starEach [] X.env))) _ _ s1
    refine Calls.spliced_cons (wpAny_Constant_int (Calls.spliced_nil ?_))
    have hv : Vals [x1, V.int z] [v, Value.int z s1.toks] := .cons r1 (.cons ⟨_, rfl⟩ .nil)
    have I2 := I1.tok (s1.toks + 1)
    have hfr : H1 s1.heap.objs.size = none := I1.hok.fresh (Nat.le_refl _)
    refine ⟨h1.1, Nat.le_add_left _ _, .ref s1.heap.objs.size, upd H1 s1.heap.objs.size (.lst [x1, .int z]), I2.laid (t' := s1.toks + 1) (fun b ob eb => Heap.get?_push_of_some _ eb) (Nat.le_refl _) ?_, rfl, h1.2 _ hfr⟩
    exact ⟨h1.1, [v, Value.int z s1.toks], 0, hv, Heap.get?_push_size _ rfl⟩
  refine wpAny_execs_cons (wpAny_Assign_Name (thn core fun v s1 q1 => ?_) hs)
  obtain ⟨k1, y, H1, I1, r1, h1⟩ := q1
  refine wpAny_mono (PySem.wpAny_toks (store_ok (Q := fun _ s2 => Inv X pins (σ.set i (some y)) H1 s2) I1 hN hi hx r1 (fun _ I2 => I2) hf)) (fun _ s2 q2 => ?_) fun _ _ z => z.2
  exact h2 pins s2 _ H1 D (Nat.le_trans k1 q2.1) q2.2 h1
end Wy

set_option Elab.async false
set_option linter.all false
set_option maxRecDepth 100000
set_option maxHeartbeats 2000000
namespace Wy
open PySem PySem.Spec PyProof.Rows L2 Builtin Float
abbrev sp4 : Str := "04d"
theorem par4 : ∃ f, Builtin.Float.parseFormatSpec sp4.cps.toList "int" 62 = .ok f ∧ intSpecGood sp4 f = true ∧ f.width.getD 0 = 4 ∧ f.fill = 48 ∧ f.align = 61 := ⟨_, by with_unfolding_all rfl, by with_unfolding_all rfl, by with_unfolding_all rfl, by with_unfolding_all rfl, by with_unfolding_all rfl⟩
/-- a number of at most four figures, with noughts ahead -/
def four (a : Int) : Str := ⟨(List.replicate (4 - (Nat.toDigits 10 a.natAbs).length) 48).toArray⟩ ++ Str.ofString (toString a)
theorem spec4 {a : Int} {f : FormatSpec} (hp : Builtin.Float.parseFormatSpec sp4.cps.toList "int" 62 = .ok f) (h0 : 0 ≤ a) : intSpecText f a = four a := by
  obtain ⟨g, e, g1, g2, g3, g4⟩ := par4
  rw [hp] at e
  injection e with e
  subst e
  unfold intSpecGood at g1
  simp only [Bool.and_eq_true] at g1
  have r := intSpecText_zero (f := f) (a := a) (Option.isNone_iff_eq_none.mp g1.1.2) (Option.isNone_iff_eq_none.mp g1.2) g3 g4 h0
  rw [g2] at r
  exact r
section
variable {prog : Program} {w : World} {A : Around} {E : Value → Shared → Prop} {s : Shared}
set_option maxRecDepth 100000 in
theorem field4 {a : Int} {t : Tok} {Q : Value → Shared → Prop} (h0 : 0 ≤ a) (h4 : a < 10000)
    (h : Q (.str (four a) (s.toks + 1)) { s with toks := s.toks + 1 + 1 }) : wpAny (model prog w) A (formatField (.int a t) sp4) Q E s := by
  obtain ⟨f, hp, hg, hw, hf, ha⟩ := par4
  have e4 := spec4 hp h0
  rw [← e4] at h
  have hlen : (intSpecText f a).length ≤ sizeLine := by
    have hd : (Nat.toDigits 10 a.natAbs).length ≤ 4 := digits10_le (k := 4) (by decide) (by omega)
    have hi := intSpecFacts (f := f) a (by unfold intSpecGood at hg; simp only [Bool.and_eq_true] at hg; exact Option.isNone_iff_eq_none.mp hg.1.2) (by unfold intSpecGood at hg; simp only [Bool.and_eq_true] at hg; exact Option.isNone_iff_eq_none.mp hg.2)
    have := hi.lenNonneg h0
    rw [sizeLine_eq]
    omega
  have hlog : a.natAbs.log2 < 1920 := by
    by_cases hz : a.natAbs = 0
    · rw [hz]; decide
    · exact Nat.lt_trans ((Nat.log2_lt hz).mpr (show a.natAbs < 2 ^ 14 by omega)) (by decide)
  unfold intSpecGood at hg
  simp only [Bool.and_eq_true] at hg
  obtain ⟨⟨⟨⟨⟨⟨g1, g2⟩, g3⟩, g4⟩, g5⟩, g6⟩, g7⟩ := hg
  have hty := beq_iff_eq.mp g1
  have hpr := Option.isNone_iff_eq_none.mp g2
  have hz : f.noNeg0 = false := by simpa using g3
  have hal : f.alt = false := by simpa using g4
  have hgr := Option.isNone_iff_eq_none.mp g6
  have hsg := Option.isNone_iff_eq_none.mp g7
  have ten : ((10 : Nat) == 10) = true := rfl
  have hne : (sp4.length == 0) = false := by decide
  have hasc : ((sp4.cps.toList.drop 1).any (· ≥ 128) || (sp4.cps.getD 0 0 ≥ 128 && !([60, 62, 61, 94] : List Nat).contains (sp4.cps.getD 1 0))) = false := by decide
  show wpAny _ _ (holding [.int a t] (pyFormat (.int a t) sp4)) Q E s
  refine wpAny_holding ?_
  unfold pyFormat
  refine wpAny_bind (wpAny_mkStr ?_ (by decide))
  refine wpAny_bind (m := callSpecial? (.int a t) (Str.ofString "__format__") [.str sp4 s.toks])
    (wpAny_callSpecial?_slot (name := Str.ofString "__format__") (typeIs_int _ a t) F.slot_int_format ?_)
  refine wpAny_call (codeAny_call_builtin F.slot_int_format.plain F.entry_int_format
    (F.slot_int_format.check _ _ _ _ _ _ _ _ (typeIs_int _ a t) (F.args_int_format_2 _ _) ?_))
  unfold Builtin.«int.__format__»
  simp only [selfAndOne, noKeywords, Int.intOfSelf, asInt?, asStr?, List.isEmpty_nil, if_true, pure_bind, bind_pure, bind_assoc, hne, hasc, Bool.false_eq_true,
    if_false, show (Value.str sp4 s.toks == Value.none) = false from rfl]
  refine wpAny_bind (wpAny_typeNameOf (T := "str") (typeIs_str _ _ _) (by decide) fun _ => ?_)
  refine wpAny_bind (wpAny_typeNameOfCut_int ?_)
  simp only [hp, hty]
  rw [if_pos (by decide)]
  show wpAny _ _ (if _ then _ else _) _ _ _
  rw [if_neg (by simp [hpr])]
  show wpAny _ _ (if _ then _ else _) _ _ _
  rw [if_neg (by simp [hz])]
  show wpAny _ _ (if _ then _ else _) _ _ _
  rw [if_neg (by decide)]
  show wpAny _ _ (do let r ← Builtin.overDigitLimit? a; _) _ _ _
  rw [PySem.overDigitLimit_small hlog]
  show wpAny _ _ (if _ then _ else _) _ _ _
  rw [if_neg (by simp [hw])]
  show wpAny _ _ (retStr _) _ _ _
  unfold retStr
  refine wpAny_bind (wpAny_mkStr (wpAny_pure ?_) ?hs2)
  case hs2 =>
    simp only [hal, Bool.false_eq_true, if_false, ten, if_true]
    conv => lhs; arg 1; whnf
    simp only [intSpecText, intField', hgr, hsg, hal, Bool.false_eq_true, if_false, ten, if_true] at hlen ⊢
    exact hlen
  dsimp only
  refine wpAny_bind (wpAny_isInstance (typeIs_str _ _ _) isSubtype_str_str (wpAny_pure ?_))
  simp only [hal, Bool.false_eq_true, if_false, ten, if_true]
  conv => arg 1; arg 1; whnf
  simp only [intSpecText, intField', hgr, hsg, hal, Bool.false_eq_true, if_false, ten, if_true] at h ⊢
  exact h
end
/-! f'{x:04d}' of a number of at most four figures. -/
def oFour : O1 := fun x Q => match x with
  | .int i => 0 ≤ i ∧ i < 10000 ∧ Q (.str (four i))
  | _ => False
section
variable {X : Cx}
theorem pe_four {e : Expr} {te : TE} {k pos p1 p2 p3} (he : PE X e te) :
    PE X (.JoinedStr [.FormattedValue e (-1) (some (.JoinedStr [.Constant (.str sp4) k p1] p2)) p3] pos) (fun σ H Q => te σ H fun x H1 => ∃ i : Int, x = .int i ∧ 0 ≤ i ∧ i < 10000 ∧ Q (.str (four i)) H1) := by
  refine pe_fs1 ⟨fun pins s σ H Q I h => ?_⟩
  refine wpAny_FormattedValue_spec (thn (he.run pins s σ H _ I h) fun v s1 hv => ?_)
  obtain ⟨x, H1, I1, r1, i, rfl, h0, h4, q⟩ := hv
  obtain ⟨t, rfl⟩ := r1
  have sp := (pe_fs1 (X := X) (pos := p2) (pe_str (X := X) (x := sp4) (j := k) (pos := p1))).run pins s1 σ H1
  exact thn (sp (fun y H2 => y = .str sp4 ∧ H2 = H1) I1 ⟨rfl, rfl⟩) fun v2 s2 ⟨y, H2, I2, r2, ey, eh⟩ => by
    subst ey; subst eh
    obtain ⟨t2, rfl⟩ := r2
    exact ⟨sp4, t2, rfl, field4 h0 h4 ⟨.str (four i), H2, (I2.tok _), ⟨_, rfl⟩, q⟩⟩
theorem e_four {e : Expr} {te : TE} {we : EW} {k pos p1 p2 p3} (he : PEW X e te we) :
    PEW X (.JoinedStr [.FormattedValue e (-1) (some (.JoinedStr [.Constant (.str sp4) k p1] p2)) p3] pos) (fun σ H Q => te σ H fun x H1 => ∃ i : Int, x = .int i ∧ 0 ≤ i ∧ i < 10000 ∧ Q (.str (four i)) H1) (wUn oFour we) :=
  ⟨pe_four he.pe, fun bx T σ H δ Qd Q g e p q => he.sn bx T σ H δ _ _ g e (fun dx x H1 e1 b1 r1 h1 => by
    cases r1 with
    | int i => exact ⟨i, rfl, h1.1, h1.2.1, p _ _ H1 e1 b1 (.str _) h1.2.2⟩
    | _ => exact False.elim h1) q⟩
end
end Wy

set_option Elab.async false
set_option linter.all false
set_option maxRecDepth 100000
set_option maxHeartbeats 2000000
/-! M0: the readings of W terms as rewriting rules; texts as lists of signs. -/
namespace Wy
open PySem L2

open SX (S S_len S_cat S_inj in_one int_S num_S)
/-! ### the readings, applied -/
section
variable {δ : DE} {ρ : SE} {P : PsW} {Q : D → Prop} {QL : List D → Prop} {QB : Bool → Prop} {QO : Option Int → Prop} {a b c : EW} {t u : TW} {w v : SW} {ar : AW} {i j n : Nat} {d : D} {o p : O2} {f : O1} {ol : OL} {x y : D} {xs : List D}
theorem x_seq : wSeq w v ρ P = w ρ { nx := fun ρ' => v ρ' P, rt := P.rt, bk := P.bk, ct := P.ct } := id rfl
theorem x_asg : wAsg i a ρ P = a (vH ρ) fun d => P.nx (ρ.set i (some (.dat d))) := id rfl
theorem x_asgS : wAsgS i a ρ P = a (vF ρ) fun d => scal1 d = true ∧ P.nx (ρ.set i (some (.dat d))) := id rfl
theorem x_ret : wRet a ρ P = a (vF ρ) P.rt := id rfl
theorem x_retN : wRetN ρ P = P.rt .none := id rfl
theorem x_ifS : wIfS t w v ρ P = t (vF ρ) fun c => if c = true then w ρ P else v ρ P := id rfl
theorem x_next : wNext ρ P = P.nx ρ := id rfl
theorem x_drop : wDrop a ρ P = a (vF ρ) fun _ => P.nx ρ := id rfl
theorem x_break : wBreak ρ P = P.bk ρ := id rfl
theorem x_cont : wCont ρ P = P.ct ρ := id rfl
theorem x_frz : wFrz i w ρ P = w (frz i ρ) P := id rfl
theorem x_c : wC d δ Q = Q d := id rfl
theorem x_op : wOp o a b δ Q = a δ fun x => b δ fun y => o x y Q := id rfl
theorem x_un : wUn f a δ Q = a δ fun x => f x Q := id rfl
theorem x_if : wIf t a b δ Q = t δ fun c => if c = true then a δ Q else b δ Q := id rfl
theorem x_nil : wNil δ QL = QL [] := id rfl
theorem x_cons : wCons a ar δ QL = a δ fun x => ar δ fun xs => QL (x :: xs) := id rfl
theorem x_tup : wTup ar δ Q = ar δ fun xs => xs.length ≤ sizeLine ∧ Q (.tuple xs) := id rfl
theorem x_lst : wLst ar δ Q = ar δ fun xs => xs.length ≤ sizeLine ∧ Q (.list xs) := id rfl
theorem x_call : wCall ol ar δ Q = ar δ fun xs => ol xs Q := id rfl
theorem x_on1 : on1 f [x] Q = f x Q := id rfl
theorem x_fn : wFn n ol ar δ Q = ar δ fun ds => ds.length = n ∧ ol ds Q := id rfl
theorem x_and : wAnd t u δ QB = t δ fun c => if c = true then u δ QB else QB false := id rfl
theorem x_or : wOr t u δ QB = t δ fun c => if c = true then QB true else u δ QB := id rfl
theorem x_not : wNot t δ QB = t δ fun c => QB (!c) := id rfl
theorem x_bW : bW a δ QB = a δ fun d => match d with | .bool k => QB k | _ => False := id rfl
theorem x_tru : wTru a δ QB = a δ fun d => truD d QB := id rfl
theorem x_no : wNo δ QO = QO none := id rfl
theorem x_part : wPart a δ QO = a δ fun d => match d with | .int i => QO (some i) | _ => False := id rfl
theorem x_andV : wAndV a b δ Q = a δ fun d => match d with | .bool k => if k = true then b δ Q else Q (.bool false) | _ => False := id rfl
theorem x_orV : wOrV a b δ Q = a δ fun d => match d with | .bool k => if k = true then Q (.bool true) else b δ Q | _ => False := id rfl
theorem x_notV : wNotV a δ Q = a δ fun d => match d with | .bool k => Q (.bool (!k)) | _ => False := id rfl
theorem x_chain : wChain o p a b c δ Q = a δ fun x => b δ fun y => o x y fun z => match z with | .bool k => if k = true then c δ fun w => p y w Q else Q (.bool false) | _ => False := id rfl
theorem x_sl {lo hi : OW} : wSl a lo hi δ Q = a δ fun x => lo δ fun l => hi δ fun h => oSl x l h Q := id rfl
theorem x_m1 {g : Str → D → (D → Prop) → Prop} : wM1 g a b δ Q = a δ fun x => match x with | .str z => b δ fun y => g z y Q | _ => False := id rfl
theorem x_iter {QI : List D → Prop} : wIter a δ QI = a δ fun d => match itemsD d with | some ds => QI ds | none => False := id rfl
theorem x_rng1 {QI : List D → Prop} : wRng1 a δ QI = a δ fun d => match d with | .int j => (-(2 ^ 62) ≤ j ∧ j < 2 ^ 62) ∧ QI (rangeD 0 j.toNat) | _ => False := id rfl
theorem x_rng2 {QI : List D → Prop} : wRng2 a b δ QI = a δ fun x => b δ fun y => match x, y with | .int i, .int j => (-(2 ^ 62) ≤ i ∧ i < 2 ^ 62 ∧ -(2 ^ 62) ≤ j ∧ j < 2 ^ 62) ∧ QI (rangeD i (j - i).toNat) | _, _ => False := id rfl
theorem x_for {wi : IW} {is : List Nat} {un : D → Option (List D)} : wFor wi is un w ρ P = wi (vH ρ) fun ds => forD is un w ds ρ P := id rfl
theorem x_lc {wi : IW} {is vs : List Nat} {un : D → Option (List D)} : wLc wi is un t a vs δ Q = wi δ fun ds => lcN (wipeD δ vs) is un t a ds [] fun l => Q (.list l) := id rfl
theorem x_par : wPar i j ar ρ P = ar (vH ρ) fun ds => match ds with | [x, y] => P.nx ((ρ.set i (some (.dat x))).set j (some (.dat y))) | _ => False := id rfl
theorem x_fnW {ds : List D} : fnW n w ds Q = w (startS n ds) { nx := fun _ => Q .none, rt := Q } := id rfl
theorem x_repl {y z : Str} : wRepl a y z δ Q = a δ fun x => match x with | .str s => s.length + (s.length + 1) * z.length ≤ 16777216 ∧ Q (.str (Txt.replace s y z)) | _ => False := id rfl
theorem x_own {e : NW} : wOwn i e ρ P = e (vH ρ) fun l => P.nx (ρ.set i (some (.own l))) := id rfl
theorem x_vF {s : Option Sl} : vF (s :: ρ) = slF s :: vF ρ := id rfl
theorem x_vH {s : Option Sl} : vH (s :: ρ) = slH s :: vH ρ := id rfl
theorem x_vF0 : vF [] = [] := id rfl
theorem x_vH0 : vH [] = [] := id rfl
theorem x_slFd : slF (some (.dat d)) = some d := id rfl
theorem x_slHd : slH (some (.dat d)) = some d := id rfl
theorem x_slFo : slF (some (.own xs)) = some (.list xs) := id rfl
theorem x_slHo : slH (some (.own xs)) = none := id rfl
theorem x_var0 : wVar 0 (some d :: δ) Q = Q d := id rfl
theorem x_varS {z : Option D} : wVar (i + 1) (z :: δ) Q = wVar i δ Q := id rfl
theorem x_aug0 {x : D} : wAug 0 o a (some (.dat x) :: ρ) P = a (vF (some (.dat x) :: ρ)) fun y => o x y fun z => scal1 z = true ∧ P.nx (some (.dat z) :: ρ) := id rfl
theorem x_aug1 {s0} {x : D} : wAug 1 o a (s0 :: some (.dat x) :: ρ) P = a (vF (s0 :: some (.dat x) :: ρ)) fun y => o x y fun z => scal1 z = true ∧ P.nx (s0 :: some (.dat z) :: ρ) := id rfl
theorem x_aug2 {s0 s1} {x : D} : wAug 2 o a (s0 :: s1 :: some (.dat x) :: ρ) P = a (vF (s0 :: s1 :: some (.dat x) :: ρ)) fun y => o x y fun z => scal1 z = true ∧ P.nx (s0 :: s1 :: some (.dat z) :: ρ) := id rfl
theorem x_app3 {s0 s1 s2} {l : List D} : wApp 3 a (s0 :: s1 :: s2 :: some (.own l) :: ρ) P = a (vH (s0 :: s1 :: s2 :: some (.own l) :: ρ)) fun d => l.length < sizeLine ∧ P.nx (s0 :: s1 :: s2 :: some (.own (l ++ [d])) :: ρ) := id rfl
theorem x_truB {b : Bool} : truD (.bool b) QB = QB b := id rfl
theorem x_truL : truD (.list xs) QB = QB (!xs.isEmpty) := id rfl
theorem x_truT : truD (.tuple xs) QB = QB (!xs.isEmpty) := id rfl
theorem x_truI {i : Int} : truD (.int i) QB = QB (i != 0) := id rfl
theorem x_app {l : List D} (h : ρ[i]? = some (some (.own l))) : wApp i a ρ P = a (vH ρ) fun d => l.length < sizeLine ∧ P.nx (ρ.set i (some (.own (l ++ [d])))) := by unfold wApp; rw [h]
/-! ### ops -/
theorem o_addI {i j : Int} : oAdd (.int i) (.int j) Q = Q (.int (i + j)) := id rfl
theorem o_iaddI {i j : Int} : oIadd (.int i) (.int j) Q = Q (.int (i + j)) := id rfl
theorem o_subI {i j : Int} : oSub (.int i) (.int j) Q = Q (.int (i - j)) := id rfl
theorem o_mulI {i j : Int} : oMul (.int i) (.int j) Q = (CMul i j ∧ Q (.int (i * j))) := id rfl
theorem o_divI {i j : Int} : oDiv (.int i) (.int j) Q = (CDiv i j ∧ Q (.int (i / j))) := id rfl
theorem o_powI {i j : Int} : oPow (.int i) (.int j) Q = (CPow i j ∧ Q (.int (i ^ j.toNat))) := id rfl
theorem o_modI {i j : Int} : oMod (.int i) (.int j) Q = (0 < j ∧ Q (.int (i % j))) := id rfl
theorem o_negI {i : Int} : oNeg (.int i) Q = Q (.int (-i)) := id rfl
theorem o_addL {l m : List D} : oAdd (.list l) (.list m) Q = (l.length + m.length ≤ sizeLine ∧ Q (.list (l ++ m))) := id rfl
theorem o_addT {l m : List D} : oAdd (.tuple l) (.tuple m) Q = (l.length + m.length ≤ sizeLine ∧ Q (.tuple (l ++ m))) := id rfl
theorem o_addS {l m : List Nat} : oAdd (.str (S l)) (.str (S m)) Q = (l.length + m.length ≤ 16777216 ∧ Q (.str (S (l ++ m)))) := by
  show ((S l).length + (S m).length ≤ sizeLine ∧ Q (.str (S l ++ S m))) = _
  rw [S_len, S_len, S_cat, sizeLine_eq]
theorem o_iaddS {l m : List Nat} : oIadd (.str (S l)) (.str (S m)) Q = (l.length + m.length ≤ 16777216 ∧ Q (.str (S (l ++ m)))) := o_addS
theorem o_lenS {l : List Nat} : oLen (.str (S l)) Q = (l.length ≤ 16777216 ∧ Q (.int (l.length : Nat))) := by
  show ((S l).length ≤ sizeLine ∧ Q (.int (S l).length)) = _
  rw [S_len, sizeLine_eq]
theorem o_lenL : oLen (.list xs) Q = Q (.int (xs.length : Nat)) := id rfl
theorem o_lenT : oLen (.tuple xs) Q = Q (.int (xs.length : Nat)) := id rfl
theorem o_ltI {i j : Int} : oLt (.int i) (.int j) Q = Q (.bool (decide (i < j))) := id rfl
theorem o_leI {i j : Int} : oLe (.int i) (.int j) Q = Q (.bool (decide (i ≤ j))) := id rfl
theorem o_gtI {i j : Int} : oGt (.int i) (.int j) Q = Q (.bool (decide (j < i))) := id rfl
theorem o_geI {i j : Int} : oGe (.int i) (.int j) Q = Q (.bool (decide (j ≤ i))) := id rfl
theorem scS {a b : Str} : eqOk (.str a) (.str b) := Or.inl rfl
theorem S_dec {l m : List Nat} : (S l == S m) = decide (l = m) := SX.S_beq_eq
theorem o_eqS {l m : List Nat} : oEq (.str (S l)) (.str (S m)) Q = Q (.bool (decide (l = m))) := by
  show (eqOk (.str (S l)) (.str (S m)) ∧ Q (.bool (PyData.eqv (.str (S l)) (.str (S m))))) = _
  rw [show PyData.eqv (.str (S l)) (.str (S m)) = (S l == S m) by rw [PyData.eqv], S_dec]
  exact propext ⟨fun h => h.2, fun h => ⟨scS, h⟩⟩
theorem o_neS {l m : List Nat} : oNe (.str (S l)) (.str (S m)) Q = Q (.bool (!decide (l = m))) := by
  show (eqOk (.str (S l)) (.str (S m)) ∧ Q (.bool (!PyData.eqv (.str (S l)) (.str (S m))))) = _
  rw [show PyData.eqv (.str (S l)) (.str (S m)) = (S l == S m) by rw [PyData.eqv], S_dec]
  exact propext ⟨fun h => h.2, fun h => ⟨scS, h⟩⟩
theorem o_eqSr {a b : Str} : oEq (.str a) (.str b) Q = Q (.bool (a == b)) := by
  show (eqOk (.str a) (.str b) ∧ Q (.bool (PyData.eqv (.str a) (.str b)))) = _
  rw [show PyData.eqv (.str a) (.str b) = (a == b) by rw [PyData.eqv]]
  exact propext ⟨fun h => h.2, fun h => ⟨scS, h⟩⟩
theorem o_eqI {i j : Int} : oEq (.int i) (.int j) Q = Q (.bool (decide (i = j))) := by
  show (eqOk (.int i) (.int j) ∧ Q (.bool (PyData.eqv (.int i) (.int j)))) = _
  rw [show PyData.eqv (.int i) (.int j) = (i == j) by rw [PyData.eqv], show (i == j) = decide (i = j) from by by_cases h : i = j <;> simp [h]]
  exact propext ⟨fun h => h.2, fun h => ⟨Or.inl rfl, h⟩⟩
theorem o_neI {i j : Int} : oNe (.int i) (.int j) Q = Q (.bool (!decide (i = j))) := by
  show (eqOk (.int i) (.int j) ∧ Q (.bool (!PyData.eqv (.int i) (.int j)))) = _
  rw [show PyData.eqv (.int i) (.int j) = (i == j) by rw [PyData.eqv], show (i == j) = decide (i = j) from by by_cases h : i = j <;> simp [h]]
  exact propext ⟨fun h => h.2, fun h => ⟨Or.inl rfl, h⟩⟩
theorem o_isN : oIsN d .none Q = Q (.bool (isNone d)) := propext ⟨fun h => h.2, fun h => ⟨rfl, h⟩⟩
theorem o_notN : oNotN d .none Q = Q (.bool (!isNone d)) := propext ⟨fun h => h.2, fun h => ⟨rfl, h⟩⟩
theorem o_isBv {k : Bool} : oIsB d (.bool k) Q = Q (.bool (isBool k d)) := id rfl
theorem o_ordS {k : Nat} : oOrd (.str (S [k])) Q = Q (.int (k : Nat)) := propext ⟨fun h => h.2, fun h => ⟨rfl, h⟩⟩
theorem o_intI {i : Int} : oInt (.int i) Q = Q (.int i) := id rfl
theorem o_strI {k : Nat} : oStr (.int (k : Nat)) Q = (k.log2 < 1920 ∧ Q (.str (S (TL.numL k)))) := by
  show ((k : Int).natAbs.log2 < 1920 ∧ Q (.str (Str.ofString (toString (k : Int))))) = _
  rw [num_S]; rfl
theorem o_inC {z : List Nat} {k : Nat} : oInB false (.str (S [k])) (.str (S z)) Q = Q (.bool (decide (k ∈ z))) := by
  show Q (.bool (subIn (S z) (S [k]))) = _
  rw [show subIn (S z) (S [k]) = _ from in_one z k]
theorem o_ninC {z : List Nat} {k : Nat} : oInB true (.str (S [k])) (.str (S z)) Q = Q (.bool (!decide (k ∈ z))) := by
  show Q (.bool (!subIn (S z) (S [k]))) = _
  rw [show subIn (S z) (S [k]) = _ from in_one z k]
theorem isi_n {T : String} : oIsi T .none Q = Q (.bool (T == "NoneType")) := propext ⟨And.right, fun h => ⟨trivial, h⟩⟩
theorem isi_b {T : String} {k : Bool} : oIsi T (.bool k) Q = Q (.bool (T == "bool" || T == "int")) := propext ⟨And.right, fun h => ⟨trivial, h⟩⟩
theorem isi_i {T : String} {i : Int} : oIsi T (.int i) Q = Q (.bool (T == "int")) := propext ⟨And.right, fun h => ⟨trivial, h⟩⟩
theorem isi_s {T : String} {z : Str} : oIsi T (.str z) Q = Q (.bool (T == "str")) := propext ⟨And.right, fun h => ⟨trivial, h⟩⟩
theorem isi_l {T : String} : oIsi T (.list xs) Q = Q (.bool (T == "list")) := propext ⟨And.right, fun h => ⟨trivial, h⟩⟩
theorem isi_t {T : String} : oIsi T (.tuple xs) Q = Q (.bool (T == "tuple")) := propext ⟨And.right, fun h => ⟨trivial, h⟩⟩
theorem o_repr {z : Str} : oRepr (.str z) Q = ((reprText z).length ≤ sizeLine ∧ Q (.str (reprText z))) := id rfl
theorem o_reprI {i : Int} : oRepr (.int i) Q = (i.natAbs.log2 < 1920 ∧ Q (.str (toString i))) := id rfl
theorem sEq : ("str" == "int") = false ∧ ("str" == "NoneType") = false ∧ ("str" == "bool") = false ∧ ("str" == "tuple") = false ∧ ("str" == "list") = false ∧ ("int" == "NoneType") = false ∧ ("int" == "bool") = false ∧ ("int" == "str") = false ∧ ("int" == "tuple") = false ∧ ("int" == "list") = false
    ∧ ("tuple" == "NoneType") = false ∧ ("tuple" == "bool") = false ∧ ("tuple" == "str") = false ∧ ("tuple" == "int") = false ∧ ("tuple" == "list") = false ∧ ("list" == "NoneType") = false ∧ ("list" == "bool") = false ∧ ("list" == "str") = false ∧ ("list" == "int") = false ∧ ("list" == "tuple") = false
    ∧ ("bool" == "NoneType") = false ∧ ("bool" == "str") = false ∧ ("bool" == "int") = false ∧ ("bool" == "tuple") = false ∧ ("bool" == "list") = false := by decide +kernel
theorem at_nat {α : Type} {l : List α} {i : Nat} {v : α} (h : l[i]? = some v) : atI l (i : Int) = some v := atI_nat h
theorem o_ixS {l : List Nat} {i : Int} {k : Nat} (h : atI l i = some k) : oIx (.str (S l)) (.int i) Q = (l.length ≤ 16777216 ∧ Q (.str (S [k]))) := by
  show ((S l).length ≤ sizeLine ∧ ∃ c, atI (S l).cps.toList i = some c ∧ Q (.str ⟨#[c]⟩)) = _
  rw [S_len, sizeLine_eq]
  refine propext ⟨fun h' => ?_, fun h' => ⟨h'.1, k, h, h'.2⟩⟩
  obtain ⟨h1, c, h2, h3⟩ := h'
  have : some c = some k := h2.symm.trans h
  cases this
  exact ⟨h1, h3⟩
theorem o_ixL {i : Int} {d : D} (h : atI xs i = some d) : oIx (.list xs) (.int i) Q = Q d := by
  show (∃ e, atI xs i = some e ∧ Q e) = _
  refine propext ⟨fun ⟨e, h1, h2⟩ => ?_, fun h' => ⟨d, h, h'⟩⟩
  rw [h] at h1; cases h1; exact h2
theorem o_ixT {i : Int} {d : D} (h : atI xs i = some d) : oIx (.tuple xs) (.int i) Q = Q d := by
  show (∃ e, atI xs i = some e ∧ Q e) = _
  refine propext ⟨fun ⟨e, h1, h2⟩ => ?_, fun h' => ⟨d, h, h'⟩⟩
  rw [h] at h1; cases h1; exact h2
theorem cut_mid {l : List Nat} {i j : Int} (hi : 0 ≤ i) (hj : 0 ≤ j) : cutS (S l) (some i) (some j) = S ((l.drop i.toNat).take (j.toNat - i.toNat)) := by
  unfold cutS HT.sIx
  rw [S_len]
  show (⟨((l.drop (if i < 0 then _ else min i.toNat l.length)).take ((if j < 0 then _ else min j.toNat l.length) - (if i < 0 then _ else min i.toNat l.length))).toArray⟩ : Str) = _
  rw [if_neg (by omega), if_neg (by omega)]
  congr 2
  by_cases h : i.toNat ≤ l.length
  · rw [Nat.min_eq_left h]
    by_cases h2 : j.toNat ≤ l.length
    · rw [Nat.min_eq_left h2]
    · rw [Nat.min_eq_right (by omega), List.take_of_length_le (by rw [List.length_drop]; omega), List.take_of_length_le (by rw [List.length_drop]; omega)]
  · have e : min i.toNat l.length = l.length := Nat.min_eq_right (by omega)
    rw [e, List.drop_of_length_le (Nat.le_refl _), List.drop_of_length_le (show l.length ≤ i.toNat by omega), List.take_nil, List.take_nil]
theorem cut_to {l : List Nat} {j : Int} (hj : 0 ≤ j) : cutS (S l) none (some j) = S (l.take j.toNat) := by
  unfold cutS HT.sIx
  rw [S_len]
  show (⟨((l.drop 0).take ((if j < 0 then _ else min j.toNat l.length) - 0)).toArray⟩ : Str) = _
  rw [if_neg (by omega), List.drop_zero, Nat.sub_zero]
  congr 2
  by_cases h2 : j.toNat ≤ l.length
  · rw [Nat.min_eq_left h2]
  · rw [Nat.min_eq_right (by omega), List.take_of_length_le (by omega), List.take_of_length_le (by omega)]
theorem cut_from {l : List Nat} {i : Int} (hi : 0 ≤ i) : cutS (S l) (some i) none = S (l.drop i.toNat) := by
  unfold cutS HT.sIx
  rw [S_len]
  show (⟨((l.drop (if i < 0 then _ else min i.toNat l.length)).take (l.length - (if i < 0 then _ else min i.toNat l.length))).toArray⟩ : Str) = _
  rw [if_neg (by omega)]
  congr 2
  by_cases h : i.toNat ≤ l.length
  · rw [Nat.min_eq_left h, List.take_of_length_le (by rw [List.length_drop]; omega)]
  · have e : min i.toNat l.length = l.length := Nat.min_eq_right (by omega)
    rw [e, List.drop_of_length_le (Nat.le_refl _), List.drop_of_length_le (show l.length ≤ i.toNat by omega), List.take_nil]
theorem o_slMid {l : List Nat} {i j : Int} (hi : 0 ≤ i) (hj : 0 ≤ j) : oSl (.str (S l)) (some i) (some j) Q = (l.length ≤ 16777216 ∧ Q (.str (S ((l.drop i.toNat).take (j.toNat - i.toNat))))) := by
  show ((S l).length ≤ sizeLine ∧ Q (.str (cutS (S l) (some i) (some j)))) = _
  rw [S_len, sizeLine_eq, cut_mid hi hj]
theorem o_slTo {l : List Nat} {j : Int} (hj : 0 ≤ j) : oSl (.str (S l)) none (some j) Q = (l.length ≤ 16777216 ∧ Q (.str (S (l.take j.toNat)))) := by
  show ((S l).length ≤ sizeLine ∧ Q (.str (cutS (S l) none (some j)))) = _
  rw [S_len, sizeLine_eq, cut_to hj]
theorem o_slFrom {l : List Nat} {i : Int} (hi : 0 ≤ i) : oSl (.str (S l)) (some i) none Q = (l.length ≤ 16777216 ∧ Q (.str (S (l.drop i.toNat)))) := by
  show ((S l).length ≤ sizeLine ∧ Q (.str (cutS (S l) (some i) none))) = _
  rw [S_len, sizeLine_eq, cut_from hi]
theorem items_S {l : List Nat} : itemsD (.str (S l)) = some (l.map fun c => PyData.str (S [c])) := id rfl
theorem items_L : itemsD (.list xs) = some xs := id rfl
theorem items_T : itemsD (.tuple xs) = some xs := id rfl
end
theorem log2_of_lt {n k : Nat} (hk : 0 < k) (h : n < 2 ^ k) : n.log2 < k := by
  by_cases hz : n = 0
  · rw [hz]; exact hk
  · exact (Nat.log2_lt hz).mpr h
theorem repl1 (c : Nat) (w : List Nat) : ∀ l : List Nat, StrLaws.replL [c] w l = l.flatMap fun x => if x = c then w else [x]
  | [] => StrLaws.replL_nil
  | x :: l => by
    rw [List.flatMap_cons]
    by_cases h : x = c
    · rw [StrLaws.replL_hit (by simp) (by rw [h]; rfl), if_pos h, ← repl1 c w l]; rfl
    · rw [StrLaws.replL_miss (by show ¬ [x] = [c]; simpa using h), if_neg h, ← repl1 c w l]; rfl
theorem repl_S (l w : List Nat) (c : Nat) : Txt.replace (S l) (S [c]) (S w) = S (l.flatMap fun x => if x = c then w else [x]) := by
  rw [← repl1]
  exact TL.ext_tl (StrLaws.replace_list (x := S l) (y := S [c]) (z := S w) (Nat.le_refl 1))
theorem cut_neg {l : List Nat} {k : Nat} (hk : 0 < k) : cutS (S l) (some (-(k : Int))) none = S (l.drop (l.length - k)) := by
  unfold cutS HT.sIx
  rw [S_len]
  show (⟨((l.drop (if (-(k : Int)) < 0 then ((-(k : Int)) + (l.length : Int)).toNat else _)).take (l.length - (if (-(k : Int)) < 0 then ((-(k : Int)) + (l.length : Int)).toNat else _))).toArray⟩ : Str) = _
  rw [if_pos (by omega), show ((-(k : Int)) + (l.length : Int)).toNat = l.length - k by omega, List.take_of_length_le (by rw [List.length_drop]; omega)]
/-! ### loops -/
/-- a for loop by what holds ahead of each turn -/
theorem for_inv {is : List Nat} {un : D → Option (List D)} {b : SW} (I : List D → SE → Prop) {P : PsW}
    (step : ∀ d r ρ, I (d :: r) ρ → ∀ P' : PsW, (∀ ρ', I r ρ' → P'.nx ρ') → (∀ ρ', I r ρ' → P'.ct ρ') → P'.bk = P.nx → P'.rt = P.rt → ∃ ds, un d = some ds ∧ b (putS ρ is ds) P')
    (done : ∀ ρ, I [] ρ → P.nx ρ) : ∀ (ds : List D) (ρ : SE), I ds ρ → forD is un b ds ρ P
  | [], ρ, h => done ρ h
  | d :: r, ρ, h => step d r ρ h _ (fun ρ' h' => for_inv I step done r ρ' h') (fun ρ' h' => for_inv I step done r ρ' h') rfl rfl
/-- a while loop by what holds ahead of each turn, and behind the last -/
theorem while_rule {t : TW} {b : SW} {ρ : SE} {P : PsW} (I : Nat → SE → Prop) (E : SE → Prop) (h0 : ∃ m, I m ρ)
    (step : ∀ X : SE → Prop, (∀ ρ, E ρ → X ρ) → ∀ m ρ, I m ρ → t (vF ρ) fun c => if c = true then b ρ { nx := fun ρ' => ∃ m', m' < m ∧ I m' ρ', ct := fun ρ' => ∃ m', m' < m ∧ I m' ρ', bk := X, rt := P.rt } else X ρ)
    (exit : ∀ ρ, E ρ → P.nx ρ) : wWhile t b ρ P := ⟨I, h0, fun m ρ h => step P.nx exit m ρ h⟩
/-- a list comprehension, read by functions -/
theorem lc_sel {δ : DE} {is : List Nat} {u : D → Option (List D)} {wt : TW} {we : EW} {Q : List D → Prop} (p : D → Bool) (f : D → D) : ∀ (ds acc : List D),
    (∀ d ∈ ds, ∃ es, u d = some es ∧ (∀ QB : Bool → Prop, QB (p d) → wt (putD δ is es) QB) ∧ (p d = true → ∀ R : D → Prop, R (f d) → we (putD δ is es) R)) → acc.length + ds.length ≤ 16777216 →
    Q (acc ++ (ds.filter p).map f) → lcN δ is u wt we ds acc Q
  | [], acc, _, _, h => by rw [List.filter_nil, List.map_nil, List.append_nil] at h; exact h
  | d :: ds, acc, hs, hl, h => by
    obtain ⟨es, h1, h2, h3⟩ := hs d List.mem_cons_self
    rw [List.length_cons] at hl
    refine ⟨es, h1, h2 _ ?_⟩
    cases e : p d with
    | true =>
      rw [List.filter_cons_of_pos e, List.map_cons] at h
      refine h3 e _ ⟨by rw [sizeLine_eq]; omega, lc_sel p f ds _ (fun x hx => hs x (List.mem_cons_of_mem _ hx)) (by rw [List.length_append, List.length_singleton]; omega) ?_⟩
      rw [List.append_assoc]
      exact h
    | false =>
      rw [List.filter_cons_of_neg (by rw [e]; decide)] at h
      exact lc_sel p f ds _ (fun x hx => hs x (List.mem_cons_of_mem _ hx)) (by omega) h
/-- a list comprehension whose items are drawn -/
theorem lc_any {δ : DE} {is : List Nat} {u : D → Option (List D)} {we : EW} {Q : List D → Prop} (E : D → Prop) : ∀ (ds acc : List D),
    (∀ d ∈ ds, ∃ es, u d = some es ∧ ∀ R : D → Prop, (∀ y, E y → R y) → we (putD δ is es) R) → acc.length + ds.length ≤ 16777216 →
    (∀ ys, ys.length = ds.length → (∀ y ∈ ys, E y) → Q (acc ++ ys)) → lcN δ is u wYes we ds acc Q
  | [], acc, _, _, h => by have := h [] rfl (fun _ z => by cases z); rw [List.append_nil] at this; exact this
  | d :: ds, acc, hs, hl, h => by
    obtain ⟨es, h1, h3⟩ := hs d List.mem_cons_self
    rw [List.length_cons] at hl
    refine ⟨es, h1, ?_⟩
    show we (putD δ is es) fun y => acc.length < sizeLine ∧ lcN δ is u wYes we ds (acc ++ [y]) Q
    refine h3 _ fun y hy => ⟨by rw [sizeLine_eq]; omega, lc_any E ds _ (fun x hx => hs x (List.mem_cons_of_mem _ hx)) (by rw [List.length_append, List.length_singleton]; omega) fun ys e1 e2 => ?_⟩
    rw [List.append_assoc]
    refine h (y :: ys) (by rw [List.length_cons, List.length_cons, e1]) fun x hx => ?_
    rcases List.mem_cons.mp hx with rfl | hx
    · exact hy
    · exact e2 x hx
theorem rangeD_zero (lo : Int) : rangeD lo 0 = [] := rfl
theorem rangeD_succ (lo : Int) (n : Nat) : rangeD lo (n + 1) = .int lo :: rangeD (lo + 1) n := by
  unfold rangeD
  rw [List.range_succ_eq_map, List.map_cons, List.map_map]
  congr 1
  · show PyData.int (lo + (0 : Int)) = _; rw [Int.add_zero]
  · refine List.map_congr_left fun i _ => ?_
    show PyData.int (lo + ((i + 1 : Nat) : Int)) = .int (lo + 1 + (i : Int))
    congr 1
    omega
/-- flat data of bounded signs -/
def flatOk : D → Prop
  | .none => True
  | .bool _ => True
  | .int _ => True
  | .str x => PyData.strOk x = true
  | _ => False
theorem flats_lay : ∀ {ds : List D}, (∀ d ∈ ds, flatOk d) → PyData.canLayAll0 ds = true ∧ PyData.depthAll ds = 0
  | [], _ => ⟨by rw [PyData.canLayAll0], by rw [PyData.depthAll]⟩
  | d :: ds, h => by
    have h1 := h d List.mem_cons_self
    have h2 := flats_lay (ds := ds) fun x hx => h x (List.mem_cons_of_mem _ hx)
    rw [PyData.canLayAll0, PyData.depthAll, h2.1, h2.2]
    cases d with
    | none => exact ⟨by rw [PyData.canLay0]; rfl, by rw [PyData.depth]; rfl⟩
    | bool _ => exact ⟨by rw [PyData.canLay0]; rfl, by rw [PyData.depth]; rfl⟩
    | int _ => exact ⟨by rw [PyData.canLay0]; rfl, by rw [PyData.depth]; rfl⟩
    | str x => exact ⟨by rw [PyData.canLay0, show PyData.strOk x = true from h1]; rfl, by rw [PyData.depth]; rfl⟩
    | list _ => exact h1.elim
    | tuple _ => exact h1.elim
    | dict _ => exact h1.elim
theorem shaped_flats {ds : List D} (h : ∀ d ∈ ds, flatOk d) : SeqAt.shaped (.list ds) = true := by
  unfold SeqAt.shaped
  rw [PyData.canLay0, PyData.depth, (flats_lay h).1, (flats_lay h).2]
  rfl
theorem strOk_S {l : List Nat} (h : ∀ c ∈ l, c < 0x110000) : PyData.strOk (S l) = true := by
  unfold PyData.strOk
  show (S l).cps.all _ = true
  rw [show (S l).cps = l.toArray from rfl, List.all_toArray, List.all_eq_true]
  intro c hc
  exact decide_eq_true (h c hc)
theorem o_eqNil {ds : List D} {Q : D → Prop} (h : ∀ d ∈ ds, flatOk d) : oEq (.list ds) (.list []) Q = Q (.bool ds.isEmpty) := by
  show (eqOk _ _ ∧ Q (.bool (PyData.eqv (.list ds) (.list [])))) = _
  have e : PyData.eqv (.list ds) (.list []) = ds.isEmpty := by
    rw [PyData.eqv]
    cases ds <;> rw [PyData.eqvAll] <;> rfl
  rw [e]
  exact propext ⟨fun z => z.2, fun z => ⟨Or.inr ⟨shaped_flats h, shaped_flats (fun _ q => by cases q)⟩, z⟩⟩
theorem forD_nil {is : List Nat} {un : D → Option (List D)} {b : SW} {ρ : SE} {P : PsW} (h : P.nx ρ) : forD is un b [] ρ P := h
theorem forD_cons {is : List Nat} {un : D → Option (List D)} {b : SW} {ρ : SE} {P : PsW} {d : D} {r ds : List D} (hu : un d = some ds)
    (h : b (putS ρ is ds) { nx := fun ρ' => forD is un b r ρ' P, ct := fun ρ' => forD is un b r ρ' P, bk := P.nx, rt := P.rt }) : forD is un b (d :: r) ρ P := ⟨ds, hu, h⟩
end Wy

set_option Elab.async false
set_option linter.all false
set_option maxRecDepth 100000
set_option maxHeartbeats 4000000
/-! k92_records_as_lines: the defs by their data, printed by gen.py. -/
namespace G_k92_records_as_lines
open PySem L2 Wy
def w_escaped : OL := fnW 1 (wRet (wRepl (wRepl (wVar 0) ("\\" : Str) ("\\\\" : Str)) ("\n" : Str) ("\\n" : Str)))
def w_plain : OL := fnW 3 (wSeq (wAsg 1 (wC (.str ("" : Str))))
  (wSeq (wAsg 2 (wC (.int 0)))
  (wSeq (wWhile (bW (wOp oLt (wVar 2) (wCall (on1 oLen) (wCons (wVar 0) wNil)))) (wSeq (wIfS (bW (wOp oEq (wOp oIx (wVar 0) (wVar 2)) (wC (.str ("\n" : Str))))) (wRet (wC .none)) wNext)
  (wIfS (bW (wOp oEq (wOp oIx (wVar 0) (wVar 2)) (wC (.str ("\\" : Str))))) (wSeq (wIfS (bW (wOp (oInB true) (wSl (wVar 0) (wPart (wOp oAdd (wVar 2) (wC (.int 1)))) (wPart (wOp oAdd (wVar 2) (wC (.int 2))))) (wTup (wCons (wC (.str ("\\" : Str))) (wCons (wC (.str ("n" : Str))) wNil))))) (wRet (wC .none)) wNext)
  (wSeq (wAug 1 oIadd (wIf (bW (wOp oEq (wOp oIx (wVar 0) (wOp oAdd (wVar 2) (wC (.int 1)))) (wC (.str ("n" : Str))))) (wC (.str ("\n" : Str))) (wC (.str ("\\" : Str)))))
  (wAug 2 oIadd (wC (.int 2))))) (wSeq (wAug 1 oIadd (wOp oIx (wVar 0) (wVar 2)))
  (wAug 2 oIadd (wC (.int 1)))))))
  (wRet (wVar 1)))))
def w_check_of : OL := fnW 3 (wSeq (wAsg 1 (wC (.int 1)))
  (wSeq (wFor (wIter (wVar 0)) [2] uName (wAsg 1 (wOp oMod (wOp oAdd (wOp oMul (wVar 1) (wC (.int 131))) (wCall (on1 oOrd) (wCons (wVar 2) wNil))) (wC (.int (9973) : D)))))
  (wRet (wUn oFour (wVar 1)))))
def w_record : OL := fnW 2 (wSeq (wAsg 1 (wIf (bW (wOp oEq (wOp oIx (wVar 0) (wC (.int 0))) (wC (.str ("add" : Str))))) (wOp oAdd (wC (.str ("+" : Str))) (wFn 1 w_escaped (wCons (wOp oIx (wVar 0) (wC (.int 1))) wNil))) (wOp oAdd (wC (.str ("-" : Str))) (wCall (on1 oStr) (wCons (wOp oIx (wVar 0) (wC (.int 1))) wNil)))))
  (wRet (wOp oAdd (wOp oAdd (wFn 1 w_check_of (wCons (wVar 1) wNil)) (wVar 1)) (wC (.str ("\n" : Str))))))
def w_read_record : OL := fnW 7 (wSeq (wAsg 2 (wVar 1))
  (wSeq (wWhile (wAnd (bW (wOp oLt (wVar 2) (wCall (on1 oLen) (wCons (wVar 0) wNil)))) (bW (wOp oNe (wOp oIx (wVar 0) (wVar 2)) (wC (.str ("\n" : Str)))))) (wAug 2 oIadd (wC (.int 1))))
  (wSeq (wAsg 3 (wSl (wVar 0) (wPart (wOp oAdd (wVar 1) (wC (.int 4)))) (wPart (wVar 2))))
  (wSeq (wIfS (wOr (bW (wOp oGe (wVar 2) (wCall (on1 oLen) (wCons (wVar 0) wNil)))) (wOr (bW (wOp oEq (wCall (on1 oLen) (wCons (wVar 3) wNil)) (wC (.int 0)))) (bW (wOp oNe (wSl (wVar 0) (wPart (wVar 1)) (wPart (wOp oAdd (wVar 1) (wC (.int 4))))) (wFn 1 w_check_of (wCons (wVar 3) wNil)))))) (wRet (wC .none)) wNext)
  (wSeq (wIfS (bW (wOp oEq (wOp oIx (wVar 3) (wC (.int 0))) (wC (.str ("+" : Str))))) (wSeq (wAsg 4 (wFn 1 w_plain (wCons (wSl (wVar 3) (wPart (wC (.int 1))) wNo) wNil)))
  (wRet (wIf (bW (wOp oNotN (wVar 4) (wC .none))) (wTup (wCons (wTup (wCons (wC (.str ("add" : Str))) (wCons (wVar 4) wNil))) (wCons (wOp oAdd (wVar 2) (wC (.int 1))) wNil))) (wC .none)))) wNext)
  (wSeq (wAsg 5 (wSl (wVar 3) (wPart (wC (.int 1))) wNo))
  (wSeq (wIfS (wOr (bW (wOp oNe (wOp oIx (wVar 3) (wC (.int 0))) (wC (.str ("-" : Str))))) (wOr (wNot (bW (wChain oLe oLe (wC (.int 1)) (wCall (on1 oLen) (wCons (wVar 5) wNil)) (wC (.int 4))))) (wNot (wTru (wCall (on1 oAll) (wCons (wLc (wIter (wVar 5)) [6] uName wYes (wOp (oInB false) (wVar 6) (wC (.str ("0123456789" : Str) : D))) [6]) wNil)))))) (wRet (wC .none)) wNext)
  (wSeq (wIfS (wAnd (bW (wOp oGt (wCall (on1 oLen) (wCons (wVar 5) wNil)) (wC (.int 1)))) (bW (wOp oEq (wOp oIx (wVar 5) (wC (.int 0))) (wC (.str ("0" : Str)))))) (wRet (wC .none)) wNext)
  (wRet (wTup (wCons (wTup (wCons (wC (.str ("drop" : Str))) (wCons (wCall (on1 oInt) (wCons (wVar 5) wNil)) wNil))) (wCons (wOp oAdd (wVar 2) (wC (.int 1))) wNil))))))))))))
def w_appended : OL := fnW 3 (wRet (wOp oAdd (wSl (wVar 0) wNo (wPart (wVar 1))) (wFn 1 w_record (wCons (wVar 2) wNil))))
abbrev w__law_cell : OL := cellW
def w__law_digits : OL := fnW 8 (wSeq (wOwn 3 (fun δ Q => wNil δ fun xs => xs.length ≤ sizeLine ∧ Q xs))
  (wSeq (wFor (wRng2 (wVar 1) (wVar 2)) [4] uName (wSeq (wAsg 5 (wFn 2 w__law_cell (wCons (wVar 0) (wCons (wVar 4) wNil))))
  (wSeq (wIfS (bW (wOp oLt (wVar 5) (wC (.int 0)))) (wAsg 5 (wOp oSub (wC (.int 1)) (wOp oMul (wC (.int 2)) (wVar 5)))) wNext)
  (wIfS (bW (wOp oGe (wVar 5) (wOp oPow (wC (.int 10)) (wC (.int 18))))) (wFor (wRng1 (wC (.int 60))) [6] uName (wIfS (bW (wOp oGt (wVar 5) (wC (.int 0)))) (wSeq (wApp 3 (wOp oMod (wCall (on1 oInt) (wCons (wVar 5) wNil)) (wC (.int 1000))))
  (wAsg 5 (wOp oDiv (wVar 5) (wC (.int 1000))))) wNext)) (wSeq (wAsg 7 (wOp oMod (wCall (on1 oInt) (wCons (wOp oAdd (wOp oAdd (wOp oMul (wVar 5) (wC (.int 48271))) (wOp oMul (wVar 4) (wC (.int 69621)))) (wC (.int 11))) wNil)) (wC (.int 2147483647))))
  (wFor (wRng1 (wC (.int 12))) [6] uName (wSeq (wAsg 7 (wOp oMod (wCall (on1 oInt) (wCons (wOp oAdd (wOp oAdd (wOp oMul (wVar 7) (wC (.int 16807))) (wOp oMul (wC (.int 7)) (wVar 6))) (wC (.int 1))) wNil)) (wC (.int 2147483647))))
  (wApp 3 (wOp oMod (wCall (on1 oInt) (wCons (wOp oDiv (wVar 7) (wC (.int 997))) wNil)) (wC (.int 1000)))))))))))
  (wRet (wVar 3))))
abbrev w__law_draw : OL := drawW
def w__law_pick : OL := fnW 2 (wRet (wOp oIx (wVar 1) (wOp oMod (wCall (on1 oInt) (wCons (wFn 2 w__law_draw (wCons (wVar 0) (wCons (wC (.int 1000)) wNil))) wNil)) (wCall (on1 oLen) (wCons (wVar 1) wNil)))))
def bb__law_same (r__law_same : OL) : OL := fnW 3 (wSeq (wIfS (bW (wOp oIsN (wVar 1) (wC .none))) (wRet (wOp oIsN (wVar 0) (wC .none))) wNext)
  (wSeq (wIfS (bW (wOp oIsB (wVar 1) (wC (.bool true)))) (wRet (wOp oIsB (wVar 0) (wC (.bool true)))) wNext)
  (wSeq (wIfS (bW (wOp oIsB (wVar 1) (wC (.bool false)))) (wRet (wOp oIsB (wVar 0) (wC (.bool false)))) wNext)
  (wSeq (wIfS (wTru (wUn (oIsi "str") (wVar 1))) (wRet (wAndV (wUn (oIsi "str") (wVar 0)) (wOp oEq (wCall (on1 oRepr) (wCons (wVar 0) wNil)) (wCall (on1 oRepr) (wCons (wVar 1) wNil))))) wNext)
  (wSeq (wIfS (wTru (wUn (oIsi "int") (wVar 1))) (wRet (wAndV (wUn (oIsi "int") (wVar 0)) (wAndV (wNotV (wUn (oIsi "bool") (wVar 0))) (wOp oEq (wCall (on1 oRepr) (wCons (wVar 0) wNil)) (wCall (on1 oRepr) (wCons (wVar 1) wNil)))))) wNext)
  (wSeq (wIfS (wOr (wAnd (wTru (wUn (oIsi "tuple") (wVar 1))) (wNot (wTru (wUn (oIsi "tuple") (wVar 0))))) (wAnd (wTru (wUn (oIsi "list") (wVar 1))) (wNot (wTru (wUn (oIsi "list") (wVar 0)))))) (wRet (wC (.bool false))) wNext)
  (wSeq (wIfS (bW (wOp oNe (wCall (on1 oLen) (wCons (wVar 0) wNil)) (wCall (on1 oLen) (wCons (wVar 1) wNil)))) (wRet (wC (.bool false))) wNext)
  (wSeq (wFor (wRng1 (wCall (on1 oLen) (wCons (wVar 1) wNil))) [2] uName (wIfS (wNot (wTru (wFn 2 r__law_same (wCons (wOp oIx (wVar 0) (wVar 2)) (wCons (wOp oIx (wVar 1) (wVar 2)) wNil))))) (wRet (wC (.bool false))) wNext))
  (wRet (wC (.bool true)))))))))))
def w__law_same : Nat → OL
  | 0 => fun _ _ => False
  | n + 1 => bb__law_same (w__law_same n)
def w__law_check : OL := fnW 3 (wSeq (wAsg 1 (wC (.int 1)))
  (wSeq (wFor (wIter (wVar 0)) [2] uName (wAsg 1 (wOp oMod (wCall (on1 oInt) (wCons (wOp oAdd (wOp oMul (wVar 1) (wC (.int 131))) (wCall (on1 oOrd) (wCons (wVar 2) wNil))) wNil)) (wC (.int 9973)))))
  (wRet (wSl (wOp oAdd (wC (.str ("000" : Str))) (wCall (on1 oStr) (wCons (wVar 1) wNil))) (wPart (wUn oNeg (wC (.int 4)))) wNo))))
def w__law_escaped : OL := fnW 3 (wSeq (wAsg 1 (wC (.str ("" : Str))))
  (wSeq (wFor (wIter (wVar 0)) [2] uName (wAsg 1 (wOp oAdd (wVar 1) (wIf (bW (wOp oEq (wVar 2) (wC (.str ("\\" : Str))))) (wC (.str ("\\\\" : Str))) (wIf (bW (wOp oEq (wVar 2) (wC (.str ("\n" : Str))))) (wC (.str ("\\n" : Str))) (wVar 2))))))
  (wRet (wVar 1))))
def w__law_sealed : OL := fnW 1 (wRet (wOp oAdd (wOp oAdd (wFn 1 w__law_check (wCons (wVar 0) wNil)) (wVar 0)) (wC (.str ("\n" : Str)))))
def w__law_record : OL := fnW 1 (wRet (wFn 1 w__law_sealed (wCons (wIf (bW (wOp oEq (wOp oIx (wVar 0) (wC (.int 0))) (wC (.str ("add" : Str))))) (wOp oAdd (wC (.str ("+" : Str))) (wFn 1 w__law_escaped (wCons (wOp oIx (wVar 0) (wC (.int 1))) wNil))) (wOp oAdd (wC (.str ("-" : Str))) (wCall (on1 oStr) (wCons (wOp oIx (wVar 0) (wC (.int 1))) wNil)))) wNil)))
def w__law_plain : OL := fnW 4 (wSeq (wAsg 1 (wC (.str ("" : Str))))
  (wSeq (wAsg 2 (wC (.bool false)))
  (wSeq (wFor (wIter (wVar 0)) [3] uName (wSeq (wIfS (wTru (wVar 2)) (wAsg 1 (wOp oAdd (wVar 1) (wIf (bW (wOp oEq (wVar 3) (wC (.str ("n" : Str))))) (wC (.str ("\n" : Str))) (wVar 3)))) (wIfS (bW (wOp oNe (wVar 3) (wC (.str ("\\" : Str))))) (wAsg 1 (wOp oAdd (wVar 1) (wVar 3))) wNext))
  (wAsg 2 (wAndV (wOp oEq (wVar 3) (wC (.str ("\\" : Str)))) (wNotV (wVar 2))))))
  (wRet (wIf (wAnd (wNot (wTru (wVar 2))) (bW (wOp oEq (wFn 1 w__law_escaped (wCons (wVar 1) wNil)) (wVar 0)))) (wVar 1) (wC .none))))))
def w__law_read : OL := fnW 10 (wSeq (wAsg 2 (wLc (wRng2 (wVar 1) (wCall (on1 oLen) (wCons (wVar 0) wNil))) [9] uName (bW (wOp oEq (wOp oIx (wVar 0) (wVar 9)) (wC (.str ("\n" : Str))))) (wVar 9) [9]))
  (wSeq (wIfS (bW (wOp oEq (wVar 2) (wLst wNil))) (wRet (wC .none)) wNext)
  (wSeq (wAsg 3 (wSl (wVar 0) (wPart (wVar 1)) (wPart (wOp oIx (wVar 2) (wC (.int 0))))))
  (wSeq (wIfS (wOr (bW (wOp oLt (wCall (on1 oLen) (wCons (wVar 3) wNil)) (wC (.int 5)))) (wOr (bW (wOp oNe (wSl (wVar 3) wNo (wPart (wC (.int 4)))) (wFn 1 w__law_check (wCons (wSl (wVar 3) (wPart (wC (.int 4))) wNo) wNil)))) (bW (wOp (oInB true) (wOp oIx (wVar 3) (wC (.int 4))) (wC (.str ("+-" : Str))))))) (wRet (wC .none)) wNext)
  (wSeq (wIfS (bW (wOp oEq (wOp oIx (wVar 3) (wC (.int 4))) (wC (.str ("+" : Str))))) (wSeq (wAsg 4 (wFn 1 w__law_plain (wCons (wSl (wVar 3) (wPart (wC (.int 5))) wNo) wNil)))
  (wRet (wIf (bW (wOp oNotN (wVar 4) (wC .none))) (wTup (wCons (wTup (wCons (wC (.str ("add" : Str))) (wCons (wVar 4) wNil))) (wCons (wOp oAdd (wOp oIx (wVar 2) (wC (.int 0))) (wC (.int 1))) wNil))) (wC .none)))) wNext)
  (wSeq (wAsg 5 (wSl (wVar 3) (wPart (wC (.int 5))) wNo))
  (wSeq (wAsg 6 (wAndV (wChain oLe oLe (wC (.int 1)) (wCall (on1 oLen) (wCons (wVar 5) wNil)) (wC (.int 4))) (wOp oEq (wLc (wIter (wVar 5)) [8] uName (bW (wOp (oInB true) (wVar 8) (wC (.str ("0123456789" : Str))))) (wVar 8) [8]) (wLst wNil))))
  (wSeq (wIfS (wOr (wNot (wTru (wVar 6))) (wAnd (bW (wOp oGt (wCall (on1 oLen) (wCons (wVar 5) wNil)) (wC (.int 1)))) (bW (wOp oEq (wOp oIx (wVar 5) (wC (.int 0))) (wC (.str ("0" : Str))))))) (wRet (wC .none)) wNext)
  (wSeq (wAsg 7 (wC (.int 0)))
  (wSeq (wFor (wIter (wVar 5)) [8] uName (wAsg 7 (wOp oAdd (wOp oMul (wVar 7) (wC (.int 10))) (wM1 oSIndex (wC (.str ("0123456789" : Str))) (wVar 8)))))
  (wRet (wTup (wCons (wTup (wCons (wC (.str ("drop" : Str))) (wCons (wVar 7) wNil))) (wCons (wOp oAdd (wOp oIx (wVar 2) (wC (.int 0))) (wC (.int 1))) wNil))))))))))))))
def w__law_signs : OL := fnW 2 (wRet (wM1 fJoin (wC (.str ("" : Str))) (wLc (wRng1 (wFn 2 w__law_pick (wCons (wVar 0) (wCons (wLst (wCons (wC (.int 0)) (wCons (wC (.int 1)) (wCons (wC (.int 3)) (wCons (wC (.int 6)) (wCons (wC (.int 10)) wNil)))))) wNil)))) [1] uName wYes (wFn 2 w__law_pick (wCons (wVar 0) (wCons (wC (.str ("ab1 .:-n\\\\\n+" : Str))) wNil))) [1])))
def w__law_spoilt : OL := fnW 6 (wSeq (wAsg 2 (wIf (bW (wOp oEq (wOp oIx (wVar 1) (wC (.int 0))) (wC (.str ("add" : Str))))) (wOp oAdd (wC (.str ("+" : Str))) (wFn 1 w__law_escaped (wCons (wOp oIx (wVar 1) (wC (.int 1))) wNil))) (wOp oAdd (wC (.str ("-" : Str))) (wCall (on1 oStr) (wCons (wOp oIx (wVar 1) (wC (.int 1))) wNil)))))
  (wSeq (wAsg 3 (wFn 2 w__law_draw (wCons (wVar 0) (wCons (wC (.int 9)) wNil))))
  (wSeq (wIfS (bW (wOp oEq (wVar 3) (wC (.int 0)))) (wRet (wFn 1 w__law_sealed (wCons (wOp oAdd (wVar 2) (wFn 2 w__law_pick (wCons (wVar 0) (wCons (wLst (wCons (wC (.str ("\\" : Str))) (wCons (wC (.str ("\\x" : Str))) (wCons (wC (.str ("0" : Str))) (wCons (wC (.str ("-" : Str))) (wCons (wC (.str (" " : Str))) wNil)))))) wNil)))) wNil))) wNext)
  (wSeq (wIfS (bW (wOp oEq (wVar 3) (wC (.int 1)))) (wRet (wFn 1 w__law_sealed (wCons (wFn 2 w__law_pick (wCons (wVar 0) (wCons (wLst (wCons (wC (.str ("" : Str))) (wCons (wC (.str ("+" : Str))) (wCons (wC (.str ("-" : Str))) (wCons (wC (.str ("-0" : Str))) (wCons (wC (.str ("-00" : Str))) (wCons (wC (.str ("-07" : Str))) (wCons (wC (.str ("-9999" : Str))) (wCons (wC (.str ("-12345" : Str))) (wCons (wC (.str ("*a" : Str))) (wCons (wC (.str ("-1x" : Str))) wNil))))))))))) wNil))) wNil))) wNext)
  (wSeq (wIfS (bW (wOp oEq (wVar 3) (wC (.int 2)))) (wRet (wOp oAdd (wFn 1 w__law_check (wCons (wVar 2) wNil)) (wVar 2))) wNext)
  (wSeq (wIfS (bW (wOp oEq (wVar 3) (wC (.int 3)))) (wRet (wOp oAdd (wOp oAdd (wSl (wFn 1 w__law_check (wCons (wVar 2) wNil)) wNo (wPart (wC (.int 3)))) (wVar 2)) (wC (.str ("\n" : Str))))) wNext)
  (wSeq (wIfS (bW (wOp oEq (wVar 3) (wC (.int 4)))) (wRet (wSl (wFn 1 w__law_sealed (wCons (wVar 2) wNil)) (wPart (wC (.int 1))) wNo)) wNext)
  (wSeq (wIfS (bW (wOp oEq (wVar 3) (wC (.int 5)))) (wRet (wOp oAdd (wOp oAdd (wFn 1 w__law_check (wCons (wOp oAdd (wVar 2) (wC (.str (" " : Str)))) wNil)) (wVar 2)) (wC (.str ("\n" : Str))))) wNext)
  (wSeq (wIfS (bW (wOp oEq (wVar 3) (wC (.int 6)))) (wRet (wFn 2 w__law_pick (wCons (wVar 0) (wCons (wLst (wCons (wC (.str ("" : Str))) (wCons (wC (.str ("\n" : Str))) (wCons (wC (.str ("0001\n" : Str))) (wCons (wC (.str ("0001" : Str))) (wCons (wOp oAdd (wFn 1 w__law_check (wCons (wC (.str ("+a" : Str))) wNil)) (wC (.str ("+b\n" : Str)))) wNil)))))) wNil)))) wNext)
  (wSeq (wAsg 4 (wFn 1 w__law_sealed (wCons (wVar 2) wNil)))
  (wSeq (wAsg 5 (wFn 2 w__law_draw (wCons (wVar 0) (wCons (wCall (on1 oLen) (wCons (wVar 4) wNil)) wNil))))
  (wRet (wOp oAdd (wOp oAdd (wSl (wVar 4) wNo (wPart (wVar 5))) (wFn 2 w__law_pick (wCons (wVar 0) (wCons (wLst (wCons (wC (.str ("" : Str))) (wCons (wC (.str ("a" : Str))) (wCons (wC (.str ("\n" : Str))) (wCons (wC (.str ("7" : Str))) (wCons (wC (.str ("\\" : Str))) wNil)))))) wNil)))) (wSl (wVar 4) (wPart (wOp oAdd (wVar 5) (wC (.int 1)))) wNo))))))))))))))
def w_law : SW := (wSeq (wFor (wRng1 (wC (.int 5))) [2] uName (wSeq (wAsg 3 (wFn 1 w__law_signs (wCons (wVar 1) wNil)))
  (wSeq (wIfS (wOr (wNot (wTru (wFn 2 (w__law_same 6) (wCons (wFn 1 w_escaped (wCons (wVar 3) wNil)) (wCons (wFn 1 w__law_escaped (wCons (wVar 3) wNil)) wNil))))) (wNot (wTru (wFn 2 (w__law_same 6) (wCons (wFn 1 w_plain (wCons (wFn 1 w__law_escaped (wCons (wVar 3) wNil)) wNil)) (wCons (wVar 3) wNil)))))) (wRet (wC (.bool false))) wNext)
  (wSeq (wIfS (wOr (wNot (wTru (wFn 2 (w__law_same 6) (wCons (wFn 1 w_plain (wCons (wVar 3) wNil)) (wCons (wFn 1 w__law_plain (wCons (wVar 3) wNil)) wNil))))) (wNot (wTru (wFn 2 (w__law_same 6) (wCons (wFn 1 w_check_of (wCons (wVar 3) wNil)) (wCons (wFn 1 w__law_check (wCons (wVar 3) wNil)) wNil)))))) (wRet (wC (.bool false))) wNext)
  (wSeq (wAsg 4 (wFn 2 w__law_pick (wCons (wVar 1) (wCons (wLst (wCons (wTup (wCons (wC (.str ("add" : Str))) (wCons (wVar 3) wNil))) (wCons (wTup (wCons (wC (.str ("drop" : Str))) (wCons (wFn 2 w__law_pick (wCons (wVar 1) (wCons (wLst (wCons (wC (.int 0)) (wCons (wC (.int 7)) (wCons (wC (.int 10)) (wCons (wC (.int 999)) (wCons (wC (.int 9999)) wNil)))))) wNil))) wNil))) wNil))) wNil))))
  (wSeq (wAsg 5 (wFn 1 w__law_record (wCons (wVar 4) wNil)))
  (wSeq (wPar 6 7 (wCons (wFn 1 w__law_signs (wCons (wVar 1) wNil)) (wCons (wFn 1 w__law_signs (wCons (wVar 1) wNil)) wNil)))
  (wSeq (wIfS (wOr (wNot (wTru (wFn 2 (w__law_same 6) (wCons (wFn 1 w_record (wCons (wVar 4) wNil)) (wCons (wVar 5) wNil))))) (wNot (wTru (wFn 2 (w__law_same 6) (wCons (wFn 2 w_read_record (wCons (wOp oAdd (wOp oAdd (wVar 6) (wVar 5)) (wVar 7)) (wCons (wCall (on1 oLen) (wCons (wVar 6) wNil)) wNil))) (wCons (wTup (wCons (wVar 4) (wCons (wOp oAdd (wCall (on1 oLen) (wCons (wVar 6) wNil)) (wCall (on1 oLen) (wCons (wVar 5) wNil))) wNil))) wNil)))))) (wRet (wC (.bool false))) wNext)
  (wSeq (wIfS (wNot (wTru (wFn 2 (w__law_same 6) (wCons (wFn 3 w_appended (wCons (wOp oAdd (wVar 6) (wVar 7)) (wCons (wCall (on1 oLen) (wCons (wVar 6) wNil)) (wCons (wVar 4) wNil)))) (wCons (wOp oAdd (wVar 6) (wVar 5)) wNil))))) (wRet (wC (.bool false))) wNext)
  (wSeq (wFor (wRng1 (wC (.int 4))) [8] uName (wSeq (wAsg 9 (wOp oAdd (wOp oAdd (wVar 6) (wFn 2 w__law_spoilt (wCons (wVar 1) (wCons (wVar 4) wNil)))) (wVar 7)))
  (wIfS (wNot (wTru (wFn 2 (w__law_same 6) (wCons (wFn 2 w_read_record (wCons (wVar 9) (wCons (wCall (on1 oLen) (wCons (wVar 6) wNil)) wNil))) (wCons (wFn 2 w__law_read (wCons (wVar 9) (wCons (wCall (on1 oLen) (wCons (wVar 6) wNil)) wNil))) wNil))))) (wRet (wC (.bool false))) wNext)))
  (wIfS (wOr (bW (wOp oNotN (wFn 2 w_read_record (wCons (wOp oAdd (wVar 6) (wSl (wVar 5) wNo (wPart (wFn 2 w__law_draw (wCons (wVar 1) (wCons (wCall (on1 oLen) (wCons (wVar 5) wNil)) wNil)))))) (wCons (wCall (on1 oLen) (wCons (wVar 6) wNil)) wNil))) (wC .none))) (bW (wOp oNotN (wFn 2 w_read_record (wCons (wVar 5) (wCons (wCall (on1 oLen) (wCons (wVar 5) wNil)) wNil))) (wC .none)))) (wRet (wC (.bool false))) wNext)))))))))))
  (wRet (wAndV (wFn 2 (w__law_same 6) (wCons (wFn 1 w_check_of (wCons (wC (.str ("" : Str))) wNil)) (wCons (wC (.str ("0001" : Str))) wNil))) (wAndV (wFn 2 (w__law_same 6) (wCons (wFn 1 w_check_of (wCons (wC (.str ("a" : Str))) wNil)) (wCons (wC (.str ("0228" : Str))) wNil))) (wFn 2 (w__law_same 6) (wCons (wFn 1 w_record (wCons (wTup (wCons (wC (.str ("drop" : Str))) (wCons (wC (.int 3)) wNil))) wNil)) (wCons (wOp oAdd (wFn 1 w__law_check (wCons (wC (.str ("-3" : Str))) wNil)) (wC (.str ("-3\n" : Str)))) wNil)))))))
def dig_law : EW := (wFn 3 w__law_digits (wCons (wVar 0) (wCons (wC (.int 0)) (wCons (wC (.int 60)) wNil))))
/-- what is to be shown -/
def LawTrue : Prop := lawW 10 1 dig_law w_law
end G_k92_records_as_lines

set_option Elab.async false
set_option linter.all false
set_option maxRecDepth 100000
set_option maxHeartbeats 2000000
namespace G_k92_records_as_lines
open PySem L2 Wy
open SX (S S_len S_cat S_inj in_one int_S num_S)
theorem li0 : ("" : Str) = S [] := by decide +kernel
theorem li1 : (" " : Str) = S [32] := by decide +kernel
theorem li2 : ("+" : Str) = S [43] := by decide +kernel
theorem li3 : ("-" : Str) = S [45] := by decide +kernel
theorem li4 : ("0" : Str) = S [48] := by decide +kernel
theorem li5 : ("7" : Str) = S [55] := by decide +kernel
theorem li6 : ("a" : Str) = S [97] := by decide +kernel
theorem li7 : ("n" : Str) = S [110] := by decide +kernel
theorem li8 : ("*a" : Str) = S [42, 97] := by decide +kernel
theorem li9 : ("+-" : Str) = S [43, 45] := by decide +kernel
theorem li10 : ("+a" : Str) = S [43, 97] := by decide +kernel
theorem li11 : ("-0" : Str) = S [45, 48] := by decide +kernel
theorem li12 : ("-3" : Str) = S [45, 51] := by decide +kernel
theorem li13 : ("\\" : Str) = S [92] := by decide +kernel
theorem li14 : ("\n" : Str) = S [10] := by decide +kernel
theorem li15 : ("-00" : Str) = S [45, 48, 48] := by decide +kernel
theorem li16 : ("-07" : Str) = S [45, 48, 55] := by decide +kernel
theorem li17 : ("-1x" : Str) = S [45, 49, 120] := by decide +kernel
theorem li18 : ("000" : Str) = S [48, 48, 48] := by decide +kernel
theorem li19 : ("\\n" : Str) = S [92, 110] := by decide +kernel
theorem li20 : ("\\x" : Str) = S [92, 120] := by decide +kernel
theorem li21 : ("add" : Str) = S [97, 100, 100] := by decide +kernel
theorem li22 : ("+b\n" : Str) = S [43, 98, 10] := by decide +kernel
theorem li23 : ("-3\n" : Str) = S [45, 51, 10] := by decide +kernel
theorem li24 : ("0001" : Str) = S [48, 48, 48, 49] := by decide +kernel
theorem li25 : ("0228" : Str) = S [48, 50, 50, 56] := by decide +kernel
theorem li26 : ("\\\\" : Str) = S [92, 92] := by decide +kernel
theorem li27 : ("drop" : Str) = S [100, 114, 111, 112] := by decide +kernel
theorem li28 : ("-9999" : Str) = S [45, 57, 57, 57, 57] := by decide +kernel
theorem li29 : ("-12345" : Str) = S [45, 49, 50, 51, 52, 53] := by decide +kernel
theorem li30 : ("0001\n" : Str) = S [48, 48, 48, 49, 10] := by decide +kernel
theorem li31 : ("0123456789" : Str) = S [48, 49, 50, 51, 52, 53, 54, 55, 56, 57] := by decide +kernel
theorem li32 : ("ab1 .:-n\\\\\n+" : Str) = S [97, 98, 49, 32, 46, 58, 45, 110, 92, 92, 10, 43] := by decide +kernel
local macro_rules | `(tactic| walk_at "lits") => `(tactic| simp only [li0, li1, li2, li3, li4, li5, li6, li7, li8, li9, li10, li11, li12, li13, li14, li15, li16, li17, li18, li19, li20, li21, li22, li23, li24, li25, li26, li27, li28, li29, li30, li31, li32])
local macro_rules | `(tactic| walk_at "wx") => `(tactic| simp only [x_seq, x_asg, x_asgS, x_ret, x_retN, x_ifS, x_next, x_drop, x_break, x_cont, x_frz, x_c, x_op, x_un, x_if, x_nil, x_cons, x_tup, x_lst, x_call, x_on1, x_fn, x_and, x_or, x_not, x_bW, x_tru, x_no, x_part, x_andV, x_orV, x_notV, x_chain, x_sl, x_m1, x_iter, x_rng1, x_rng2, x_for, x_lc, x_par, x_repl, x_own,
  x_vF, x_vH, x_vF0, x_vH0, x_slFd, x_slHd, x_slFo, x_slHo, x_var0, x_varS, x_aug0, x_aug1, x_aug2, o_addI, o_iaddI, o_subI, o_mulI, o_divI, o_modI, o_negI, o_addL, o_addT, o_addS, o_iaddS, o_lenS, o_lenL, o_lenT, o_ltI, o_leI, o_gtI, o_geI, o_eqS, o_neS, o_eqI, o_neI, o_isN, o_notN, o_isBv, o_ordS, o_intI, o_strI, o_inC, o_ninC, items_S, items_L, items_T,
  List.set_cons_zero, List.set_cons_succ, List.length_cons, List.length_nil, startS, List.map_cons, List.map_nil, List.replicate_succ, List.replicate_zero, List.cons_append, List.nil_append, Nat.reduceAdd, Nat.reduceSub, putS, isNone, true_and, and_true, x_truB, x_truL, x_truT, eq_self, if_true, if_false, Bool.false_eq_true])

/-! check -/
def chk (l : List Nat) (m : Nat) : Nat := l.foldl (fun m c => (m * 131 + c) % 9973) m
theorem chk_lt : ∀ (l : List Nat) (m : Nat), m < 9973 → chk l m < 9973
  | [], _, h => h
  | c :: r, m, h => chk_lt r _ (Nat.mod_lt _ (by decide))
/-- a number's four figures -/
def ck (n : Nat) : List Nat := List.replicate (4 - (TL.numL n).length) 48 ++ TL.numL n
def CK (l : List Nat) : List Nat := ck (chk l 1)
theorem four_S (n : Nat) : four (n : Int) = S (ck n) := by
  unfold four ck
  rw [num_S, show (n : Int).natAbs = n from rfl, show (TL.numL n).length = (Nat.toDigits 10 n).length by unfold TL.numL; rw [List.length_map]]
  exact S_cat _ _
theorem numL_pos (n : Nat) : 0 < (TL.numL n).length := List.length_pos_iff.mpr (TL.numL_ne n)
theorem ck_len {n : Nat} (h : n < 9973) : (ck n).length = 4 := by
  have h1 := TL.numL_len (n := n) (k := 4) (by decide) (by omega)
  unfold ck
  rw [List.length_append, List.length_replicate]
  omega
theorem ck_drop {n : Nat} (h : n < 9973) : ([48, 48, 48] ++ TL.numL n).drop ((TL.numL n).length - 1) = ck n := by
  have h1 := TL.numL_len (n := n) (k := 4) (by decide) (by omega)
  have h2 := numL_pos n
  rw [List.drop_append_of_le_length (by show _ ≤ 3; omega)]
  unfold ck
  congr 1
  generalize (TL.numL n).length = k at h1 h2
  match k, h1, h2 with
  | 1, _, _ => rfl
  | 2, _, _ => rfl
  | 3, _, _ => rfl
  | 4, _, _ => rfl
theorem sp_law_check {z : List Nat} {Q : D → Prop} (hz : z.length ≤ 1000) (h : Q (.str (S (CK z)))) : w__law_check [.str (S z)] Q := by
  unfold w__law_check
  rw [x_fnW]
  walk_at "lits"
  walk_at "wx"
  refine for_inv (fun ds ρ => ∃ (l : List Nat) (m : Nat) (a : Option Sl), ds = l.map (fun c => PyData.str (S [c])) ∧ ρ = [some (.dat (.str (S z))), some (.dat (.int (m : Nat))), a] ∧ m < 9973 ∧ chk l m = chk z 1) ?_ ?_ _ _ ⟨z, 1, none, rfl, rfl, by decide, rfl⟩
  · rintro d r ρ ⟨l, m, a, e, rfl, hm, hc⟩ P' hn _ _ _
    cases l with
    | nil => cases e
    | cons c l =>
      cases e
      refine ⟨_, rfl, ?_⟩
      walk_at "wx"
      refine ⟨.inr ⟨by decide, by decide⟩, by decide, hn _ ⟨l, (m * 131 + c) % 9973, some (.dat (.str (S [c]))), rfl, rfl, Nat.mod_lt _ (by decide), hc⟩⟩
  · rintro ρ ⟨l, m, a, e, rfl, hm, hc⟩
    cases l with
    | cons c l => cases e
    | nil =>
      replace hc : m = chk z 1 := hc
      walk_at "wx"
      have h1 := TL.numL_len (n := m) (k := 4) (by decide) (by omega)
      refine ⟨Nat.lt_trans (log2_of_lt (k := 14) (by decide) (by omega)) (by decide), by omega, ?_, ?_⟩
      · rw [S_len, sizeLine_eq]; simp only [List.length_cons]; omega
      · show Q (.str (cutS (S (48 :: 48 :: 48 :: TL.numL m)) (some (-((4 : Nat) : Int))) none))
        rw [cut_neg (by decide), show (48 :: 48 :: 48 :: TL.numL m).length - 4 = (TL.numL m).length - 1 by simp only [List.length_cons]; omega]
        have := ck_drop hm
        simp only [List.cons_append, List.nil_append] at this
        rw [this, hc]
        exact h
theorem sp_check_of {z : List Nat} {Q : D → Prop} (hz : z.length ≤ 1000) (h : Q (.str (S (CK z)))) : w_check_of [.str (S z)] Q := by
  unfold w_check_of
  rw [x_fnW]
  walk_at "wx"
  refine for_inv (fun ds ρ => ∃ (l : List Nat) (m : Nat) (a : Option Sl), ds = l.map (fun c => PyData.str (S [c])) ∧ ρ = [some (.dat (.str (S z))), some (.dat (.int (m : Nat))), a] ∧ m < 9973 ∧ chk l m = chk z 1) ?_ ?_ _ _ ⟨z, 1, none, rfl, rfl, by decide, rfl⟩
  · rintro d r ρ ⟨l, m, a, e, rfl, hm, hc⟩ P' hn _ _ _
    cases l with
    | nil => cases e
    | cons c l =>
      cases e
      refine ⟨_, rfl, ?_⟩
      walk_at "wx"
      refine ⟨.inr ⟨by decide, by decide⟩, by decide, hn _ ⟨l, (m * 131 + c) % 9973, some (.dat (.str (S [c]))), rfl, rfl, Nat.mod_lt _ (by decide), hc⟩⟩
  · rintro ρ ⟨l, m, a, e, rfl, hm, hc⟩
    cases l with
    | cons c l => cases e
    | nil =>
      replace hc : m = chk z 1 := hc
      walk_at "wx"
      refine ⟨by omega, by omega, ?_⟩
      rw [four_S, hc]
      exact h
/-! escaped -/
def esc (l : List Nat) : List Nat := l.flatMap fun c => if c = 92 then [92, 92] else if c = 10 then [92, 110] else [c]
theorem esc_cons (c : Nat) (l : List Nat) : esc (c :: l) = (if c = 92 then [92, 92] else if c = 10 then [92, 110] else [c]) ++ esc l := rfl
theorem esc_len : ∀ l : List Nat, (esc l).length ≤ 2 * l.length
  | [] => Nat.le_refl _
  | c :: l => by
    rw [esc_cons, List.length_append, List.length_cons]
    have := esc_len l
    by_cases h1 : c = 92
    · simp only [h1, if_true, List.length_cons, List.length_nil]; omega
    · by_cases h2 : c = 10
      · simp only [h2, show (10 : Nat) ≠ 92 by decide, if_true, if_false, List.length_cons, List.length_nil]; omega
      · simp only [h1, h2, if_false, List.length_cons, List.length_nil]; omega
theorem sp_law_escaped {z : List Nat} {Q : D → Prop} (hz : z.length ≤ 1000) (h : Q (.str (S (esc z)))) : w__law_escaped [.str (S z)] Q := by
  unfold w__law_escaped
  rw [x_fnW]
  walk_at "lits"
  walk_at "wx"
  refine for_inv (fun ds ρ => ∃ (l acc : List Nat) (a : Option Sl), ds = l.map (fun c => PyData.str (S [c])) ∧ ρ = [some (.dat (.str (S z))), some (.dat (.str (S acc))), a] ∧ acc ++ esc l = esc z) ?_ ?_ _ _ ⟨z, [], none, rfl, rfl, rfl⟩
  · rintro d r ρ ⟨l, acc, a, e, rfl, hc⟩ P' hn _ _ _
    cases l with
    | nil => cases e
    | cons c l =>
      cases e
      refine ⟨_, rfl, ?_⟩
      have hl : acc.length + (esc (c :: l)).length ≤ 2000 := by
        have := congrArg List.length hc
        have h2 := esc_len z
        rw [List.length_append] at this
        omega
      rw [esc_cons, List.length_append] at hl
      rw [esc_cons] at hc
      walk_at "wx"
      simp only [List.cons.injEq, and_true, decide_eq_true_eq]
      by_cases h1 : c = 92
      · simp only [h1, if_true] at hc hl ⊢
        try walk_at "wx"
        exact ⟨by show _ + 2 ≤ _; simp only [List.length_cons, List.length_nil] at hl; omega, hn _ ⟨l, _, _, rfl, rfl, by rw [List.append_assoc]; exact hc⟩⟩
      · by_cases h2 : c = 10
        · simp only [h2, show (10 : Nat) ≠ 92 by decide, if_true, if_false] at hc hl ⊢
          try walk_at "wx"
          exact ⟨by show _ + 2 ≤ _; simp only [List.length_cons, List.length_nil] at hl; omega, hn _ ⟨l, _, _, rfl, rfl, by rw [List.append_assoc]; exact hc⟩⟩
        · simp only [h1, h2, if_false] at hc hl ⊢
          try walk_at "wx"
          exact ⟨by show _ + 1 ≤ _; simp only [List.length_cons, List.length_nil] at hl; omega, hn _ ⟨l, _, _, rfl, rfl, by rw [List.append_assoc]; exact hc⟩⟩
  · rintro ρ ⟨l, acc, a, e, rfl, hc⟩
    cases l with
    | cons c l => cases e
    | nil =>
      walk_at "wx"
      rw [← hc, show esc [] = [] from rfl, List.append_nil] at h
      exact h
theorem flat2 (l w : List Nat) (c : Nat) (hw : w.length ≤ 2) : (l.flatMap fun x => if x = c then w else [x]).length ≤ 2 * l.length := by
  induction l with
  | nil => exact Nat.le_refl _
  | cons x l ih =>
    rw [List.flatMap_cons, List.length_append, List.length_cons]
    split
    · omega
    · simp only [List.length_cons, List.length_nil]; omega
theorem sp_escaped {z : List Nat} {Q : D → Prop} (hz : z.length ≤ 1000) (h : Q (.str (S (esc z)))) : w_escaped [.str (S z)] Q := by
  unfold w_escaped
  rw [x_fnW]
  walk_at "lits"
  walk_at "wx"
  simp only [repl_S, S_len]
  have := flat2 z [92, 92] 92 (by decide)
  simp only [List.length_cons, List.length_nil]
  refine ⟨by omega, by omega, ?_⟩
  have e : ((z.flatMap fun x => if x = 92 then [92, 92] else [x]).flatMap fun x => if x = 10 then [92, 110] else [x]) = esc z := by
    rw [List.flatMap_assoc]
    unfold esc
    congr 1
    funext c
    by_cases h1 : c = 92
    · simp [h1]
    · by_cases h2 : c = 10
      · simp [h2]
      · simp [h1, h2]
  rw [e]
  exact h
end G_k92_records_as_lines

set_option Elab.async false
set_option linter.all false
set_option maxRecDepth 100000
set_option maxHeartbeats 2000000
namespace G_k92_records_as_lines
open PySem L2 Wy
open SX (S S_len S_cat S_inj in_one int_S num_S)
local macro_rules | `(tactic| walk_at "lits") => `(tactic| simp only [li0, li1, li2, li3, li4, li5, li6, li7, li8, li9, li10, li11, li12, li13, li14, li15, li16, li17, li18, li19, li20, li21, li22, li23, li24, li25, li26, li27, li28, li29, li30, li31, li32])
local macro_rules | `(tactic| walk_at "wx") => `(tactic| simp only [x_seq, x_asg, x_asgS, x_ret, x_retN, x_ifS, x_next, x_drop, x_break, x_cont, x_frz, x_c, x_op, x_un, x_if, x_nil, x_cons, x_tup, x_lst, x_call, x_on1, x_fn, x_and, x_or, x_not, x_bW, x_tru, x_no, x_part, x_andV, x_orV, x_notV, x_chain, x_sl, x_m1, x_iter, x_rng1, x_rng2, x_for, x_lc, x_par, x_repl, x_own,
  x_vF, x_vH, x_vF0, x_vH0, x_slFd, x_slHd, x_slFo, x_slHo, x_var0, x_varS, x_aug0, x_aug1, x_aug2, o_addI, o_iaddI, o_subI, o_mulI, o_divI, o_modI, o_negI, o_addL, o_addT, o_addS, o_iaddS, o_lenS, o_lenL, o_lenT, o_ltI, o_leI, o_gtI, o_geI, o_eqS, o_neS, o_eqI, o_neI, o_isN, o_notN, o_isBv, o_ordS, o_intI, o_strI, o_inC, o_ninC, items_S, items_L, items_T,
  List.set_cons_zero, List.set_cons_succ, List.length_cons, List.length_nil, startS, List.map_cons, List.map_nil, List.replicate_succ, List.replicate_zero, List.cons_append, List.nil_append, Nat.reduceAdd, Nat.reduceSub, putS, isNone, true_and, and_true, x_truB, x_truL, x_truT, eq_self, if_true, if_false, Bool.false_eq_true])


/-! plain -/
def plainF : List Nat → Option (List Nat)
  | [] => some []
  | [c] => if c = 10 ∨ c = 92 then none else some [c]
  | c :: d :: r => if c = 10 then none else if c = 92 then (if d = 92 then (plainF r).map (92 :: ·) else if d = 110 then (plainF r).map (10 :: ·) else none) else (plainF (d :: r)).map (c :: ·)
theorem plainF_cons {c : Nat} (h1 : c ≠ 10) (h2 : c ≠ 92) : ∀ l : List Nat, plainF (c :: l) = (plainF l).map (c :: ·)
  | [] => by simp [plainF, h1, h2]
  | d :: l => by simp [plainF, h1, h2]
theorem plainF_10 : ∀ l : List Nat, plainF (10 :: l) = none
  | [] => by simp [plainF]
  | d :: l => by simp [plainF]
theorem plainF_92 {d : Nat} (l : List Nat) (h1 : d ≠ 92) (h2 : d ≠ 110) : plainF (92 :: d :: l) = none := by simp [plainF, h1, h2]
theorem plainF_bb (l : List Nat) : plainF (92 :: 92 :: l) = (plainF l).map (92 :: ·) := by simp [plainF]
theorem plainF_bn (l : List Nat) : plainF (92 :: 110 :: l) = (plainF l).map (10 :: ·) := by simp [plainF]
theorem plainF_esc : ∀ y : List Nat, plainF (esc y) = some y
  | [] => rfl
  | c :: y => by
    rw [esc_cons]
    by_cases h1 : c = 92
    · rw [if_pos h1]
      show plainF (92 :: 92 :: esc y) = _
      rw [plainF_bb, plainF_esc y, h1]; rfl
    · by_cases h2 : c = 10
      · rw [if_neg h1, if_pos h2]
        show plainF (92 :: 110 :: esc y) = _
        rw [plainF_bn, plainF_esc y, h2]; rfl
      · rw [if_neg h1, if_neg h2]
        show plainF (c :: esc y) = _
        rw [plainF_cons h2 h1, plainF_esc y]; rfl
theorem esc_plainF : ∀ (n : Nat) (z y : List Nat), z.length ≤ n → plainF z = some y → esc y = z
  | n, [], y, _, h => by cases h; rfl
  | n + 1, c :: r, y, hn, h => by
    have hr : r.length ≤ n := by simpa using hn
    by_cases h1 : c = 10
    · subst h1; rw [plainF_10] at h; cases h
    · by_cases h2 : c = 92
      · subst h2
        cases r with
        | nil => cases h
        | cons d r =>
          have hr2 : r.length ≤ n := by simp at hr; omega
          by_cases h3 : d = 92
          · subst h3
            rw [plainF_bb] at h
            cases e : plainF r with
            | none => rw [e] at h; cases h
            | some w => rw [e] at h; cases h; rw [esc_cons, if_pos rfl, esc_plainF n r w hr2 e]; rfl
          · by_cases h4 : d = 110
            · subst h4
              rw [plainF_bn] at h
              cases e : plainF r with
              | none => rw [e] at h; cases h
              | some w => rw [e] at h; cases h; rw [esc_cons, if_neg (by decide), if_pos rfl, esc_plainF n r w hr2 e]; rfl
            · rw [plainF_92 r h3 h4] at h; cases h
      · rw [plainF_cons h1 h2] at h
        cases e : plainF r with
        | none => rw [e] at h; cases h
        | some w => rw [e] at h; cases h; rw [esc_cons, if_neg h2, if_neg h1, esc_plainF n r w hr e]; rfl
def optS : Option (List Nat) → D
  | none => .none
  | some l => .str (S l)
def stepL (st : List Nat × Bool) (c : Nat) : List Nat × Bool := (if st.2 = true then st.1 ++ [if c = 110 then 10 else c] else if c = 92 then st.1 else st.1 ++ [c], decide (c = 92) && !st.2)
theorem fold_esc : ∀ (y acc : List Nat), (esc y).foldl stepL (acc, false) = (acc ++ y, false)
  | [], acc => by show (acc, false) = _; rw [List.append_nil]
  | c :: y, acc => by
    rw [esc_cons, List.foldl_append]
    have e : (if c = 92 then [92, 92] else if c = 10 then [92, 110] else [c]).foldl stepL (acc, false) = (acc ++ [c], false) := by
      by_cases h1 : c = 92
      · subst h1; rfl
      · by_cases h2 : c = 10
        · subst h2; rfl
        · rw [if_neg h1, if_neg h2]; simp [stepL, h1]
    rw [e, fold_esc y, List.append_assoc]; rfl
theorem law_plainF {z found : List Nat} {marked : Bool} (h : z.foldl stepL ([], false) = (found, marked)) : plainF z = if marked = false ∧ esc found = z then some found else none := by
  by_cases q : marked = false ∧ esc found = z
  · rw [if_pos q]
    conv => lhs; rw [← q.2]
    exact plainF_esc found
  · rw [if_neg q]
    cases e : plainF z with
    | none => rfl
    | some w =>
      have ew := esc_plainF _ z w (Nat.le_refl _) e
      rw [← ew, fold_esc] at h
      cases h
      exact absurd ⟨rfl, ew⟩ q
theorem fold_len : ∀ (l : List Nat) (st : List Nat × Bool), (l.foldl stepL st).1.length ≤ st.1.length + l.length
  | [], st => Nat.le_refl _
  | c :: l, st => by
    have := fold_len l (stepL st c)
    have h2 : (stepL st c).1.length ≤ st.1.length + 1 := by
      unfold stepL
      show (if st.2 = true then _ else if c = 92 then _ else _ : List Nat).length ≤ _
      split
      · simp
      · split <;> simp
    rw [List.foldl_cons, List.length_cons]; omega
theorem drop_get {z r : List Nat} {n c : Nat} (h : z.drop n = c :: r) : z[n]? = some c ∧ z.drop (n + 1) = r ∧ n < z.length := by
  have h1 : z[n]? = some c := by
    have : (z.drop n)[0]? = some c := by rw [h]; rfl
    rwa [List.getElem?_drop, Nat.add_zero] at this
  refine ⟨h1, ?_, (List.getElem?_eq_some_iff.mp h1).1⟩
  rw [← List.drop_drop, h]; rfl
theorem sp_law_plain {z : List Nat} {Q : D → Prop} (hz : z.length ≤ 300) (h : Q (optS (plainF z))) : w__law_plain [.str (S z)] Q := by
  unfold w__law_plain
  rw [x_fnW]
  walk_at "lits"
  walk_at "wx"
  refine for_inv (fun ds ρ => ∃ (l acc : List Nat) (m : Bool) (a : Option Sl), ds = l.map (fun c => PyData.str (S [c])) ∧ ρ = [some (.dat (.str (S z))), some (.dat (.str (S acc))), some (.dat (.bool m)), a] ∧ l.foldl stepL (acc, m) = z.foldl stepL ([], false) ∧ acc.length + l.length ≤ z.length) ?_ ?_ _ _ ⟨z, [], false, none, rfl, rfl, rfl, by simp⟩
  · rintro d r ρ ⟨l, acc, m, a, e, rfl, hc, hl⟩ P' hn _ _ _
    cases l with
    | nil => cases e
    | cons c l =>
      cases e
      refine ⟨_, rfl, ?_⟩
      rw [List.length_cons] at hl
      rw [List.foldl_cons] at hc
      have fin : ∀ acc' : List Nat, acc' = (stepL (acc, m) c).1 → acc'.length ≤ acc.length + 1 → P'.nx [some (.dat (.str (S z))), some (.dat (.str (S acc'))), some (.dat (.bool (decide (c = 92) && !m))), some (.dat (.str (S [c])))] := fun acc' e e2 =>
        hn _ ⟨l, acc', _, _, rfl, rfl, by rw [← hc, e]; rfl, by omega⟩
      walk_at "wx"
      simp only [List.cons.injEq, and_true, decide_eq_true_eq]
      cases m with
      | true =>
        walk_at "wx"
        by_cases h1 : c = 110
        · rw [if_pos h1]
          refine ⟨by show _ + 1 ≤ _; omega, ?_⟩
          have := fin (acc ++ [10]) (by subst h1; rfl) (by simp)
          subst h1
          exact this
        · rw [if_neg h1]
          refine ⟨by show _ + 1 ≤ _; omega, ?_⟩
          have := fin (acc ++ [c]) (by simp [stepL, h1]) (by simp)
          by_cases h2 : c = 92
          · subst h2; exact this
          · simp only [h2, decide_false, Bool.false_and] at this ⊢
            exact this
      | false =>
        walk_at "wx"
        by_cases h2 : c = 92
        · have := fin acc (by simp [stepL, h2]) (by omega)
          subst h2
          exact this
        · have := fin (acc ++ [c]) (by simp [stepL, h2]) (by simp)
          simp only [h2, decide_false, Bool.not_false, if_true, Bool.false_and] at this ⊢
          exact ⟨by show _ + 1 ≤ _; omega, this⟩
  · rintro ρ ⟨l, acc, m, a, e, rfl, hc, hl⟩
    cases l with
    | cons c l => cases e
    | nil =>
      have e2 := law_plainF hc.symm
      rw [e2] at h
      walk_at "wx"
      have fl := fold_len z ([], false)
      rw [← hc] at fl
      have fl2 : acc.length ≤ z.length := by simpa using fl
      cases m with
      | true => exact h
      | false =>
        show w__law_escaped [.str (S acc)] _
        refine sp_law_escaped (by omega) ?_
        walk_at "wx"
        by_cases q : esc acc = z
        · rw [if_pos ⟨rfl, q⟩] at h
          rw [if_pos (by simpa using q)]
          exact h
        · rw [if_neg (fun x => q x.2)] at h
          rw [if_neg (by simpa using q)]
          exact h
theorem sp_plain {z : List Nat} {Q : D → Prop} (hz : z.length ≤ 300) (h : Q (optS (plainF z))) : w_plain [.str (S z)] Q := by
  unfold w_plain
  rw [x_fnW]
  walk_at "lits"
  walk_at "wx"
  unfold wWhile
  refine ⟨fun m ρ => ∃ (acc : List Nat) (k : Nat), m = z.length - k ∧ k ≤ z.length ∧ acc.length ≤ k ∧ ρ = [some (.dat (.str (S z))), some (.dat (.str (S acc))), some (.dat (.int (k : Nat)))] ∧ Q (optS ((plainF (z.drop k)).map (acc ++ ·))), ⟨_, [], 0, rfl, by omega, by simp, rfl, ?_⟩, ?_⟩
  · rw [List.drop_zero]
    have : (plainF z).map (([] : List Nat) ++ ·) = plainF z := by cases plainF z <;> rfl
    rw [this]; exact h
  rintro m ρ ⟨acc, k, rfl, hk, ha, rfl, hq⟩
  walk_at "wx"
  refine ⟨by omega, ?_⟩
  by_cases hlt : (k : Int) < (z.length : Int)
  · rw [if_pos (by simpa using hlt)]
    cases ed : z.drop k with
    | nil =>
      have := congrArg List.length ed
      rw [List.length_drop] at this
      simp at this; omega
    | cons c r =>
      obtain ⟨g1, g2, g3⟩ := drop_get ed
      rw [ed] at hq
      simp only [o_ixS (at_nat g1), o_eqS]
      refine ⟨by omega, ?_⟩
      simp only [List.cons.injEq, and_true, decide_eq_true_eq]
      by_cases h1 : c = 10
      · subst h1
        rw [plainF_10] at hq
        rw [if_pos rfl]
        exact hq
      · rw [if_neg h1]
        refine ⟨by omega, ?_⟩
        by_cases h2 : c = 92
        · rw [if_pos h2]
          subst h2
          simp only [o_slMid (show (0 : Int) ≤ (k : Int) + 1 by omega) (show (0 : Int) ≤ (k : Int) + 2 by omega), show ((k : Int) + 1).toNat = k + 1 by omega, show ((k : Int) + 2).toNat = k + 2 by omega, show k + 2 - (k + 1) = 1 by omega, g2]
          refine ⟨by omega, by decide, rfl, rfl, ?_⟩
          cases r with
          | nil => 
            rw [if_pos (by decide)]
            exact hq
          | cons d r =>
            obtain ⟨g4, g5, g6⟩ := drop_get g2
            have ea : ([PyData.str (S [92]), PyData.str (S [110])].any fun y => PyData.eqv y (PyData.str (S [d]))) = (decide (d = 92) || decide (d = 110)) := by
              simp only [List.any_cons, List.any_nil, Bool.or_false]
              rw [show PyData.eqv (.str (S [92])) (.str (S [d])) = (S [92] == S [d]) by rw [PyData.eqv], show PyData.eqv (.str (S [110])) (.str (S [d])) = (S [110] == S [d]) by rw [PyData.eqv], S_dec, S_dec]
              simp [eq_comm]
            simp only [List.take_succ_cons, List.take_zero, ea, o_ixS (at_nat (i := k + 1) g4), if_true]
            have e3 : (k : Int) + 1 = ((k + 1 : Nat) : Int) := rfl
            have e4 : (k : Int) + 2 = ((k + 2 : Nat) : Int) := rfl
            rw [e3, o_ixS (at_nat g4)]
            by_cases h3 : d = 92
            · subst h3
              rw [plainF_bb] at hq
              rw [if_neg (by decide)]
              simp only [o_eqS]
              refine ⟨by omega, ?_⟩
              rw [if_neg (by decide)]
              refine ⟨by omega, rfl, rfl, _, ?_, acc ++ [92], k + 2, rfl, by omega, by simp; omega, ⟨trivial, rfl, rfl⟩, ?_⟩
              · omega
              · rw [g5]
                cases e : plainF r with
                | none => rw [e] at hq; exact hq
                | some w => rw [e] at hq; show Q (.str (S (acc ++ [92] ++ w))); rw [List.append_assoc]; exact hq
            · by_cases h4 : d = 110
              · subst h4
                rw [plainF_bn] at hq
                rw [if_neg (by decide)]
                simp only [o_eqS]
                refine ⟨by omega, ?_⟩
                rw [if_pos (by decide)]
                refine ⟨by omega, rfl, rfl, _, ?_, acc ++ [10], k + 2, rfl, by omega, by simp; omega, ⟨trivial, rfl, rfl⟩, ?_⟩
                · omega
                · rw [g5]
                  cases e : plainF r with
                  | none => rw [e] at hq; exact hq
                  | some w => rw [e] at hq; show Q (.str (S (acc ++ [10] ++ w))); rw [List.append_assoc]; exact hq
              · rw [plainF_92 r h3 h4] at hq
                rw [if_pos (by simp [h3, h4])]
                exact hq
        · rw [if_neg h2]
          refine ⟨by omega, ?_⟩
          walk_at "wx"
          rw [plainF_cons h1 h2] at hq
          refine ⟨by omega, rfl, rfl, _, ?_, acc ++ [c], k + 1, rfl, by omega, by simp; omega, ⟨rfl, rfl⟩, ?_⟩
          · omega
          · rw [g2]
            cases e : plainF r with
            | none => rw [e] at hq; exact hq
            | some w => rw [e] at hq; show Q (.str (S (acc ++ [c] ++ w))); rw [List.append_assoc]; exact hq
  · rw [if_neg (by simpa using hlt)]
    have : z.drop k = [] := List.drop_of_length_le (by omega)
    rw [this] at hq
    have e2 : (plainF []).map (acc ++ ·) = some acc := by show some (acc ++ []) = _; rw [List.append_nil]
    rw [e2] at hq
    exact hq
end G_k92_records_as_lines

set_option Elab.async false
set_option linter.all false
set_option maxRecDepth 100000
set_option maxHeartbeats 2000000
namespace G_k92_records_as_lines
open PySem L2 Wy
open SX (S S_len S_cat S_inj in_one int_S num_S)
local macro_rules | `(tactic| walk_at "lits") => `(tactic| simp only [li0, li1, li2, li3, li4, li5, li6, li7, li8, li9, li10, li11, li12, li13, li14, li15, li16, li17, li18, li19, li20, li21, li22, li23, li24, li25, li26, li27, li28, li29, li30, li31, li32])
local macro_rules | `(tactic| walk_at "wx") => `(tactic| simp only [x_seq, x_asg, x_asgS, x_ret, x_retN, x_ifS, x_next, x_drop, x_break, x_cont, x_frz, x_c, x_op, x_un, x_if, x_nil, x_cons, x_tup, x_lst, x_call, x_on1, x_fn, x_and, x_or, x_not, x_bW, x_tru, x_no, x_part, x_andV, x_orV, x_notV, x_chain, x_sl, x_m1, x_iter, x_rng1, x_rng2, x_for, x_lc, x_par, x_repl, x_own,
  x_vF, x_vH, x_vF0, x_vH0, x_slFd, x_slHd, x_slFo, x_slHo, x_var0, x_varS, x_aug0, x_aug1, x_aug2, o_addI, o_iaddI, o_subI, o_mulI, o_divI, o_modI, o_negI, o_addL, o_addT, o_addS, o_iaddS, o_lenS, o_lenL, o_lenT, o_ltI, o_leI, o_gtI, o_geI, o_eqS, o_neS, o_eqI, o_neI, o_isN, o_notN, o_isBv, o_ordS, o_intI, o_strI, o_inC, o_ninC, items_S, items_L, items_T,
  List.set_cons_zero, List.set_cons_succ, List.length_cons, List.length_nil, startS, List.map_cons, List.map_nil, List.replicate_succ, List.replicate_zero, List.cons_append, List.nil_append, Nat.reduceAdd, Nat.reduceSub, putS, isNone, true_and, and_true, x_truB, x_truL, x_truT, eq_self, if_true, if_false, Bool.false_eq_true])


/-! record -/
abbrev tAdd : List Nat := [97, 100, 100]
abbrev tDrop : List Nat := [100, 114, 111, 112]
inductive Deed where
  | add (t : List Nat)
  | drop (n : Nat)
def Deed.d : Deed → D
  | .add t => .tuple [.str (S tAdd), .str (S t)]
  | .drop n => .tuple [.str (S tDrop), .int (n : Nat)]
def Deed.body : Deed → List Nat
  | .add t => 43 :: esc t
  | .drop n => 45 :: TL.numL n
def Deed.ok : Deed → Prop
  | .add t => t.length ≤ 10 ∧ ∀ c ∈ t, c < 128
  | .drop n => n ≤ 9999
def sealed (b : List Nat) : List Nat := CK b ++ b ++ [10]
theorem CK_len (b : List Nat) : (CK b).length = 4 := ck_len (chk_lt b 1 (by decide))
theorem sealed_len (b : List Nat) : (sealed b).length = b.length + 5 := by
  unfold sealed
  rw [List.length_append, List.length_append, CK_len, List.length_singleton]; omega
theorem Deed.body_len {e : Deed} (h : e.ok) : e.body.length ≤ 21 ∧ 1 ≤ e.body.length := by
  cases e with
  | add t => 
    have := esc_len t
    have h1 := h.1
    show (43 :: esc t).length ≤ 21 ∧ 1 ≤ (43 :: esc t).length
    rw [List.length_cons]; omega
  | drop n => 
    have := TL.numL_len (n := n) (k := 4) (by decide) (by have : n ≤ 9999 := h; omega)
    show (45 :: TL.numL n).length ≤ 21 ∧ 1 ≤ (45 :: TL.numL n).length
    rw [List.length_cons]; omega
theorem sp_law_sealed {z : List Nat} {Q : D → Prop} (hz : z.length ≤ 300) (h : Q (.str (S (sealed z)))) : w__law_sealed [.str (S z)] Q := by
  unfold w__law_sealed
  rw [x_fnW]
  walk_at "lits"
  walk_at "wx"
  refine sp_law_check (by omega) ?_
  walk_at "wx"
  have := CK_len z
  refine ⟨by omega, by rw [List.length_append]; omega, ?_⟩
  exact h
theorem ix0 {x : D} {xs : List D} : atI (x :: xs) (0 : Int) = some x := at_nat (i := 0) rfl
theorem ix1 {x y : D} {xs : List D} : atI (x :: y :: xs) (1 : Int) = some y := at_nat (i := 1) rfl
theorem sp_law_record {e : Deed} {Q : D → Prop} (he : e.ok) (h : Q (.str (S (sealed e.body)))) : w__law_record [e.d] Q := by
  have hb := Deed.body_len he
  unfold w__law_record
  rw [x_fnW]
  walk_at "lits"
  walk_at "wx"
  cases e with
  | add t =>
    have h1 : t.length ≤ 10 := he.1
    have := esc_len t
    simp only [Deed.d, o_ixT ix0, o_ixT ix1, o_eqS, decide_true, if_true]
    refine sp_law_escaped (by omega) ?_
    walk_at "wx"
    exact ⟨by omega, sp_law_sealed (z := 43 :: esc t) (by have := hb.1; exact Nat.le_trans this (by decide)) h⟩
  | drop n =>
    have h1 : n ≤ 9999 := he
    have h2 := TL.numL_len (n := n) (k := 4) (by decide) (by omega)
    simp only [Deed.d, o_ixT ix0, o_ixT ix1, o_eqS, show decide (tDrop = [97, 100, 100]) = false by decide, Bool.false_eq_true, if_false]
    walk_at "wx"
    exact ⟨Nat.lt_trans (log2_of_lt (k := 14) (by decide) (by omega)) (by decide), by omega, sp_law_sealed (z := 45 :: TL.numL n) (by rw [List.length_cons]; omega) h⟩
theorem sp_record {e : Deed} {Q : D → Prop} (he : e.ok) (h : Q (.str (S (sealed e.body)))) : w_record [e.d] Q := by
  have hb := Deed.body_len he
  unfold w_record
  rw [x_fnW]
  walk_at "lits"
  walk_at "wx"
  cases e with
  | add t =>
    have h1 : t.length ≤ 10 := he.1
    have := esc_len t
    simp only [Deed.d, o_ixT ix0, o_ixT ix1, o_eqS, decide_true, if_true]
    refine sp_escaped (by omega) ?_
    walk_at "wx"
    refine ⟨by omega, sp_check_of (z := 43 :: esc t) (by rw [List.length_cons]; omega) ?_⟩
    walk_at "wx"
    have e4 := CK_len (43 :: esc t)
    exact ⟨by omega, by rw [List.length_append, List.length_cons]; omega, h⟩
  | drop n =>
    have h1 : n ≤ 9999 := he
    have h2 := TL.numL_len (n := n) (k := 4) (by decide) (by omega)
    simp only [Deed.d, o_ixT ix0, o_ixT ix1, o_eqS, show decide (tDrop = [97, 100, 100]) = false by decide, Bool.false_eq_true, if_false]
    walk_at "wx"
    refine ⟨Nat.lt_trans (log2_of_lt (k := 14) (by decide) (by omega)) (by decide), by omega, sp_check_of (z := 45 :: TL.numL n) (by rw [List.length_cons]; omega) ?_⟩
    walk_at "wx"
    have e4 := CK_len (45 :: TL.numL n)
    exact ⟨by omega, by rw [List.length_append, List.length_cons]; omega, h⟩
theorem sp_appended {z : List Nat} {k : Nat} {e : Deed} {Q : D → Prop} (hz : z.length ≤ 300) (he : e.ok) (h : Q (.str (S (z.take k ++ sealed e.body)))) : w_appended [.str (S z), .int (k : Nat), e.d] Q := by
  unfold w_appended
  rw [x_fnW]
  walk_at "wx"
  have hb := Deed.body_len he
  simp only [o_slTo (show (0 : Int) ≤ (k : Int) by omega), Int.toNat_natCast]
  refine ⟨by omega, sp_record he ?_⟩
  walk_at "wx"
  refine ⟨?_, h⟩
  rw [sealed_len, List.length_take]
  omega
/-! reading -/
def digs : List Nat := [48, 49, 50, 51, 52, 53, 54, 55, 56, 57]
theorem digs_in (c : Nat) : decide (c ∈ digs) = (decide (48 ≤ c) && decide (c ≤ 57)) := by
  by_cases h : 48 ≤ c ∧ c ≤ 57
  · have : c ∈ digs := by simp only [digs, List.mem_cons, List.not_mem_nil, or_false]; omega
    simp [this, h.1, h.2]
  · have : c ∉ digs := by simp only [digs, List.mem_cons, List.not_mem_nil, or_false]; omega
    simp only [this, decide_false]
    by_cases h1 : 48 ≤ c
    · simp [h1]; omega
    · simp [h1]
def isDig (c : Nat) : Bool := decide (48 ≤ c) && decide (c ≤ 57)
def figs (r : List Nat) : Bool := decide (1 ≤ r.length) && decide (r.length ≤ 4) && r.all isDig && !(decide (1 < r.length) && decide (r.head? = some 48))
/-- what a line tells that ends at e -/
def lineF (p : List Nat) (e : Nat) : D :=
  if p.length < 5 ∨ ¬ p.take 4 = CK (p.drop 4) then .none else
  if p[4]? = some 43 then (match plainF (p.drop 5) with | some t => .tuple [(Deed.add t).d, .int (e + 1 : Nat)] | none => .none)
  else if p[4]? = some 45 ∧ figs (p.drop 5) = true then .tuple [(Deed.drop (NumText.digitsVal (p.drop 5))).d, .int (e + 1 : Nat)] else .none
/-- up to the newline, and what stands behind it -/
def cutF : List Nat → Option (List Nat)
  | [] => none
  | c :: r => if c = 10 then some [] else (cutF r).map (c :: ·)
def readF (z : List Nat) (k : Nat) : D := match cutF (z.drop k) with
  | none => .none
  | some p => lineF p (k + p.length)
theorem cutF_app : ∀ {p : List Nat} (r : List Nat), 10 ∉ p → cutF (p ++ 10 :: r) = some p
  | [], r, _ => rfl
  | c :: p, r, h => by
    have h1 : c ≠ 10 := fun e => h (by rw [e]; exact List.mem_cons_self)
    show (if c = 10 then some [] else (cutF (p ++ 10 :: r)).map (c :: ·)) = _
    rw [if_neg h1, cutF_app r fun e => h (List.mem_cons_of_mem _ e)]; rfl
theorem cutF_none : ∀ {p : List Nat}, 10 ∉ p → cutF p = none
  | [], _ => rfl
  | c :: p, h => by
    have h1 : c ≠ 10 := fun e => h (by rw [e]; exact List.mem_cons_self)
    show (if c = 10 then some [] else (cutF p).map (c :: ·)) = _
    rw [if_neg h1, cutF_none fun e => h (List.mem_cons_of_mem _ e)]; rfl
theorem cutF_some : ∀ {z p : List Nat}, cutF z = some p → 10 ∉ p ∧ ∃ r, z = p ++ 10 :: r
  | c :: z, p, h => by
    have h' : (if c = 10 then some [] else (cutF z).map (c :: ·)) = some p := h
    by_cases h1 : c = 10
    · rw [if_pos h1] at h'; cases h'; exact ⟨by simp, z, by rw [h1]; rfl⟩
    · rw [if_neg h1] at h'
      cases e : cutF z with
      | none => rw [e] at h'; cases h'
      | some q =>
        rw [e] at h'; cases h'
        obtain ⟨h2, r, h3⟩ := cutF_some e
        exact ⟨fun hm => by rcases List.mem_cons.mp hm with h4 | h4; exact h1 h4.symm; exact h2 h4, r, by rw [h3]; rfl⟩
theorem cutF_is_none : ∀ {z : List Nat}, cutF z = none → 10 ∉ z
  | [], _ => by simp
  | c :: z, h => by
    have h' : (if c = 10 then some [] else (cutF z).map (c :: ·)) = none := h
    by_cases h1 : c = 10
    · rw [if_pos h1] at h'; cases h'
    · rw [if_neg h1] at h'
      cases e : cutF z with
      | none => exact fun hm => by rcases List.mem_cons.mp hm with h4 | h4; exact h1 h4.symm; exact cutF_is_none e h4
      | some q => rw [e] at h'; cases h'
end G_k92_records_as_lines

set_option Elab.async false
set_option linter.all false
set_option maxRecDepth 100000
set_option maxHeartbeats 2000000
namespace G_k92_records_as_lines
open PySem L2 Wy
open SX (S S_len S_cat S_inj in_one int_S num_S)
local macro_rules | `(tactic| walk_at "lits") => `(tactic| simp only [li0, li1, li2, li3, li4, li5, li6, li7, li8, li9, li10, li11, li12, li13, li14, li15, li16, li17, li18, li19, li20, li21, li22, li23, li24, li25, li26, li27, li28, li29, li30, li31, li32])
local macro_rules | `(tactic| walk_at "wx") => `(tactic| simp only [x_seq, x_asg, x_asgS, x_ret, x_retN, x_ifS, x_next, x_drop, x_break, x_cont, x_frz, x_c, x_op, x_un, x_if, x_nil, x_cons, x_tup, x_lst, x_call, x_on1, x_fn, x_and, x_or, x_not, x_bW, x_tru, x_no, x_part, x_andV, x_orV, x_notV, x_chain, x_sl, x_m1, x_iter, x_rng1, x_rng2, x_for, x_lc, x_par, x_repl, x_own,
  x_vF, x_vH, x_vF0, x_vH0, x_slFd, x_slHd, x_slFo, x_slHo, x_var0, x_varS, x_aug0, x_aug1, x_aug2, o_addI, o_iaddI, o_subI, o_mulI, o_divI, o_modI, o_negI, o_addL, o_addT, o_addS, o_iaddS, o_lenS, o_lenL, o_lenT, o_ltI, o_leI, o_gtI, o_geI, o_eqS, o_neS, o_eqI, o_neI, o_isN, o_notN, o_isBv, o_ordS, o_intI, o_strI, o_inC, o_ninC, items_S, items_L, items_T,
  List.set_cons_zero, List.set_cons_succ, List.length_cons, List.length_nil, startS, List.map_cons, List.map_nil, List.replicate_succ, List.replicate_zero, List.cons_append, List.nil_append, Nat.reduceAdd, Nat.reduceSub, putS, isNone, true_and, and_true, x_truB, x_truL, x_truT, eq_self, if_true, if_false, Bool.false_eq_true])


/-! read_record -/
theorem all_digs (r : List Nat) : (r.map fun c => PyData.bool (decide (c ∈ digs))) = (r.map isDig).map PyData.bool := by
  rw [List.map_map]
  exact List.map_congr_left fun c _ => by show PyData.bool _ = PyData.bool _; rw [digs_in]; rfl
theorem boolsD_map : ∀ bs : List Bool, boolsD (bs.map PyData.bool) = some bs
  | [] => rfl
  | b :: bs => by show (boolsD (bs.map PyData.bool)).map (b :: ·) = _; rw [boolsD_map bs]; rfl
theorem drop_drop' (p : List Nat) (a b : Nat) : (p.drop a).drop b = p.drop (a + b) := by rw [List.drop_drop]
theorem get_drop {p : List Nat} {n : Nat} {c : Nat} (h : p[n]? = some c) : (p.drop n)[0]? = some c := by rw [List.getElem?_drop, Nat.add_zero]; exact h
/-- the program's reading of what stands ahead of the newline -/
theorem lineF_short {p : List Nat} {e : Nat} (h : p.length < 5) : lineF p e = .none := by unfold lineF; rw [if_pos (Or.inl h)]
theorem lineF_bad {p : List Nat} {e : Nat} (h : ¬ p.take 4 = CK (p.drop 4)) : lineF p e = .none := by unfold lineF; rw [if_pos (Or.inr h)]
theorem lineF_add {p : List Nat} {e : Nat} (h1 : 5 ≤ p.length) (h2 : p.take 4 = CK (p.drop 4)) (h3 : p[4]? = some 43) : lineF p e = match plainF (p.drop 5) with | some t => .tuple [(Deed.add t).d, .int (e + 1 : Nat)] | none => .none := by
  unfold lineF
  rw [if_neg (fun h => by rcases h with h | h; omega; exact h h2), if_pos h3]
  all_goals (cases plainF (List.drop 5 p) <;> rfl)
theorem lineF_drop {p : List Nat} {e : Nat} (h1 : 5 ≤ p.length) (h2 : p.take 4 = CK (p.drop 4)) (h3 : p[4]? ≠ some 43) : lineF p e = if p[4]? = some 45 ∧ figs (p.drop 5) = true then .tuple [(Deed.drop (NumText.digitsVal (p.drop 5))).d, .int (e + 1 : Nat)] else .none := by
  unfold lineF
  rw [if_neg (fun h => by rcases h with h | h; omega; exact h h2), if_neg h3]
theorem sp_read_record {z : List Nat} {k : Nat} {Q : D → Prop} (hz : z.length ≤ 300) (hk : k ≤ z.length) (h : Q (readF z k)) : w_read_record [.str (S z), .int (k : Nat)] Q := by
  unfold w_read_record
  rw [x_fnW]
  walk_at "lits"
  walk_at "wx"
  refine while_rule (fun m ρ => ∃ (p : List Nat) (e : Nat), m = z.length - e ∧ e = k + p.length ∧ 10 ∉ p ∧ z.drop k = p ++ z.drop e ∧ e ≤ z.length ∧ ρ = [some (.dat (.str (S z))), some (.dat (.int (k : Nat))), some (.dat (.int (e : Nat))), none, none, none, none])
    (fun ρ => ∃ (p : List Nat) (e : Nat), e = k + p.length ∧ 10 ∉ p ∧ z.drop k = p ++ z.drop e ∧ e ≤ z.length ∧ (z.length ≤ e ∨ z[e]? = some 10) ∧ ρ = [some (.dat (.str (S z))), some (.dat (.int (k : Nat))), some (.dat (.int (e : Nat))), none, none, none, none])
    ⟨_, [], k, rfl, rfl, by simp, rfl, hk, rfl⟩ ?_ ?_
  · rintro X hX m ρ ⟨p, e, rfl, he, hp, hd, hl, rfl⟩
    walk_at "wx"
    refine ⟨by omega, ?_⟩
    by_cases hlt : e < z.length
    · rw [if_pos (by simpa using hlt)]
      cases ed : z.drop e with
      | nil =>
        have := congrArg List.length ed
        rw [List.length_drop] at this
        simp at this; omega
      | cons c r =>
        obtain ⟨g1, g2, g3⟩ := drop_get ed
        simp only [o_ixS (at_nat g1), o_neS]
        refine ⟨by omega, ?_⟩
        by_cases h1 : c = 10
        · subst h1
          rw [if_neg (by decide)]
          exact hX _ ⟨p, e, he, hp, hd, hl, Or.inr g1, rfl⟩
        · rw [if_pos (by simpa using h1)]
          refine ⟨rfl, _, ?_, p ++ [c], e + 1, rfl, by rw [List.length_append, List.length_singleton]; omega, ?_, ?_, by omega, rfl⟩
          · omega
          · intro hm
            rcases List.mem_append.mp hm with hm | hm
            · exact hp hm
            · exact h1 (List.mem_singleton.mp hm).symm
          · rw [hd, ed, List.append_assoc, g2]; rfl
    · rw [if_neg (by simpa using hlt)]
      exact hX _ ⟨p, e, he, hp, hd, hl, Or.inl (by omega), rfl⟩
  · rintro ρ ⟨p, e, he, hp, hd, hl, hor, rfl⟩
    walk_at "wx"
    have eb : (z.drop (k + 4)).take (e - (k + 4)) = p.drop 4 := by
      rw [← List.drop_drop, hd]
      by_cases h4 : 4 ≤ p.length
      · rw [List.drop_append_of_le_length h4, List.take_append_of_le_length (by rw [List.length_drop]; omega), List.take_of_length_le (by rw [List.length_drop]; omega)]
      · rw [show e - (k + 4) = 0 by omega, List.take_zero, List.drop_of_length_le (by omega)]
    rw [o_slMid (by omega) (by omega), show ((k : Int) + 4).toNat = k + 4 by omega, Int.toNat_natCast, eb]
    refine ⟨by omega, by omega, ?_⟩
    by_cases hge : z.length ≤ e
    · rw [if_pos (by simpa using hge)]
      have : cutF (z.drop k) = none := by
        rw [hd, List.drop_of_length_le hge, List.append_nil]
        exact cutF_none hp
      unfold readF at h
      rw [this] at h
      exact h
    rw [if_neg (by simpa using hge)]
    have g1 : z[e]? = some 10 := by rcases hor with h1 | h1; exact absurd h1 hge; exact h1
    have hc : cutF (z.drop k) = some p := by
      rw [hd]
      have e2 : z.drop e = 10 :: z.drop (e + 1) := by
        rw [List.drop_eq_getElem_cons (by omega)]
        rw [List.getElem?_eq_getElem (by omega)] at g1
        rw [Option.some.inj g1]
      rw [e2]
      exact cutF_app _ hp
    unfold readF at h
    rw [hc] at h
    dsimp only at h
    rw [← he] at h
    walk_at "wx"
    refine ⟨by rw [List.length_drop]; omega, ?_⟩
    by_cases h0 : p.length < 5
    · rw [lineF_short h0] at h
      rw [if_pos (by rw [List.length_drop]; simp; omega)]
      exact h
    rw [if_neg (by rw [List.length_drop]; simp; omega)]
    rw [o_slMid (by omega) (by omega), show ((k : Int) + 4).toNat = k + 4 by omega, Int.toNat_natCast, show k + 4 - k = 4 by omega, hd, List.take_append_of_le_length (by omega)]
    refine ⟨by omega, sp_check_of (by rw [List.length_drop]; omega) ?_⟩
    walk_at "wx"
    by_cases h1 : p.take 4 = CK (p.drop 4)
    case neg =>
      rw [lineF_bad h1] at h
      rw [if_pos (by simpa using h1)]
      exact h
    rw [if_neg (by simpa using h1)]
    obtain ⟨c, hc4⟩ : ∃ c, p[4]? = some c := ⟨p[4], List.getElem?_eq_getElem (by omega)⟩
    have hb0 : atI (p.drop 4) (0 : Int) = some c := at_nat (i := 0) (get_drop hc4)
    rw [o_ixS hb0]
    refine ⟨by rw [List.length_drop]; omega, ?_⟩
    walk_at "wx"
    have e5 : (p.drop 4).drop (1 : Int).toNat = p.drop 5 := by rw [List.drop_drop]; rfl
    by_cases h43 : c = 43
    · subst h43
      rw [lineF_add (by omega) h1 hc4] at h
      rw [if_pos (by decide), o_slFrom (by decide), e5]
      refine ⟨by rw [List.length_drop]; omega, sp_plain (by rw [List.length_drop]; omega) ?_⟩
      cases ep : plainF (p.drop 5) with
      | none => rw [ep] at h; exact h
      | some t => rw [ep] at h; exact ⟨by rw [sizeLine_eq]; decide, by rw [sizeLine_eq]; decide, h⟩
    rw [if_neg (by simpa using h43)]
    rw [lineF_drop (by omega) h1 (by rw [hc4]; simpa using h43)] at h
    rw [o_slFrom (by decide), e5]
    refine ⟨by rw [List.length_drop]; omega, ?_⟩
    rw [o_ixS hb0]
    refine ⟨by rw [List.length_drop]; omega, ?_⟩
    walk_at "wx"
    by_cases h45 : c = 45
    case neg =>
      rw [if_neg (fun x => h45 (by have := x.1; rw [hc4] at this; exact Option.some.inj this))] at h
      rw [if_pos (by simpa using h45)]
      exact h
    subst h45
    rw [if_neg (by decide)]
    generalize hr : p.drop 5 = r at h
    have hrl : r.length ≤ 300 := by rw [← hr, List.length_drop]; omega
    refine ⟨by omega, ?_⟩
    have comp : ∀ (a0 a1 a2 a3 a4 a5 a6 : Option D) (QL : List D → Prop), QL ((r.map isDig).map PyData.bool) → lcN (wipeD [a0, a1, a2, a3, a4, a5, a6] [6]) [6] uName wYes (wOp (oInB false) (wVar 6) (wC (.str (S [48, 49, 50, 51, 52, 53, 54, 55, 56, 57])))) (r.map fun c => PyData.str (S [c])) [] QL := by
      intro a0 a1 a2 a3 a4 a5 a6 QL hq
      refine lc_sel (fun _ => true) (fun d => match d with | .str x => .bool (isDig (x.cps.getD 0 0)) | _ => .none) _ _ (fun d hd => ?_) (by rw [List.length_map]; show 0 + _ ≤ _; omega) ?_
      · obtain ⟨c, _, rfl⟩ := List.mem_map.mp hd
        refine ⟨_, rfl, fun QB q => q, fun _ R q => ?_⟩
        show oInB false (.str (S [c])) (.str (S digs)) R
        rw [o_inC, digs_in]
        exact q
      · rw [List.nil_append, List.filter_eq_self.mpr (fun _ _ => rfl), List.map_map]
        rw [List.map_map] at hq
        exact hq
    have fin : (r.all isDig = true → figs r = true → Q (.tuple [(Deed.drop (NumText.digitsVal r)).d, .int (e + 1 : Nat)])) → (figs r = false → Q .none) → _ := fun h1 h2 => trivial
    have hN : figs r = false → Q .none := fun hf => by
      rw [if_neg (fun x => by have := x.2; rw [hf] at this; cases this)] at h
      exact h
    have hY : figs r = true → Q (.tuple [(Deed.drop (NumText.digitsVal r)).d, .int (e + 1 : Nat)]) := fun hf => by
      rw [if_pos ⟨hc4, hf⟩] at h
      exact h
    clear fin h
    by_cases l1 : 1 ≤ r.length
    case neg =>
      rw [if_neg (by rw [decide_eq_true_eq]; omega), if_pos (by decide)]
      exact hN (by unfold figs; simp only [l1, decide_false, Bool.false_and])
    rw [if_pos (by rw [decide_eq_true_eq]; omega)]
    by_cases l4 : r.length ≤ 4
    case neg =>
      rw [if_pos (by simp; omega)]
      exact hN (by unfold figs; simp [l4])
    rw [if_neg (by simp; omega)]
    refine comp _ _ _ _ _ _ _ _ ⟨_, boolsD_map _, ?_⟩
    walk_at "wx"
    rw [List.all_map, show (id ∘ isDig) = isDig from rfl]
    cases ha : r.all isDig with
    | false =>
      show Q .none
      exact hN (by unfold figs; simp [ha])
    | true =>
      rw [if_neg (by decide)]
      refine ⟨by omega, ?_⟩
      have num : figs r = true → oInt (.str (S r)) fun x => 2 ≤ sizeLine ∧ 2 ≤ sizeLine ∧ Q (.tuple [.tuple [.str (S [100, 114, 111, 112]), x], .int ((e : Int) + 1)]) := fun hf =>
        ⟨_, int_S ha (by intro e0; rw [e0] at l1; simp at l1) (by omega), by rw [S_len]; omega, by rw [sizeLine_eq]; decide, by rw [sizeLine_eq]; decide, hY hf⟩
      by_cases l2 : 1 < r.length
      case neg =>
        rw [if_neg (by rw [decide_eq_true_eq]; omega)]
        exact num (by unfold figs; simp only [l1, l4, l2, ha, decide_true, decide_false, Bool.and_true, Bool.false_and, Bool.not_false])
      rw [if_pos (by rw [decide_eq_true_eq]; omega)]
      obtain ⟨c0, r', er⟩ : ∃ c0 r', r = c0 :: r' := by
        cases r with
        | nil => simp at l1
        | cons c0 r' => exact ⟨c0, r', rfl⟩
      have g0 : atI r (0 : Int) = some c0 := by rw [er]; exact at_nat (i := 0) rfl
      rw [o_ixS g0]
      refine ⟨by omega, ?_⟩
      walk_at "wx"
      by_cases h48 : c0 = 48
      · rw [if_pos (by simpa using h48)]
        exact hN (by unfold figs; rw [er] at l2 ⊢; subst h48; simp only [l2, List.head?_cons, decide_true, Bool.and_true, Bool.not_true, Bool.and_false])
      · rw [if_neg (by simpa using h48)]
        exact num (by
          have : decide (r.head? = some 48) = false := decide_eq_false (by rw [er]; simpa using h48)
          unfold figs; simp only [l1, l4, ha, this, decide_true, Bool.and_true, Bool.and_false, Bool.not_false])
end G_k92_records_as_lines

set_option Elab.async false
set_option linter.all false
set_option maxRecDepth 100000
set_option maxHeartbeats 2000000
namespace G_k92_records_as_lines
open PySem L2 Wy
open SX (S S_len S_cat S_inj in_one int_S num_S)
local macro_rules | `(tactic| walk_at "lits") => `(tactic| simp only [li0, li1, li2, li3, li4, li5, li6, li7, li8, li9, li10, li11, li12, li13, li14, li15, li16, li17, li18, li19, li20, li21, li22, li23, li24, li25, li26, li27, li28, li29, li30, li31, li32])
local macro_rules | `(tactic| walk_at "wx") => `(tactic| simp only [x_seq, x_asg, x_asgS, x_ret, x_retN, x_ifS, x_next, x_drop, x_break, x_cont, x_frz, x_c, x_op, x_un, x_if, x_nil, x_cons, x_tup, x_lst, x_call, x_on1, x_fn, x_and, x_or, x_not, x_bW, x_tru, x_no, x_part, x_andV, x_orV, x_notV, x_chain, x_sl, x_m1, x_iter, x_rng1, x_rng2, x_for, x_lc, x_par, x_repl, x_own,
  x_vF, x_vH, x_vF0, x_vH0, x_slFd, x_slHd, x_slFo, x_slHo, x_var0, x_varS, x_aug0, x_aug1, x_aug2, o_addI, o_iaddI, o_subI, o_mulI, o_divI, o_modI, o_negI, o_addL, o_addT, o_addS, o_iaddS, o_lenS, o_lenL, o_lenT, o_ltI, o_leI, o_gtI, o_geI, o_eqS, o_neS, o_eqI, o_neI, o_isN, o_notN, o_isBv, o_ordS, o_intI, o_strI, o_inC, o_ninC, items_S, items_L, items_T,
  List.set_cons_zero, List.set_cons_succ, List.length_cons, List.length_nil, startS, List.map_cons, List.map_nil, List.replicate_succ, List.replicate_zero, List.cons_append, List.nil_append, Nat.reduceAdd, Nat.reduceSub, putS, isNone, true_and, and_true, x_truB, x_truL, x_truT, eq_self, if_true, if_false, Bool.false_eq_true])


/-! the law's own reading -/
def posns : List Nat → Nat → List D
  | [], _ => []
  | c :: q, k => if c = 10 then .int (k : Nat) :: posns q (k + 1) else posns q (k + 1)
theorem posns_flat : ∀ (q : List Nat) (k : Nat), ∀ d ∈ posns q k, flatOk d
  | c :: q, k, d, h => by
    unfold posns at h
    split at h
    · rcases List.mem_cons.mp h with rfl | h
      · trivial
      · exact posns_flat q _ d h
    · exact posns_flat q _ d h
theorem posns_none : ∀ (q : List Nat) (k : Nat), cutF q = none → posns q k = []
  | [], _, _ => rfl
  | c :: q, k, h => by
    have h' : (if c = 10 then some [] else (cutF q).map (c :: ·)) = none := h
    by_cases h1 : c = 10
    · rw [if_pos h1] at h'; cases h'
    · rw [if_neg h1] at h'
      unfold posns
      rw [if_neg h1]
      exact posns_none q _ (by cases e : cutF q; rfl; rw [e] at h'; cases h')
theorem posns_some : ∀ (q : List Nat) (k : Nat) (p : List Nat), cutF q = some p → ∃ r, posns q k = .int (k + p.length : Nat) :: r
  | c :: q, k, p, h => by
    have h' : (if c = 10 then some [] else (cutF q).map (c :: ·)) = some p := h
    unfold posns
    by_cases h1 : c = 10
    · rw [if_pos h1] at h'; cases h'
      rw [if_pos h1]
      exact ⟨_, rfl⟩
    · rw [if_neg h1] at h'
      rw [if_neg h1]
      cases e : cutF q with
      | none => rw [e] at h'; cases h'
      | some p' =>
        rw [e] at h'; cases h'
        obtain ⟨r, hr⟩ := posns_some q (k + 1) p' e
        refine ⟨r, ?_⟩
        rw [hr, List.length_cons]
        congr 3
        omega
def isNl (z : List Nat) : D → Bool
  | .int i => decide (z[i.toNat]? = some 10)
  | _ => false
theorem posns_sel (z : List Nat) : ∀ (q : List Nat) (k : Nat), z.drop k = q → ((rangeD (k : Nat) q.length).filter (isNl z)).map id = posns q k
  | [], k, _ => rfl
  | c :: q, k, h => by
    obtain ⟨g1, g2, g3⟩ := drop_get h
    rw [List.length_cons, rangeD_succ]
    have ih := posns_sel z q (k + 1) g2
    have e : ((k : Nat) : Int) + 1 = ((k + 1 : Nat) : Int) := rfl
    have e1 : isNl z (.int (k : Nat)) = decide (c = 10) := by
      show decide (z[((k : Nat) : Int).toNat]? = some 10) = _
      rw [Int.toNat_natCast, g1]
      by_cases h1 : c = 10 <;> simp [h1]
    unfold posns
    by_cases h1 : c = 10
    · rw [List.filter_cons_of_pos (by rw [e1]; simpa using h1), List.map_cons, e, ih, if_pos h1]; rfl
    · rw [List.filter_cons_of_neg (by rw [e1]; simpa using h1), e, ih, if_neg h1]
def notDig : D → Bool
  | .str x => !isDig (x.cps.getD 0 0)
  | _ => false
theorem mem_rangeD {lo : Nat} {n : Nat} {d : D} (h : d ∈ rangeD lo n) : ∃ i : Nat, d = .int (i : Nat) ∧ lo ≤ i ∧ i < lo + n := by
  unfold rangeD at h
  obtain ⟨i, hi, rfl⟩ := List.mem_map.mp h
  exact ⟨lo + i, rfl, by omega, by have := List.mem_range.mp hi; omega⟩
theorem idx10 : ∀ c : Nat, 48 ≤ c → c ≤ 57 → ∃ rest, Builtin.Str.occurrences (S digs) (S [c]) 0 (S digs).length 1 = (c - 48) :: rest := by
  intro c h1 h2
  have : c = 48 ∨ c = 49 ∨ c = 50 ∨ c = 51 ∨ c = 52 ∨ c = 53 ∨ c = 54 ∨ c = 55 ∨ c = 56 ∨ c = 57 := by omega
  rcases this with h | h | h | h | h | h | h | h | h | h <;> subst h <;> exact ⟨[], by decide +kernel⟩
theorem sp_law_read {z : List Nat} {k : Nat} {Q : D → Prop} (hz : z.length ≤ 300) (hs : ∀ c ∈ z, c < 128) (hk : k ≤ z.length) (h : Q (readF z k)) : w__law_read [.str (S z), .int (k : Nat)] Q := by
  unfold w__law_read
  rw [x_fnW]
  walk_at "lits"
  walk_at "wx"
  refine ⟨by omega, ⟨by omega, by omega, by omega, by omega⟩, ?_⟩
  refine lc_sel (isNl z) id _ _ (fun d hd => ?_) ?_ ?_
  · have e : ((z.length : Int) - (k : Int)).toNat = z.length - k := by omega
    rw [e] at hd
    obtain ⟨i, rfl, h1, h2⟩ := mem_rangeD hd
    refine ⟨_, rfl, fun QB q => ?_, fun _ R q => q⟩
    obtain ⟨c, hc⟩ : ∃ c, z[i]? = some c := ⟨z[i], List.getElem?_eq_getElem (by omega)⟩
    show bW _ [_, _, _, _, _, _, _, _, _, some (.int (i : Nat))] QB
    walk_at "wx"
    rw [o_ixS (at_nat hc)]
    refine ⟨by omega, ?_⟩
    walk_at "wx"
    have : isNl z (.int (i : Nat)) = decide ([c] = [10]) := by
      show decide (z[((i : Nat) : Int).toNat]? = some 10) = _
      rw [Int.toNat_natCast, hc]
      by_cases h1 : c = 10 <;> simp [h1]
    rw [this] at q
    exact q
  · unfold rangeD
    rw [List.length_map, List.length_range]
    show 0 + _ ≤ _
    omega
  rw [List.nil_append, show ((z.length : Int) - (k : Int)).toNat = (z.drop k).length by rw [List.length_drop]; omega, posns_sel z _ k rfl]
  try walk_at "wx"
  rw [o_eqNil (posns_flat _ _)]
  unfold readF at h
  cases hc : cutF (z.drop k) with
  | none =>
    rw [hc] at h
    rw [posns_none _ _ hc]
    exact ⟨Nat.zero_le _, h⟩
  | some p =>
    rw [hc] at h
    obtain ⟨rest, hr⟩ := posns_some _ k p hc
    rw [hr]
    obtain ⟨hp, r2, hd⟩ := cutF_some hc
    dsimp only at h ⊢
    refine ⟨Nat.zero_le _, ?_⟩
    rw [if_neg (by rw [List.isEmpty_cons]; decide)]
    have hix : atI (PyData.int ((k + p.length : Nat) : Int) :: rest) (0 : Int) = some (.int (k + p.length : Nat)) := ix0
    simp only [o_ixL hix]
    rw [o_slMid (by omega) (by omega), Int.toNat_natCast, Int.toNat_natCast, show k + p.length - k = p.length by omega, hd, List.take_append_of_le_length (Nat.le_refl _), List.take_length]
    have hpl : p.length ≤ 300 := by
      have := congrArg List.length hd
      rw [List.length_drop, List.length_append] at this
      omega
    have hpc : ∀ c ∈ p, c < 128 := fun c hc => hs c (List.mem_of_mem_drop (show c ∈ z.drop k by rw [hd]; exact List.mem_append_left _ hc))
    refine ⟨by omega, ?_⟩
    walk_at "wx"
    refine ⟨by omega, ?_⟩
    by_cases h0 : p.length < 5
    · rw [lineF_short h0] at h
      rw [if_pos (by rw [decide_eq_true_eq]; omega)]
      exact h
    rw [if_neg (by rw [decide_eq_true_eq]; omega), o_slTo (by decide), o_slFrom (by decide)]
    refine ⟨by omega, by omega, sp_law_check (by rw [List.length_drop]; omega) ?_⟩
    walk_at "wx"
    rw [show (4 : Int).toNat = 4 from rfl]
    by_cases h1 : p.take 4 = CK (p.drop 4)
    case neg =>
      rw [lineF_bad h1] at h
      rw [if_pos (by simpa using h1)]
      exact h
    rw [if_neg (by simpa using h1)]
    obtain ⟨c, hc4⟩ : ∃ c, p[4]? = some c := ⟨p[4], List.getElem?_eq_getElem (by omega)⟩
    have hb0 : atI p (4 : Int) = some c := at_nat (i := 4) hc4
    simp only [o_ixS hb0]
    refine ⟨by omega, ?_⟩
    walk_at "wx"
    by_cases h43 : c = 43
    · subst h43
      rw [lineF_add (by omega) h1 hc4] at h
      rw [if_neg (by decide)]
      refine ⟨by omega, ?_⟩
      rw [if_pos (by decide), o_slFrom (by decide)]
      refine ⟨by omega, sp_law_plain (by rw [List.length_drop]; omega) ?_⟩
      rw [show (5 : Int).toNat = 5 from rfl]
      cases ep : plainF (p.drop 5) with
      | none => rw [ep] at h; exact h
      | some t => rw [ep] at h; exact ⟨by rw [sizeLine_eq]; decide, by rw [sizeLine_eq]; decide, h⟩
    rw [lineF_drop (by omega) h1 (by rw [hc4]; simpa using h43)] at h
    by_cases h45 : c = 45
    case neg =>
      rw [if_neg (fun x => h45 (by have := x.1; rw [hc4] at this; exact Option.some.inj this))] at h
      rw [if_pos (by simp; exact ⟨h43, h45⟩)]
      exact h
    subst h45
    rw [if_neg (by decide)]
    refine ⟨by omega, ?_⟩
    rw [if_neg (by decide), o_slFrom (by decide), show (5 : Int).toNat = 5 from rfl]
    have hrc : ∀ c ∈ p.drop 5, c < 128 := fun c hc => hpc c (List.mem_of_mem_drop hc)
    have hrl : (p.drop 5).length ≤ 300 := by rw [List.length_drop]; omega
    generalize p.drop 5 = r at h hrc hrl
    refine ⟨by omega, ?_⟩
    walk_at "wx"
    refine ⟨by omega, ?_⟩
    have hN : figs r = false → Q .none := fun hf => by
      rw [if_neg (fun x => by have := x.2; rw [hf] at this; cases this)] at h
      exact h
    have hY : figs r = true → Q (.tuple [(Deed.drop (NumText.digitsVal r)).d, .int (k + p.length + 1 : Nat)]) := fun hf => by
      rw [if_pos ⟨hc4, hf⟩] at h
      exact h
    clear h
    by_cases l1 : 1 ≤ r.length
    case neg =>
      have f0 : figs r = false := by unfold figs; simp only [l1, decide_false, Bool.false_and]
      rw [if_neg (by rw [decide_eq_true_eq]; omega)]
      exact hN f0
    rw [if_pos (by rw [decide_eq_true_eq]; omega)]
    by_cases l4 : r.length ≤ 4
    case neg =>
      have f0 : figs r = false := by unfold figs; simp only [l4, decide_false, Bool.false_and, Bool.and_false]
      rw [if_neg (by rw [decide_eq_true_eq]; omega)]
      exact hN f0
    rw [if_pos (by rw [decide_eq_true_eq]; omega)]
    refine lc_sel notDig id _ _ (fun d hd => ?_) (by rw [List.length_map]; show 0 + _ ≤ _; omega) ?_
    · obtain ⟨c, _, rfl⟩ := List.mem_map.mp hd
      refine ⟨_, rfl, fun QB q => ?_, fun _ R q => q⟩
      show oInB true (.str (S [c])) (.str (S digs)) (fun d => match d with | .bool k => QB k | _ => False)
      rw [o_ninC, digs_in]
      exact q
    have hnd : ([] : List D) ++ (((r.map fun c => PyData.str (S [c])).filter notDig).map id) = (r.filter fun c => !isDig c).map fun c => PyData.str (S [c]) := by
      rw [List.nil_append, List.map_id, List.filter_map]; rfl
    rw [hnd, o_eqNil (fun d hd => by
      obtain ⟨c, hc, rfl⟩ := List.mem_map.mp hd
      exact strOk_S fun x hx => by rw [List.mem_singleton] at hx; subst hx; have := hrc x (List.mem_filter.mp hc).1; omega)]
    refine ⟨Nat.zero_le _, ?_⟩
    walk_at "wx"
    rw [List.isEmpty_map]
    cases ha : r.all isDig with
    | false =>
      have : (r.filter fun c => !isDig c).isEmpty = false := by
        cases e : (r.filter fun c => !isDig c) with
        | nil =>
          have := List.filter_eq_nil_iff.mp e
          have h2 : r.all isDig = true := List.all_eq_true.mpr fun x hx => by simpa using this x hx
          rw [ha] at h2; cases h2
        | cons => rfl
      rw [this]
      exact hN (by unfold figs; simp [ha])
    | true =>
      have hall := List.all_eq_true.mp ha
      have : (r.filter fun c => !isDig c) = [] := List.filter_eq_nil_iff.mpr fun x hx => by simp [hall x hx]
      rw [this, if_neg (by decide)]
      refine ⟨by omega, ?_⟩
      have num : figs r = true → forD [8] uName (wAsg 7 (wOp oAdd (wOp oMul (wVar 7) (wC (.int 10))) (wM1 oSIndex (wC (.str (S [48, 49, 50, 51, 52, 53, 54, 55, 56, 57]))) (wVar 8)))) (r.map fun c => PyData.str (S [c]))
          [some (.dat (.str (S z))), some (.dat (.int (k : Nat))), some (.dat (.list (.int (k + p.length : Nat) :: rest))), some (.dat (.str (S p))), none, some (.dat (.str (S r))), some (.dat (.bool true)), some (.dat (.int 0)), none, none]
          { nx := fun ρ' => wVar 7 (vF ρ') fun x => 2 ≤ sizeLine ∧ wVar 2 (vF ρ') fun x1 => oIx x1 (.int 0) fun x2 => oAdd x2 (.int 1) fun x3 => 2 ≤ sizeLine ∧ Q (.tuple [.tuple [.str (S [100, 114, 111, 112]), x], x3]), rt := Q } := by
        intro hf
        refine for_inv (fun ds ρ => ∃ (q : List Nat) (n : Nat) (a : Option Sl), ds = q.map (fun c => PyData.str (S [c])) ∧ (∀ c ∈ q, isDig c = true) ∧ ρ = [some (.dat (.str (S z))), some (.dat (.int (k : Nat))), some (.dat (.list (.int (k + p.length : Nat) :: rest))), some (.dat (.str (S p))), none, some (.dat (.str (S r))), some (.dat (.bool true)), some (.dat (.int (n : Nat))), a, none] ∧ q.foldl (fun acc c => acc * 10 + (c - 48)) n = NumText.digitsVal r) ?_ ?_ _ _ ⟨r, 0, none, rfl, hall, rfl, rfl⟩
        · rintro d ds ρ ⟨q, n, a, e, hq, rfl, hv⟩ P' hn _ _ _
          cases q with
          | nil => cases e
          | cons c q =>
            cases e
            refine ⟨_, rfl, ?_⟩
            walk_at "wx"
            have hc := hq c List.mem_cons_self
            have hc2 : 48 ≤ c ∧ c ≤ 57 := by unfold isDig at hc; simpa using hc
            obtain ⟨rs, hrs⟩ := idx10 c hc2.1 hc2.2
            refine ⟨.inr ⟨by decide, by decide⟩, c - 48, rs, hrs, hn _ ⟨q, n * 10 + (c - 48), some (.dat (.str (S [c]))), rfl, fun x hx => hq x (List.mem_cons_of_mem _ hx), rfl, hv⟩⟩
        · rintro ρ ⟨q, n, a, e, hq, rfl, hv⟩
          cases q with
          | cons c q => cases e
          | nil =>
            replace hv : n = NumText.digitsVal r := hv
            walk_at "wx"
            rw [hv, o_ixL hix]
            exact ⟨by rw [sizeLine_eq]; decide, by rw [sizeLine_eq]; decide, hY hf⟩
      by_cases l2 : 1 < r.length
      case neg =>
        rw [if_neg (by rw [decide_eq_true_eq]; omega)]
        exact num (by unfold figs; simp only [l1, l4, l2, ha, decide_true, decide_false, Bool.and_true, Bool.false_and, Bool.not_false])
      rw [if_pos (by rw [decide_eq_true_eq]; omega)]
      obtain ⟨c0, r', er⟩ : ∃ c0 r', r = c0 :: r' := by
        cases r with
        | nil => simp at l1
        | cons c0 r' => exact ⟨c0, r', rfl⟩
      have g0 : atI r (0 : Int) = some c0 := by rw [er]; exact at_nat (i := 0) rfl
      rw [o_ixS g0]
      refine ⟨by omega, ?_⟩
      rw [o_eqS]
      by_cases h48 : c0 = 48
      · subst h48
        exact hN (by
          have : decide (r.head? = some 48) = true := decide_eq_true (by rw [er]; rfl)
          unfold figs; simp only [l1, l4, l2, ha, this, decide_true, Bool.and_true, Bool.not_true, Bool.and_false])
      · have : decide ([c0] = [48]) = false := decide_eq_false (by simpa using h48)
        rw [this]
        exact num (by
          have : decide (r.head? = some 48) = false := decide_eq_false (by rw [er]; simpa using h48)
          unfold figs; simp only [l1, l4, ha, this, decide_true, Bool.and_true, Bool.and_false, Bool.not_false])
end G_k92_records_as_lines

set_option Elab.async false
set_option linter.all false
set_option maxRecDepth 100000
set_option maxHeartbeats 2000000
namespace G_k92_records_as_lines
open PySem L2 Wy
open SX (S S_len S_cat S_inj in_one int_S num_S)
local macro_rules | `(tactic| walk_at "lits") => `(tactic| simp only [li0, li1, li2, li3, li4, li5, li6, li7, li8, li9, li10, li11, li12, li13, li14, li15, li16, li17, li18, li19, li20, li21, li22, li23, li24, li25, li26, li27, li28, li29, li30, li31, li32])
local macro_rules | `(tactic| walk_at "wx") => `(tactic| simp only [x_seq, x_asg, x_asgS, x_ret, x_retN, x_ifS, x_next, x_drop, x_break, x_cont, x_frz, x_c, x_op, x_un, x_if, x_nil, x_cons, x_tup, x_lst, x_call, x_on1, x_fn, x_and, x_or, x_not, x_bW, x_tru, x_no, x_part, x_andV, x_orV, x_notV, x_chain, x_sl, x_m1, x_iter, x_rng1, x_rng2, x_for, x_lc, x_par, x_repl, x_own,
  x_vF, x_vH, x_vF0, x_vH0, x_slFd, x_slHd, x_slFo, x_slHo, x_var0, x_varS, x_aug0, x_aug1, x_aug2, o_addI, o_iaddI, o_subI, o_mulI, o_divI, o_modI, o_negI, o_addL, o_addT, o_addS, o_iaddS, o_lenS, o_lenL, o_lenT, o_ltI, o_leI, o_gtI, o_geI, o_eqS, o_neS, o_eqI, o_neI, o_isN, o_notN, o_isBv, o_ordS, o_intI, o_strI, o_inC, o_ninC, items_S, items_L, items_T,
  List.set_cons_zero, List.set_cons_succ, List.length_cons, List.length_nil, startS, List.map_cons, List.map_nil, List.replicate_succ, List.replicate_zero, List.cons_append, List.nil_append, Nat.reduceAdd, Nat.reduceSub, putS, isNone, true_and, and_true, x_truB, x_truL, x_truT, eq_self, if_true, if_false, Bool.false_eq_true])


/-! the law's comparison -/
def sameOk : Nat → D → Prop
  | 0, _ => False
  | _ + 1, .none => True
  | _ + 1, .bool _ => True
  | _ + 1, .int i => i.natAbs.log2 < 1920
  | _ + 1, .str x => (reprText x).length ≤ sizeLine
  | n + 1, .tuple ds => ds.length < 2 ^ 62 ∧ ∀ d ∈ ds, sameOk n d
  | n + 1, .list ds => ds.length < 2 ^ 62 ∧ ∀ d ∈ ds, sameOk n d
  | _ + 1, .dict _ => False
theorem sp_same : ∀ (n : Nat) (d : D) (Q : D → Prop), sameOk n d → Q (.bool true) → w__law_same n [d, d] Q
  | n + 1, d, Q, hd, h => by
    show bb__law_same (w__law_same n) [d, d] Q
    unfold bb__law_same
    rw [x_fnW]
    have loop : ∀ (a : D) (ds : List D) (P : PsW), (∀ d ∈ ds, sameOk n d) → (∀ (i : Nat) (x : D) (R : D → Prop), ds[i]? = some x → R x → oIx a (.int (i : Nat)) R) → (∀ ρ, P.nx ρ) →
        forD [2] uName (wIfS (wNot (wTru (wFn 2 (w__law_same n) (wCons (wOp oIx (wVar 0) (wVar 2)) (wCons (wOp oIx (wVar 1) (wVar 2)) wNil))))) (wRet (wC (.bool false))) wNext) (rangeD 0 ((ds.length : Int)).toNat) [some (.dat a), some (.dat a), none] P := by
      intro a ds P hds hix hP
      refine for_inv (fun r ρ => ∃ (b : Option Sl), (∀ d ∈ r, d ∈ rangeD ((0 : Nat) : Int) ds.length) ∧ ρ = [some (.dat a), some (.dat a), b]) ?_ (fun ρ _ => hP ρ) _ _ ⟨none, fun d hd => by rw [Int.toNat_natCast] at hd; exact hd, rfl⟩
      rintro d r ρ ⟨b, hr, rfl⟩ P' hn _ _ _
      obtain ⟨i, rfl, _, hi⟩ := mem_rangeD (hr d List.mem_cons_self)
      obtain ⟨x, hx⟩ : ∃ x, ds[i]? = some x := ⟨ds[i], List.getElem?_eq_getElem (by omega)⟩
      refine ⟨_, rfl, ?_⟩
      walk_at "wx"
      refine hix i x _ hx (hix i x _ hx (sp_same n x _ (hds x (List.mem_of_getElem? hx)) ?_))
      exact hn _ ⟨_, fun d hd => hr d (List.mem_cons_of_mem _ hd), rfl⟩
    cases d with
    | none =>
      walk_at "wx"
      exact h
    | bool k =>
      cases k
      · walk_at "wx"
        exact h
      · walk_at "wx"
        exact h
    | int i =>
      walk_at "wx"
      simp only [isi_i, isBool, sEq, BEq.rfl, x_truB, Bool.false_eq_true, if_false, if_true, o_reprI, Bool.not_false]
      refine ⟨hd, hd, ?_⟩
      rw [o_eqSr, BEq.rfl]
      exact h
    | str x =>
      walk_at "wx"
      simp only [isi_s, isBool, sEq, BEq.rfl, x_truB, Bool.false_eq_true, if_false, if_true, o_repr]
      refine ⟨hd, hd, ?_⟩
      rw [o_eqSr, BEq.rfl]
      exact h
    | list ds =>
      walk_at "wx"
      simp only [isi_l, isBool, sEq, BEq.rfl, x_truB, Bool.false_eq_true, if_false, if_true, decide_true, Bool.not_true]
      refine ⟨⟨by omega, by have := hd.1; omega⟩, loop _ ds _ hd.2 (fun i x R hx hR => ⟨x, at_nat hx, hR⟩) (fun ρ => h)⟩
    | tuple ds =>
      walk_at "wx"
      simp only [isi_t, isBool, sEq, BEq.rfl, x_truB, Bool.false_eq_true, if_false, if_true, decide_true, Bool.not_true]
      refine ⟨⟨by omega, by have := hd.1; omega⟩, loop _ ds _ hd.2 (fun i x R hx hR => ⟨x, at_nat hx, hR⟩) (fun ρ => h)⟩
    | dict _ => exact hd.elim
/-! draws -/
theorem sp_pick {xs : List D} {Q : D → Prop} (hl : xs.length ≤ 1000) (h0 : 0 < xs.length) (h : ∀ x ∈ xs, Q x) : w__law_pick [bxD, .list xs] Q := by
  unfold w__law_pick
  rw [x_fnW]
  walk_at "wx"
  refine ⟨rfl, by decide, fun r r0 r1 => ?_⟩
  walk_at "wx"
  refine ⟨by omega, ?_⟩
  have h1 : 0 ≤ r % (xs.length : Int) := Int.emod_nonneg _ (by omega)
  have h2 : r % (xs.length : Int) < xs.length := Int.emod_lt_of_pos _ (by omega)
  have e : r % (xs.length : Int) = ((r % (xs.length : Int)).toNat : Nat) := by omega
  have hlt : (r % (xs.length : Int)).toNat < xs.length := by omega
  rw [e]
  exact ⟨_, at_nat (List.getElem?_eq_getElem hlt), h _ (List.getElem_mem hlt)⟩
theorem sp_pickS {z : List Nat} {Q : D → Prop} (hl : z.length ≤ 1000) (h0 : 0 < z.length) (h : ∀ c ∈ z, Q (.str (S [c]))) : w__law_pick [bxD, .str (S z)] Q := by
  unfold w__law_pick
  rw [x_fnW]
  walk_at "wx"
  refine ⟨rfl, by decide, fun r r0 r1 => ?_⟩
  walk_at "wx"
  refine ⟨by omega, by omega, ?_⟩
  have h1 : 0 ≤ r % (z.length : Int) := Int.emod_nonneg _ (by omega)
  have h2 : r % (z.length : Int) < z.length := Int.emod_lt_of_pos _ (by omega)
  have e : r % (z.length : Int) = ((r % (z.length : Int)).toNat : Nat) := by omega
  have hlt : (r % (z.length : Int)).toNat < z.length := by omega
  rw [e, o_ixS (at_nat (List.getElem?_eq_getElem hlt))]
  exact ⟨by omega, h _ (List.getElem_mem hlt)⟩
theorem chars_of : ∀ {ys : List D}, (∀ y ∈ ys, ∃ c, c < 128 ∧ y = PyData.str (S [c])) → ∃ cs : List Nat, ys = cs.map (fun c => PyData.str (S [c])) ∧ ∀ c ∈ cs, c < 128
  | [], _ => ⟨[], rfl, fun _ h => by cases h⟩
  | y :: ys, h => by
    obtain ⟨c, hc, e⟩ := h y List.mem_cons_self
    obtain ⟨cs, e2, h2⟩ := chars_of (ys := ys) fun x hx => h x (List.mem_cons_of_mem _ hx)
    exact ⟨c :: cs, by rw [e, e2]; rfl, fun x hx => by rcases List.mem_cons.mp hx with rfl | hx; exact hc; exact h2 x hx⟩
theorem strsD_map {α : Type} (f : α → Str) : ∀ l : List α, strsD (l.map fun c => PyData.str (f c)) = some (l.map f)
  | [] => rfl
  | c :: l => by show (strsD _).map (f c :: ·) = _; rw [strsD_map f l]; rfl
theorem joinL_single : ∀ cs : List Nat, TL.joinL [] (cs.map fun c => [c]) = cs
  | [] => rfl
  | [c] => rfl
  | c :: d :: r => by
    have := joinL_single (d :: r)
    show [c] ++ [] ++ TL.joinL [] ((d :: r).map fun c => [c]) = _
    rw [this]; rfl
theorem sum_ones : ∀ cs : List Nat, ((cs.map fun c => S [c]).map (·.length)).sum = cs.length
  | [] => rfl
  | c :: cs => by
    rw [List.map_cons, List.map_cons, List.sum_cons, sum_ones cs, List.length_cons]
    show 1 + _ = _
    omega
theorem sp_signs {Q : D → Prop} (h : ∀ l : List Nat, l.length ≤ 10 → (∀ c ∈ l, c < 128) → Q (.str (S l))) : w__law_signs [bxD] Q := by
  unfold w__law_signs
  rw [x_fnW]
  walk_at "lits"
  walk_at "wx"
  refine ⟨by rw [sizeLine_eq]; decide, sp_pick (by decide) (by decide) ?_⟩
  have key : ∀ j : Nat, j ≤ 10 → ∀ QL : List D → Prop, (∀ cs : List Nat, cs.length = j → (∀ c ∈ cs, c < 128) → QL (cs.map fun c => PyData.str (S [c]))) →
      lcN (wipeD [some bxD, slF none] [1]) [1] uName wYes (wFn 2 w__law_pick (wCons (wVar 0) (wCons (wC (.str (S [97, 98, 49, 32, 46, 58, 45, 110, 92, 92, 10, 43]))) wNil))) (rangeD 0 j) [] QL := by
    intro j hj QL hQ
    refine lc_any (fun y => ∃ c, c < 128 ∧ y = PyData.str (S [c])) _ _ (fun d hd => ⟨_, rfl, fun R hR => ?_⟩) ?_ ?_
    · show 2 = 2 ∧ w__law_pick [bxD, .str (S [97, 98, 49, 32, 46, 58, 45, 110, 92, 92, 10, 43])] R
      refine ⟨rfl, sp_pickS (by decide) (by decide) fun c hc => hR _ ⟨c, ?_, rfl⟩⟩
      revert c
      decide
    · unfold rangeD
      rw [List.length_map, List.length_range]
      show 0 + _ ≤ _
      omega
    · intro ys hl hy
      obtain ⟨cs, e, hc⟩ := chars_of hy
      rw [e, List.nil_append]
      refine hQ cs ?_ hc
      have := congrArg List.length e
      rw [List.length_map] at this
      rw [← this, hl]
      unfold rangeD
      rw [List.length_map, List.length_range]
  have fin : ∀ j : Int, 0 ≤ j → j ≤ 10 → lcN (wipeD [some bxD, slF none] [1]) [1] uName wYes (wFn 2 w__law_pick (wCons (wVar 0) (wCons (wC (.str (S [97, 98, 49, 32, 46, 58, 45, 110, 92, 92, 10, 43]))) wNil))) (rangeD 0 j.toNat) [] fun l => fJoin (S []) (.list l) Q := fun j j0 j1 => by
    refine key j.toNat (by omega) _ fun cs hl hc => ⟨_, strsD_map (fun c => S [c]) cs, ?_, ?_⟩
    · rw [sum_ones]
      show cs.length + (cs.map _).length * 0 ≤ _
      omega
    · have : (cs.map fun c => S [c]) = (cs.map fun c => [c]).map S := by rw [List.map_map]; rfl
      rw [this, SX.join_S, joinL_single]
      exact h cs (by omega) hc
  intro x hx
  have : ∃ j : Int, x = .int j ∧ 0 ≤ j ∧ j ≤ 10 := by
    simp only [List.mem_cons, List.not_mem_nil, or_false] at hx
    rcases hx with rfl | rfl | rfl | rfl | rfl <;> exact ⟨_, rfl, by decide, by decide⟩
  obtain ⟨j, rfl, j0, j1⟩ := this
  exact ⟨⟨by omega, by omega⟩, fin j j0 j1⟩
end G_k92_records_as_lines

set_option Elab.async false
set_option linter.all false
set_option maxRecDepth 100000
set_option maxHeartbeats 2000000
namespace G_k92_records_as_lines
open PySem L2 Wy
open SX (S S_len S_cat S_inj in_one int_S num_S)
local macro_rules | `(tactic| walk_at "lits") => `(tactic| simp only [li0, li1, li2, li3, li4, li5, li6, li7, li8, li9, li10, li11, li12, li13, li14, li15, li16, li17, li18, li19, li20, li21, li22, li23, li24, li25, li26, li27, li28, li29, li30, li31, li32])
local macro_rules | `(tactic| walk_at "wx") => `(tactic| simp only [x_seq, x_asg, x_asgS, x_ret, x_retN, x_ifS, x_next, x_drop, x_break, x_cont, x_frz, x_c, x_op, x_un, x_if, x_nil, x_cons, x_tup, x_lst, x_call, x_on1, x_fn, x_and, x_or, x_not, x_bW, x_tru, x_no, x_part, x_andV, x_orV, x_notV, x_chain, x_sl, x_m1, x_iter, x_rng1, x_rng2, x_for, x_lc, x_par, x_repl, x_own,
  x_vF, x_vH, x_vF0, x_vH0, x_slFd, x_slHd, x_slFo, x_slHo, x_var0, x_varS, x_aug0, x_aug1, x_aug2, o_addI, o_iaddI, o_subI, o_mulI, o_divI, o_modI, o_negI, o_addL, o_addT, o_addS, o_iaddS, o_lenS, o_lenL, o_lenT, o_ltI, o_leI, o_gtI, o_geI, o_eqS, o_neS, o_eqI, o_neI, o_isN, o_notN, o_isBv, o_ordS, o_intI, o_strI, o_inC, o_ninC, items_S, items_L, items_T,
  List.set_cons_zero, List.set_cons_succ, List.length_cons, List.length_nil, startS, List.map_cons, List.map_nil, List.replicate_succ, List.replicate_zero, List.cons_append, List.nil_append, Nat.reduceAdd, Nat.reduceSub, putS, isNone, true_and, and_true, x_truB, x_truL, x_truT, eq_self, if_true, if_false, Bool.false_eq_true])


/-! signs of texts -/
theorem numL_chars (n : Nat) : ∀ c ∈ TL.numL n, 48 ≤ c ∧ c ≤ 57 := fun c hc => TL.numL_digits n c hc
theorem CK_chars (b : List Nat) : ∀ c ∈ CK b, 48 ≤ c ∧ c ≤ 57 := fun c hc => by
  rcases List.mem_append.mp hc with h | h
  · have := (List.mem_replicate.mp h).2; omega
  · exact numL_chars _ c h
theorem esc_chars {t : List Nat} (h : ∀ c ∈ t, c < 128) : ∀ c ∈ esc t, c < 128 ∧ c ≠ 10 := fun c hc => by
  obtain ⟨x, hx, h2⟩ := List.mem_flatMap.mp hc
  have h3 := h x hx
  by_cases h1 : x = 92
  · rw [if_pos h1] at h2; simp at h2; omega
  · rw [if_neg h1] at h2
    by_cases h4 : x = 10
    · rw [if_pos h4] at h2; simp at h2; omega
    · rw [if_neg h4] at h2; simp at h2; omega
theorem Deed.chars {e : Deed} (h : e.ok) : ∀ c ∈ e.body, c < 128 ∧ c ≠ 10 := by
  cases e with
  | add t => 
    intro c hc
    rcases List.mem_cons.mp hc with rfl | hc
    · decide
    · exact esc_chars h.2 c hc
  | drop n => 
    intro c hc
    rcases List.mem_cons.mp hc with rfl | hc
    · decide
    · have := numL_chars n c hc; omega
def Deed.fine : Deed → Prop
  | .add _ => True
  | .drop n => figs (TL.numL n) = true
theorem lineF_sealed {e : Deed} (he : e.ok) (hf : e.fine) (k : Nat) : lineF (CK e.body ++ e.body) k = .tuple [e.d, .int (k + 1 : Nat)] := by
  have hb := Deed.body_len he
  have h4 := CK_len e.body
  have t4 : (CK e.body ++ e.body).take 4 = CK e.body := by rw [List.take_append_of_le_length (by omega), List.take_of_length_le (by omega)]
  have d4 : (CK e.body ++ e.body).drop 4 = e.body := by
    have : (CK e.body ++ e.body).drop (CK e.body).length = e.body := List.drop_left
    rwa [h4] at this
  have d5 : (CK e.body ++ e.body).drop 5 = e.body.drop 1 := by rw [show 5 = 4 + 1 from rfl, ← List.drop_drop, d4]
  have g4 : (CK e.body ++ e.body)[4]? = e.body[0]? := by
    have : ((CK e.body ++ e.body).drop 4)[0]? = e.body[0]? := by rw [d4]
    rwa [List.getElem?_drop] at this
  have hl : 5 ≤ (CK e.body ++ e.body).length := by rw [List.length_append]; omega
  have hc : (CK e.body ++ e.body).take 4 = CK ((CK e.body ++ e.body).drop 4) := by rw [t4, d4]
  cases e with
  | add t =>
    rw [lineF_add hl hc (by rw [g4]; rfl), d5]
    show (match plainF (esc t) with | some t => PyData.tuple [(Deed.add t).d, .int (k + 1 : Nat)] | none => .none) = _
    rw [plainF_esc]
  | drop n =>
    rw [lineF_drop hl hc (by rw [g4]; show some 45 ≠ some 43; decide), d5, if_pos ⟨by rw [g4]; rfl, hf⟩]
    show PyData.tuple [(Deed.drop (NumText.digitsVal (TL.numL n))).d, _] = _
    rw [TL.numL_val]
theorem no10 {e : Deed} (he : e.ok) : 10 ∉ CK e.body ++ e.body := fun h => by
  rcases List.mem_append.mp h with h | h
  · have := CK_chars _ _ h; omega
  · exact (Deed.chars he _ h).2 rfl
theorem read_sealed {e : Deed} (he : e.ok) (hf : e.fine) (j t : List Nat) : readF (j ++ sealed e.body ++ t) j.length = .tuple [e.d, .int (j.length + (sealed e.body).length : Nat)] := by
  have e1 : (j ++ sealed e.body ++ t).drop j.length = (CK e.body ++ e.body) ++ 10 :: t := by
    rw [List.append_assoc, List.drop_left]
    unfold sealed
    rw [List.append_assoc]; rfl
  unfold readF
  rw [e1, cutF_app _ (no10 he)]
  show lineF _ _ = _
  rw [lineF_sealed he hf, sealed_len, List.length_append, CK_len]
  congr 4
  omega
theorem read_cut {e : Deed} (he : e.ok) (j : List Nat) {k : Nat} (hk : k < (sealed e.body).length) : readF (j ++ (sealed e.body).take k) j.length = .none := by
  have e1 : (j ++ (sealed e.body).take k).drop j.length = (CK e.body ++ e.body).take k := by
    rw [List.drop_left]
    unfold sealed
    rw [List.take_append_of_le_length (by rw [sealed_len] at hk; rw [List.length_append, CK_len]; omega)]
  unfold readF
  rw [e1, cutF_none fun h => no10 he (List.mem_of_mem_take h)]
theorem read_end (z : List Nat) : readF z z.length = .none := by
  unfold readF
  rw [List.drop_length]; rfl
theorem plain_chars : ∀ (n : Nat) (z y : List Nat), z.length ≤ n → (∀ c ∈ z, c < 128) → plainF z = some y → y.length ≤ z.length ∧ ∀ c ∈ y, c < 128
  | n, z, y, hn, hz, h => by
    have e := esc_plainF _ z y (Nat.le_refl _) h
    subst e
    clear h hn
    induction y with
    | nil => exact ⟨Nat.zero_le _, fun _ h => by cases h⟩
    | cons c y ih =>
      rw [esc_cons] at hz
      have h2 := ih fun x hx => hz x (List.mem_append_right _ hx)
      rw [esc_cons]
      by_cases h1 : c = 92
      · rw [if_pos h1]
        refine ⟨by rw [List.length_append, List.length_cons]; show _ ≤ 2 + _; omega, fun x hx => ?_⟩
        rcases List.mem_cons.mp hx with rfl | hx
        · omega
        · exact h2.2 x hx
      · by_cases h4 : c = 10
        · rw [if_neg h1, if_pos h4]
          refine ⟨by rw [List.length_append, List.length_cons]; show _ ≤ 2 + _; omega, fun x hx => ?_⟩
          rcases List.mem_cons.mp hx with rfl | hx
          · omega
          · exact h2.2 x hx
        · rw [if_neg h1, if_neg h4]
          refine ⟨by rw [List.length_append, List.length_cons]; show _ ≤ 1 + _; omega, fun x hx => ?_⟩
          rcases List.mem_cons.mp hx with rfl | hx
          · rw [if_neg h1, if_neg h4] at hz
            exact hz x (List.mem_append_left _ (List.mem_singleton.mpr rfl))
          · exact h2.2 x hx
/-- a text that the comparison may take -/
theorem ok_text {n : Nat} {l : List Nat} (h1 : l.length ≤ 1000) (h2 : ∀ c ∈ l, c < 128) : sameOk (n + 1) (.str (S l)) := by
  have := PySem.StrLaws.reprText_len (S l) fun c hc => Nat.lt_of_lt_of_le (h2 c hc) (by decide)
  show (reprText (S l)).length ≤ sizeLine
  rw [S_len l] at this
  rw [sizeLine_eq]; omega
theorem ok_optS {n : Nat} {z : List Nat} (h1 : z.length ≤ 1000) (h2 : ∀ c ∈ z, c < 128) : sameOk (n + 1) (optS (plainF z)) := by
  cases e : plainF z with
  | none => trivial
  | some y =>
    obtain ⟨h3, h4⟩ := plain_chars _ z y (Nat.le_refl _) h2 e
    exact ok_text (by omega) h4
theorem ok_int {n : Nat} {i : Nat} (h : i < 2 ^ 100) : sameOk (n + 1) (.int (i : Nat)) := by
  show (i : Int).natAbs.log2 < 1920
  exact Nat.lt_trans (log2_of_lt (k := 100) (by decide) h) (by decide)
theorem digitsVal_lt : ∀ (r : List Nat) (a : Nat), (∀ c ∈ r, c < 128) → r.foldl (fun acc c => acc * 10 + (c - 48)) a < (a + 1) * 100 ^ r.length
  | [], a, _ => by simp
  | c :: r, a, h => by
    have h1 := digitsVal_lt r (a * 10 + (c - 48)) fun x hx => h x (List.mem_cons_of_mem _ hx)
    have h2 := h c List.mem_cons_self
    rw [List.foldl_cons, List.length_cons, Nat.pow_succ]
    refine Nat.lt_of_lt_of_le h1 ?_
    rw [Nat.mul_comm (100 ^ r.length) 100, ← Nat.mul_assoc]
    exact Nat.mul_le_mul_right _ (by omega)
theorem ok_read {z : List Nat} {k : Nat} (h1 : z.length ≤ 300) (hk : k ≤ z.length) (h2 : ∀ c ∈ z, c < 128) : sameOk 6 (readF z k) := by
  unfold readF
  cases hc : cutF (z.drop k) with
  | none => trivial
  | some p =>
    obtain ⟨_, r, hd⟩ := cutF_some hc
    have hpc : ∀ c ∈ p, c < 128 := fun c hc => h2 c (List.mem_of_mem_drop (show c ∈ z.drop k by rw [hd]; exact List.mem_append_left _ hc))
    have hpl : p.length ≤ 300 := by
      have := congrArg List.length hd
      rw [List.length_drop, List.length_append] at this
      omega
    have hnum : k + p.length + 1 < 2 ^ 100 := Nat.lt_trans (show k + p.length + 1 < 1000 by omega) (by decide)
    show sameOk 6 (lineF p (k + p.length))
    unfold lineF
    split
    · trivial
    · split
      · cases e : plainF (p.drop 5) with
        | none => trivial
        | some t =>
          obtain ⟨h3, h4⟩ := plain_chars _ _ t (Nat.le_refl _) (fun c hc => hpc c (List.mem_of_mem_drop hc)) e
          rw [List.length_drop] at h3
          refine ⟨show (2 : Nat) < 2 ^ 62 by decide, fun d hd => ?_⟩
          rcases List.mem_cons.mp hd with rfl | hd
          · refine ⟨show (2 : Nat) < 2 ^ 62 by decide, fun d hd => ?_⟩
            rcases List.mem_cons.mp hd with rfl | hd
            · exact ok_text (by decide) (by decide)
            · rw [List.mem_singleton] at hd
              subst hd
              exact ok_text (by omega) h4
          · rw [List.mem_singleton] at hd
            subst hd
            exact ok_int hnum
      · split
        · rename_i hq
          have hl4 : (p.drop 5).length ≤ 4 := by
            have := hq.2
            unfold figs at this
            simp only [Bool.and_eq_true, decide_eq_true_eq] at this
            exact this.1.1.2
          refine ⟨show (2 : Nat) < 2 ^ 62 by decide, fun d hd => ?_⟩
          rcases List.mem_cons.mp hd with rfl | hd
          · refine ⟨show (2 : Nat) < 2 ^ 62 by decide, fun d hd => ?_⟩
            rcases List.mem_cons.mp hd with rfl | hd
            · exact ok_text (by decide) (by decide)
            · rw [List.mem_singleton] at hd
              subst hd
              have := digitsVal_lt (p.drop 5) 0 fun c hc => hpc c (List.mem_of_mem_drop hc)
              refine ok_int (Nat.lt_trans this ?_)
              have e2 : (0 + 1) * 100 ^ (p.drop 5).length ≤ 100 ^ 4 := by rw [Nat.zero_add, Nat.one_mul]; exact Nat.pow_le_pow_right (by decide) hl4
              exact Nat.lt_of_le_of_lt e2 (by decide)
          · rw [List.mem_singleton] at hd
            subst hd
            exact ok_int hnum
        · trivial
end G_k92_records_as_lines

set_option Elab.async false
set_option linter.all false
set_option maxRecDepth 100000
set_option maxHeartbeats 2000000
namespace G_k92_records_as_lines
open PySem L2 Wy
open SX (S S_len S_cat S_inj in_one int_S num_S)
local macro_rules | `(tactic| walk_at "lits") => `(tactic| simp only [li0, li1, li2, li3, li4, li5, li6, li7, li8, li9, li10, li11, li12, li13, li14, li15, li16, li17, li18, li19, li20, li21, li22, li23, li24, li25, li26, li27, li28, li29, li30, li31, li32])
local macro_rules | `(tactic| walk_at "wx") => `(tactic| simp only [x_seq, x_asg, x_asgS, x_ret, x_retN, x_ifS, x_next, x_drop, x_break, x_cont, x_frz, x_c, x_op, x_un, x_if, x_nil, x_cons, x_tup, x_lst, x_call, x_on1, x_fn, x_and, x_or, x_not, x_bW, x_tru, x_no, x_part, x_andV, x_orV, x_notV, x_chain, x_sl, x_m1, x_iter, x_rng1, x_rng2, x_for, x_lc, x_par, x_repl, x_own,
  x_vF, x_vH, x_vF0, x_vH0, x_slFd, x_slHd, x_slFo, x_slHo, x_var0, x_varS, x_aug0, x_aug1, x_aug2, o_addI, o_iaddI, o_subI, o_mulI, o_divI, o_modI, o_negI, o_addL, o_addT, o_addS, o_iaddS, o_lenS, o_lenL, o_lenT, o_ltI, o_leI, o_gtI, o_geI, o_eqS, o_neS, o_eqI, o_neI, o_isN, o_notN, o_isBv, o_ordS, o_intI, o_strI, o_inC, o_ninC, items_S, items_L, items_T,
  List.set_cons_zero, List.set_cons_succ, List.length_cons, List.length_nil, startS, List.map_cons, List.map_nil, List.replicate_succ, List.replicate_zero, List.cons_append, List.nil_append, Nat.reduceAdd, Nat.reduceSub, putS, true_and, x_app3, o_powI, and_true, x_truB, x_truL, x_truT, eq_self, if_true, if_false, Bool.false_eq_true])


theorem intsD_map : ∀ bs : List Int, intsD (bs.map PyData.int) = some bs
  | [] => rfl
  | b :: bs => by show (intsD (bs.map PyData.int)).map (b :: ·) = _; rw [intsD_map bs]; rfl
theorem sp_digits {Q : D → Prop} (h : ∀ bs : List Int, Q (.list (bs.map PyData.int))) : w__law_digits [scD, .int 0, .int 60] Q := by
  unfold w__law_digits
  rw [x_fnW]
  walk_at "wx"
  refine ⟨Nat.zero_le _, ⟨by decide, by decide, by decide, by decide⟩, ?_⟩
  refine for_inv (fun ds ρ => ∃ (bs : List Int) (a4 a5 a6 a7 : Option Sl), bs.length + 60 * ds.length ≤ 3600 ∧ (∀ d ∈ ds, d ∈ rangeD ((0 : Nat) : Int) 60) ∧ ρ = [some (.dat scD), some (.dat (.int 0)), some (.dat (.int 60)), some (.own (bs.map PyData.int)), a4, a5, a6, a7]) ?_ ?_ _ _ ⟨[], none, none, none, none, by decide, fun d hd => hd, rfl⟩
  · rintro d r ρ ⟨bs, a4, a5, a6, a7, hl, hr, rfl⟩ P' hn _ _ _
    obtain ⟨i, rfl, i0, i1⟩ := mem_rangeD (hr _ List.mem_cons_self)
    rw [List.length_cons] at hl
    refine ⟨_, rfl, ?_⟩
    walk_at "wx"
    refine ⟨rfl, by omega, fun z => ?_⟩
    have again : ∀ (bs2 : List Int) (b4 b5 b6 b7 : Option Sl), bs2.length ≤ bs.length + 60 → P'.nx [some (.dat scD), some (.dat (.int 0)), some (.dat (.int 60)), some (.own (bs2.map PyData.int)), b4, b5, b6, b7] := fun bs2 b4 b5 b6 b7 hb =>
      hn _ ⟨bs2, b4, b5, b6, b7, by omega, fun d hd => hr d (List.mem_cons_of_mem _ hd), rfl⟩
    have big : ∀ (z : Int) (b6 b7 : Option Sl), forD [6] uName (wIfS (bW (wOp oGt (wVar 5) (wC (.int 0)))) (wSeq (wApp 3 (wOp oMod (wCall (on1 oInt) (wCons (wVar 5) wNil)) (wC (.int 1000)))) (wAsg 5 (wOp oDiv (wVar 5) (wC (.int 1000))))) wNext) (rangeD 0 (Int.toNat 60))
        [some (.dat scD), some (.dat (.int 0)), some (.dat (.int 60)), some (.own (bs.map PyData.int)), some (.dat (.int (i : Nat))), some (.dat (.int z)), b6, b7] P' := by
      intro z b6 b7
      refine for_inv (fun ds ρ => ∃ (bs2 : List Int) (z : Int) (b6 b7 : Option Sl), bs2.length + ds.length ≤ bs.length + 60 ∧ ρ = [some (.dat scD), some (.dat (.int 0)), some (.dat (.int 60)), some (.own (bs2.map PyData.int)), some (.dat (.int (i : Nat))), some (.dat (.int z)), b6, b7]) ?_ ?_ _ _ ⟨bs, z, b6, b7, Nat.le_refl _, rfl⟩
      · rintro d r2 ρ ⟨bs2, z, b6, b7, hb, rfl⟩ P2 hn2 _ _ _
        rw [List.length_cons] at hb
        refine ⟨_, rfl, ?_⟩
        walk_at "wx"
        split
        · have em : bs2.map PyData.int ++ [PyData.int (z % 1000)] = (bs2 ++ [z % 1000]).map PyData.int := by rw [List.map_append]; rfl
          rw [em]
          exact ⟨by decide, by rw [List.length_map, sizeLine_eq]; omega, ⟨by decide, by decide⟩, hn2 _ ⟨bs2 ++ [z % 1000], z / 1000, _, _, by rw [List.length_append, List.length_singleton]; omega, rfl⟩⟩
        · exact hn2 _ ⟨bs2, z, _, _, by omega, rfl⟩
      · rintro ρ ⟨bs2, z, b6, b7, hb, rfl⟩
        exact again _ _ _ _ _ (by simpa using hb)
    have small : ∀ (z y : Int) (b6 : Option Sl), forD [6] uName (wSeq (wAsg 7 (wOp oMod (wCall (on1 oInt) (wCons (wOp oAdd (wOp oAdd (wOp oMul (wVar 7) (wC (.int 16807))) (wOp oMul (wC (.int 7)) (wVar 6))) (wC (.int 1))) wNil)) (wC (.int 2147483647)))) (wApp 3 (wOp oMod (wCall (on1 oInt) (wCons (wOp oDiv (wVar 7) (wC (.int 997))) wNil)) (wC (.int 1000))))) (rangeD 0 (Int.toNat 12))
        [some (.dat scD), some (.dat (.int 0)), some (.dat (.int 60)), some (.own (bs.map PyData.int)), some (.dat (.int (i : Nat))), some (.dat (.int z)), b6, some (.dat (.int y))] P' := by
      intro z y b6
      refine for_inv (fun ds ρ => ∃ (bs2 : List Int) (y : Int) (b6 : Option Sl), bs2.length + ds.length ≤ bs.length + 12 ∧ (∀ d ∈ ds, d ∈ rangeD ((0 : Nat) : Int) 12) ∧ ρ = [some (.dat scD), some (.dat (.int 0)), some (.dat (.int 60)), some (.own (bs2.map PyData.int)), some (.dat (.int (i : Nat))), some (.dat (.int z)), b6, some (.dat (.int y))]) ?_ ?_ _ _ ⟨bs, y, b6, Nat.le_refl _, fun d hd => hd, rfl⟩
      · rintro d r2 ρ ⟨bs2, y, b6, hb, hr2, rfl⟩ P2 hn2 _ _ _
        obtain ⟨k, rfl, k0, k1⟩ := mem_rangeD (hr2 _ List.mem_cons_self)
        rw [List.length_cons] at hb
        refine ⟨_, rfl, ?_⟩
        walk_at "wx"
        have em : ∀ v : Int, bs2.map PyData.int ++ [PyData.int v] = (bs2 ++ [v]).map PyData.int := fun v => by rw [List.map_append]; rfl
        rw [em]
        exact ⟨.inr ⟨by decide, by decide⟩, .inl ⟨by decide, by decide⟩, by decide, ⟨by decide, by decide⟩, by decide, by rw [List.length_map, sizeLine_eq]; omega, hn2 _ ⟨bs2 ++ [_], _, _, by rw [List.length_append, List.length_singleton]; omega, fun d hd => hr2 d (List.mem_cons_of_mem _ hd), rfl⟩⟩
      · rintro ρ ⟨bs2, y, b6, hb, _, rfl⟩
        exact again _ _ _ _ _ (by have : bs2.length + 0 ≤ bs.length + 12 := hb; omega)
    walk_at "wx"
    split
    · refine ⟨.inl ⟨by decide, by decide⟩, ⟨by decide, by decide, by decide⟩, ?_⟩
      split
      · exact ⟨⟨by decide, by decide⟩, big _ _ _⟩
      · exact ⟨.inr ⟨by decide, by decide⟩, .inr ⟨by decide, by decide⟩, by decide, ⟨by decide, by decide⟩, small _ _ _⟩
    · refine ⟨⟨by decide, by decide, by decide⟩, ?_⟩
      split
      · exact ⟨⟨by decide, by decide⟩, big _ _ _⟩
      · exact ⟨.inr ⟨by decide, by decide⟩, .inr ⟨by decide, by decide⟩, by decide, ⟨by decide, by decide⟩, small _ _ _⟩
  · rintro ρ ⟨bs, a4, a5, a6, a7, hl, hr, rfl⟩
    walk_at "wx"
    exact h bs
end G_k92_records_as_lines

set_option Elab.async false
set_option linter.all false
set_option maxRecDepth 100000
set_option maxHeartbeats 2000000
namespace G_k92_records_as_lines
open PySem L2 Wy
open SX (S S_len S_cat S_inj in_one int_S num_S)
local macro_rules | `(tactic| walk_at "lits") => `(tactic| simp only [li0, li1, li2, li3, li4, li5, li6, li7, li8, li9, li10, li11, li12, li13, li14, li15, li16, li17, li18, li19, li20, li21, li22, li23, li24, li25, li26, li27, li28, li29, li30, li31, li32])
local macro_rules | `(tactic| walk_at "wx") => `(tactic| simp only [x_seq, x_asg, x_asgS, x_ret, x_retN, x_ifS, x_next, x_drop, x_break, x_cont, x_frz, x_c, x_op, x_un, x_if, x_nil, x_cons, x_tup, x_lst, x_call, x_on1, x_fn, x_and, x_or, x_not, x_bW, x_tru, x_no, x_part, x_andV, x_orV, x_notV, x_chain, x_sl, x_m1, x_iter, x_rng1, x_rng2, x_for, x_lc, x_par, x_repl, x_own,
  x_vF, x_vH, x_vF0, x_vH0, x_slFd, x_slHd, x_slFo, x_slHo, x_var0, x_varS, x_aug0, x_aug1, x_aug2, o_addI, o_iaddI, o_subI, o_mulI, o_divI, o_modI, o_negI, o_addL, o_addT, o_addS, o_iaddS, o_lenS, o_lenL, o_lenT, o_ltI, o_leI, o_gtI, o_geI, o_eqS, o_neS, o_eqI, o_neI, o_isN, o_notN, o_isBv, o_ordS, o_intI, o_strI, o_inC, o_ninC, items_S, items_L, items_T,
  List.set_cons_zero, List.set_cons_succ, List.length_cons, List.length_nil, startS, List.map_cons, List.map_nil, List.replicate_succ, List.replicate_zero, List.cons_append, List.nil_append, Nat.reduceAdd, Nat.reduceSub, putS, true_and, and_true, x_truB, x_truL, x_truT, eq_self, if_true, if_false, Bool.false_eq_true])


theorem sp_spoilt {e : Deed} {Q : D → Prop} (he : e.ok) (h : ∀ l : List Nat, l.length ≤ 60 → (∀ c ∈ l, c < 128) → Q (.str (S l))) : w__law_spoilt [bxD, e.d] Q := by
  have hb := Deed.body_len he
  have hch : ∀ c ∈ e.body, c < 128 := fun c hc => (Deed.chars he c hc).1
  have ckc : ∀ b : List Nat, ∀ c ∈ CK b, c < 128 := fun b c hc => by have := CK_chars b c hc; omega
  have app : ∀ a b : List Nat, (∀ c ∈ a, c < 128) → (∀ c ∈ b, c < 128) → ∀ c ∈ a ++ b, c < 128 := fun a b h1 h2 c hc => by
    rcases List.mem_append.mp hc with h | h
    · exact h1 c h
    · exact h2 c h
  have sea : ∀ b : List Nat, (∀ c ∈ b, c < 128) → ∀ c ∈ sealed b, c < 128 := fun b hb => app _ _ (app _ _ (ckc b) hb) (by decide)
  have bodyIs : ∀ R : D → Prop, R (.str (S e.body)) → oIx e.d (.int 0) fun x => oEq x (.str (S [97, 100, 100])) fun d => match d with
      | .bool c => if c = true then oIx e.d (.int 1) fun x => w__law_escaped [x] fun y => oAdd (.str (S [43])) y R else oIx e.d (.int 1) fun x => oStr x fun y => oAdd (.str (S [45])) y R
      | _ => False := by
    intro R hR
    cases e with
    | add t =>
      have h1 : t.length ≤ 10 := he.1
      have := esc_len t
      simp only [Deed.d, o_ixT ix0, o_ixT ix1, o_eqS, decide_true, if_true]
      refine sp_law_escaped (by omega) ?_
      walk_at "wx"
      exact ⟨by omega, hR⟩
    | drop n =>
      have h1 : n ≤ 9999 := he
      have h2 := TL.numL_len (n := n) (k := 4) (by decide) (by omega)
      simp only [Deed.d, o_ixT ix0, o_ixT ix1, o_eqS, show decide (tDrop = [97, 100, 100]) = false by decide, Bool.false_eq_true, if_false]
      walk_at "wx"
      exact ⟨Nat.lt_trans (log2_of_lt (k := 14) (by decide) (by omega)) (by decide), by omega, hR⟩
  unfold w__law_spoilt
  rw [x_fnW]
  walk_at "lits"
  walk_at "wx"
  refine bodyIs _ ?_
  generalize e.body = b at hb hch
  refine ⟨rfl, by decide, fun r r0 r1 => ?_⟩
  walk_at "wx"
  have lits : ∀ (x : D) (l : List D), (∃ z : List Nat, x = .str (S z) ∧ z.length ≤ 6 ∧ ∀ c ∈ z, c < 128) → (∀ y ∈ l, ∃ z : List Nat, y = .str (S z) ∧ z.length ≤ 6 ∧ ∀ c ∈ z, c < 128) → ∀ y ∈ x :: l, ∃ z : List Nat, y = .str (S z) ∧ z.length ≤ 6 ∧ ∀ c ∈ z, c < 128 := fun x l hx hl y hy => by
    rcases List.mem_cons.mp hy with rfl | hy
    · exact hx
    · exact hl y hy
  have lit0 : ∀ y ∈ ([] : List D), ∃ z : List Nat, y = .str (S z) ∧ z.length ≤ 6 ∧ ∀ c ∈ z, c < 128 := fun y hy => by cases hy
  have ck4 : ∀ b, (CK b).length = 4 := CK_len
  have s5 : ∀ b, (sealed b).length = b.length + 5 := sealed_len
  split
  · refine ⟨by rw [sizeLine_eq]; decide, sp_pick (by decide) (show 0 < 5 by decide) fun x hx => ?_⟩
    obtain ⟨z, rfl, h1, h2⟩ := lits _ _ ⟨_, rfl, by decide, by decide⟩ (lits _ _ ⟨_, rfl, by decide, by decide⟩ (lits _ _ ⟨_, rfl, by decide, by decide⟩ (lits _ _ ⟨_, rfl, by decide, by decide⟩ (lits _ _ ⟨_, rfl, by decide, by decide⟩ lit0)))) x hx
    walk_at "wx"
    refine ⟨by omega, sp_law_sealed (by rw [List.length_append]; omega) (h _ (by rw [s5, List.length_append]; omega) (sea _ (app _ _ hch h2)))⟩
  split
  · refine ⟨by rw [sizeLine_eq]; decide, sp_pick (by decide) (show 0 < 10 by decide) fun x hx => ?_⟩
    obtain ⟨z, rfl, h1, h2⟩ := lits _ _ ⟨_, rfl, by decide, by decide⟩ (lits _ _ ⟨_, rfl, by decide, by decide⟩ (lits _ _ ⟨_, rfl, by decide, by decide⟩ (lits _ _ ⟨_, rfl, by decide, by decide⟩ (lits _ _ ⟨_, rfl, by decide, by decide⟩
      (lits _ _ ⟨_, rfl, by decide, by decide⟩ (lits _ _ ⟨_, rfl, by decide, by decide⟩ (lits _ _ ⟨_, rfl, by decide, by decide⟩ (lits _ _ ⟨_, rfl, by decide, by decide⟩ (lits _ _ ⟨_, rfl, by decide, by decide⟩ lit0))))))))) x hx
    exact sp_law_sealed (by omega) (h _ (by rw [s5]; omega) (sea _ h2))
  split
  · refine sp_law_check (by omega) ?_
    rw [o_addS]
    exact ⟨by rw [ck4]; omega, h _ (by rw [List.length_append, ck4]; omega) (app _ _ (ckc b) hch)⟩
  split
  · refine sp_law_check (by omega) ?_
    rw [o_slTo (by decide)]
    walk_at "wx"
    refine ⟨by rw [ck4]; decide, by rw [List.length_take, ck4]; omega, by rw [List.length_append, List.length_take, ck4]; omega, h _ ?_ (app _ _ (app _ _ (fun c hc => ckc b c (List.mem_of_mem_take hc)) hch) (by decide))⟩
    rw [List.length_append, List.length_append, List.length_take, ck4, List.length_singleton]; omega
  split
  · refine sp_law_sealed (by omega) ?_
    rw [o_slFrom (by decide)]
    exact ⟨by rw [s5]; omega, h _ (by rw [List.length_drop, s5]; omega) fun c hc => sea b hch c (List.mem_of_mem_drop hc)⟩
  split
  · refine ⟨by omega, sp_law_check (by rw [List.length_append, List.length_singleton]; omega) ?_⟩
    walk_at "wx"
    refine ⟨by rw [ck4]; omega, by rw [List.length_append, ck4]; omega, h _ ?_ (app _ _ (app _ _ (ckc _) hch) (by decide))⟩
    rw [List.length_append, List.length_append, ck4, List.length_singleton]; omega
  split
  · refine sp_law_check (by decide) ?_
    rw [o_addS]
    refine ⟨by rw [ck4]; decide, by rw [sizeLine_eq]; decide, sp_pick (show 5 ≤ 1000 by decide) (show 0 < 5 by decide) fun x hx => ?_⟩
    have lc : ∃ z : List Nat, PyData.str (S (CK [43, 97] ++ [43, 98, 10])) = .str (S z) ∧ z.length ≤ 60 ∧ ∀ c ∈ z, c < 128 := ⟨_, rfl, by rw [List.length_append, ck4]; decide, app _ _ (ckc _) (by decide)⟩
    rcases List.mem_cons.mp hx with rfl | hx
    · exact h _ (by decide) (by decide)
    rcases List.mem_cons.mp hx with rfl | hx
    · exact h _ (by decide) (by decide)
    rcases List.mem_cons.mp hx with rfl | hx
    · exact h _ (by decide) (by decide)
    rcases List.mem_cons.mp hx with rfl | hx
    · exact h _ (by decide) (by decide)
    rw [List.mem_singleton] at hx
    obtain ⟨z, e, h1, h2⟩ := lc
    rw [hx, e]
    exact h z h1 h2
  refine sp_law_sealed (by omega) ?_
  walk_at "wx"
  refine ⟨by rw [s5]; omega, rfl, by rw [s5]; omega, fun k k0 k1 => ?_⟩
  walk_at "wx"
  rw [o_slTo k0]
  refine ⟨by rw [s5]; omega, by rw [sizeLine_eq]; decide, sp_pick (by decide) (show 0 < 5 by decide) fun x hx => ?_⟩
  obtain ⟨z, rfl, h1, h2⟩ := lits _ _ ⟨_, rfl, by decide, by decide⟩ (lits _ _ ⟨_, rfl, by decide, by decide⟩ (lits _ _ ⟨_, rfl, by decide, by decide⟩ (lits _ _ ⟨_, rfl, by decide, by decide⟩ (lits _ _ ⟨_, rfl, by decide, by decide⟩ lit0)))) x hx
  walk_at "wx"
  rw [o_slFrom (by omega)]
  walk_at "wx"
  refine ⟨by rw [List.length_take, s5]; omega, by rw [s5]; omega, by rw [List.length_append, List.length_take, List.length_drop, s5]; omega, h _ ?_ (app _ _ (app _ _ (fun c hc => sea b hch c (List.mem_of_mem_take hc)) h2) fun c hc => sea b hch c (List.mem_of_mem_drop hc))⟩
  rw [List.length_append, List.length_append, List.length_take, List.length_drop, s5]; omega
theorem lawTrue : LawTrue := by
  refine ⟨?_, ?_⟩
  · show 3 = 3 ∧ w__law_digits [scD, .int 0, .int 60] _
    exact ⟨rfl, sp_digits fun bs => ⟨_, bs, rfl, intsD_map bs⟩⟩
  show w_law [some (.dat scD), some (.dat bxD), none, none, none, none, none, none, none, none] _
  unfold w_law
  walk_at "lits"
  walk_at "wx"
  refine ⟨⟨by decide, by decide⟩, ?_⟩
  refine for_inv (fun ds ρ => ∃ a2 a3 a4 a5 a6 a7 a8 a9 : Option Sl, ρ = [some (.dat scD), some (.dat bxD), a2, a3, a4, a5, a6, a7, a8, a9]) ?_ ?_ _ _ ⟨_, _, _, _, _, _, _, _, rfl⟩
  · rintro d r ρ ⟨a2, a3, a4, a5, a6, a7, a8, a9, rfl⟩ P' hn _ hb hr
    refine ⟨_, rfl, ?_⟩
    walk_at "wx"
    refine sp_signs fun t ht htc => ?_
    try walk_at "wx"
    have hesc := esc_len t
    have hescc : ∀ c ∈ esc t, c < 128 := fun c hc => (esc_chars htc c hc).1
    refine sp_escaped (by omega) (sp_law_escaped (by omega) (sp_same _ _ _ (ok_text (by omega) hescc) ?_))
    rw [x_truB, if_neg (by decide)]
    refine sp_law_escaped (by omega) (sp_plain (by omega) ?_)
    rw [plainF_esc]
    refine sp_same _ _ _ (ok_text (by omega) htc) ?_
    rw [x_truB, if_neg (by decide)]
    refine sp_plain (by omega) (sp_law_plain (by omega) (sp_same _ _ _ (ok_optS (by omega) htc) ?_))
    rw [x_truB, if_neg (by decide)]
    refine sp_check_of (by omega) (sp_law_check (by omega) (sp_same _ _ _ (ok_text (by rw [CK_len]; decide) fun c hc => by have := CK_chars _ c hc; omega) ?_))
    rw [x_truB, if_neg (by decide)]
    refine ⟨by rw [sizeLine_eq]; decide, by rw [sizeLine_eq]; decide, sp_pick (by decide) (by decide) fun x hx => ?_⟩
    have hx2 : ∃ n : Nat, x = .int (n : Nat) ∧ n ≤ 9999 ∧ figs (TL.numL n) = true := by
      simp only [List.mem_cons, List.not_mem_nil, or_false] at hx
      rcases hx with rfl | rfl | rfl | rfl | rfl
      · exact ⟨0, rfl, by decide, by decide +kernel⟩
      · exact ⟨7, rfl, by decide, by decide +kernel⟩
      · exact ⟨10, rfl, by decide, by decide +kernel⟩
      · exact ⟨999, rfl, by decide, by decide +kernel⟩
      · exact ⟨9999, rfl, by decide, by decide +kernel⟩
    obtain ⟨n, rfl, hn1, hn2⟩ := hx2
    refine ⟨by rw [sizeLine_eq]; decide, by rw [sizeLine_eq]; decide, sp_pick (show 2 ≤ 1000 by decide) (show 0 < 2 by decide) fun x hx => ?_⟩
    have hx2 : ∃ e : Deed, x = e.d ∧ e.ok ∧ e.fine := by
      rcases List.mem_cons.mp hx with rfl | hx
      · exact ⟨.add t, rfl, ⟨ht, htc⟩, trivial⟩
      · rw [List.mem_singleton] at hx
        exact ⟨.drop n, hx, hn1, hn2⟩
    obtain ⟨e, rfl, he, hf⟩ := hx2
    have hel := Deed.body_len he
    have hec := Deed.chars he
    have sl := sealed_len e.body
    have sc : ∀ c ∈ sealed e.body, c < 128 := fun c hc => by
      rcases List.mem_append.mp hc with hc | hc
      · rcases List.mem_append.mp hc with hc | hc
        · have := CK_chars _ c hc; omega
        · exact (hec c hc).1
      · rw [List.mem_singleton] at hc; omega
    refine sp_law_record he (sp_signs fun j hj hjc => sp_signs fun u hu huc => sp_record he (sp_same _ _ _ (ok_text (by omega) sc) ?_))
    rw [x_truB, if_neg (by decide)]
    walk_at "wx"
    refine ⟨by omega, by rw [List.length_append]; omega, by omega, sp_read_record (by rw [List.length_append, List.length_append]; omega) (by rw [List.length_append, List.length_append]; omega) ?_⟩
    rw [read_sealed he hf]
    have okD : sameOk 5 e.d := by
      cases e with
      | add t' =>
        refine ⟨show (2 : Nat) < 2 ^ 62 by decide, fun y hy => ?_⟩
        rcases List.mem_cons.mp hy with rfl | hy
        · exact ok_text (by decide) (by decide)
        · rw [List.mem_singleton] at hy
          subst hy
          exact ok_text (by have := he.1; omega) he.2
      | drop n' =>
        refine ⟨show (2 : Nat) < 2 ^ 62 by decide, fun y hy => ?_⟩
        rcases List.mem_cons.mp hy with rfl | hy
        · exact ok_text (by decide) (by decide)
        · rw [List.mem_singleton] at hy
          subst hy
          have : n' ≤ 9999 := he
          exact ok_int (Nat.lt_trans (show n' < 10000 by omega) (by decide))
    refine ⟨by omega, by omega, by rw [sizeLine_eq]; decide, sp_same _ _ _ ⟨show (2 : Nat) < 2 ^ 62 by decide, fun y hy => ?_⟩ ?_⟩
    · rcases List.mem_cons.mp hy with rfl | hy
      · exact okD
      · rw [List.mem_singleton] at hy
        subst hy
        exact ok_int (Nat.lt_trans (show j.length + (sealed e.body).length < 1000 by omega) (by decide))
    rw [x_truB, if_neg (by decide)]
    have appc : ∀ a b : List Nat, (∀ c ∈ a, c < 128) → (∀ c ∈ b, c < 128) → ∀ c ∈ a ++ b, c < 128 := fun a b h1 h2 c hc => by
      rcases List.mem_append.mp hc with h | h
      · exact h1 c h
      · exact h2 c h
    refine ⟨by omega, by omega, sp_appended (by rw [List.length_append]; omega) he ?_⟩
    rw [List.take_append_of_le_length (Nat.le_refl _), List.take_length]
    refine ⟨by omega, sp_same _ _ _ (ok_text (by rw [List.length_append]; omega) (appc _ _ hjc sc)) ?_⟩
    rw [x_truB, if_neg (by decide)]
    refine ⟨by decide, ?_⟩
    refine for_inv (fun ds ρ => ∃ b8 b9 : Option Sl, ρ = [some (.dat scD), some (.dat bxD), some (.dat d), some (.dat (.str (S t))), some (.dat e.d), some (.dat (.str (S (sealed e.body)))), some (.dat (.str (S j))), some (.dat (.str (S u))), b8, b9]) ?_ ?_ _ _ ⟨_, _, rfl⟩
    · rintro d' r' ρ ⟨b8, b9, rfl⟩ P2 hn2 _ _ _
      refine ⟨_, rfl, ?_⟩
      walk_at "wx"
      refine sp_spoilt he fun l hl hlc => ?_
      walk_at "wx"
      have hbl : (j ++ l ++ u).length ≤ 300 := by rw [List.length_append, List.length_append]; omega
      have hjl : j.length ≤ (j ++ l ++ u).length := by rw [List.length_append, List.length_append]; omega
      have hbc := appc _ _ (appc _ _ hjc hlc) huc
      refine ⟨by omega, by rw [List.length_append]; omega, by omega, sp_read_record hbl hjl ⟨by omega, sp_law_read hbl hbc hjl (sp_same _ _ _ (ok_read hbl hjl hbc) ?_)⟩⟩
      rw [x_truB, if_neg (by decide)]
      exact hn2 _ ⟨_, _, rfl⟩
    · rintro ρ ⟨b8, b9, rfl⟩
      walk_at "wx"
      refine ⟨by omega, rfl, by omega, fun k k0 k1 => ?_⟩
      walk_at "wx"
      rw [o_slTo k0]
      walk_at "wx"
      have htl : ((sealed e.body).take k.toNat).length ≤ (sealed e.body).length := by rw [List.length_take]; omega
      refine ⟨by omega, by omega, by omega, sp_read_record (by rw [List.length_append]; omega) (by rw [List.length_append]; omega) ?_⟩
      rw [read_cut he j (by omega)]
      rw [if_neg (by decide)]
      refine ⟨by omega, sp_read_record (by omega) (Nat.le_refl _) ?_⟩
      rw [read_end, if_neg (by decide)]
      exact hn _ ⟨_, _, _, _, _, _, _, _, rfl⟩
  · rintro ρ ⟨a2, a3, a4, a5, a6, a7, a8, a9, rfl⟩
    try walk_at "wx"
    refine sp_check_of (by decide) ?_
    have e1 : CK [] = [48, 48, 48, 49] := by decide +kernel
    have e2 : CK [97] = [48, 50, 50, 56] := by decide +kernel
    rw [e1]
    refine sp_same _ _ _ (ok_text (by decide) (by decide)) ?_
    refine sp_check_of (by decide) ?_
    rw [e2]
    refine sp_same _ _ _ (ok_text (by decide) (by decide)) ?_
    have h3 : (Deed.drop 3).ok := show 3 ≤ 9999 by decide
    refine ⟨by rw [sizeLine_eq]; decide, sp_record (e := .drop 3) h3 (sp_law_check (by decide) ?_)⟩
    rw [o_addS]
    have e3 : CK [45, 51] ++ [45, 51, 10] = sealed (Deed.drop 3).body := by decide +kernel
    refine ⟨by rw [CK_len]; decide, ?_⟩
    rw [e3]
    refine sp_same _ _ _ (ok_text (by rw [sealed_len]; decide) ?_) rfl
    decide +kernel
end G_k92_records_as_lines


set_option Elab.async false
set_option linter.all false
set_option maxRecDepth 100000
set_option maxHeartbeats 4000000
/-! k92_records_as_lines: the walk, printed by gen.py. -/
namespace G_k92_records_as_lines
open PySem PyProof.Rows L2 Wy
def top (i : Nat) : Stmt := PySem.Challenge.pw_ruleyard_k92_records_as_lines.main.body.getD i (.Pass ⟨0, 0, 0, 0⟩)
abbrev s_escaped : Stmt := top 3
abbrev s_plain : Stmt := top 4
abbrev s_check_of : Stmt := top 5
abbrev s_record : Stmt := top 6
abbrev s_read_record : Stmt := top 7
abbrev s_appended : Stmt := top 8
abbrev s__law_cell : Stmt := top 10
abbrev s__law_digits : Stmt := top 11
abbrev s__law_draw : Stmt := top 12
abbrev s__law_pick : Stmt := top 13
abbrev s__law_same : Stmt := top 14
abbrev s__law_check : Stmt := top 15
abbrev s__law_escaped : Stmt := top 16
abbrev s__law_sealed : Stmt := top 17
abbrev s__law_record : Stmt := top 18
abbrev s__law_plain : Stmt := top 19
abbrev s__law_read : Stmt := top 20
abbrev s__law_signs : Stmt := top 21
abbrev s__law_spoilt : Stmt := top 22
abbrev s_law : Stmt := top 23
structure Txt (K : PySem.W.Frag) (mg : Str → Option Value) where
  d_escaped : Df K mg "escaped" s_escaped
  d_plain : Df K mg "plain" s_plain
  d_check_of : Df K mg "check_of" s_check_of
  d_record : Df K mg "record" s_record
  d_read_record : Df K mg "read_record" s_read_record
  d_appended : Df K mg "appended" s_appended
  d__law_cell : Df K mg "_law_cell" s__law_cell
  d__law_digits : Df K mg "_law_digits" s__law_digits
  d__law_draw : Df K mg "_law_draw" s__law_draw
  d__law_pick : Df K mg "_law_pick" s__law_pick
  d__law_same : Df K mg "_law_same" s__law_same
  d__law_check : Df K mg "_law_check" s__law_check
  d__law_escaped : Df K mg "_law_escaped" s__law_escaped
  d__law_sealed : Df K mg "_law_sealed" s__law_sealed
  d__law_record : Df K mg "_law_record" s__law_record
  d__law_plain : Df K mg "_law_plain" s__law_plain
  d__law_read : Df K mg "_law_read" s__law_read
  d__law_signs : Df K mg "_law_signs" s__law_signs
  d__law_spoilt : Df K mg "_law_spoilt" s__law_spoilt
  d_law : Df K mg "law" s_law
  m_all : mg "all" = none
  m_bool : mg "bool" = none
  m_int : mg "int" = none
  m_isinstance : mg "isinstance" = none
  m_len : mg "len" = none
  m_list : mg "list" = none
  m_ord : mg "ord" = none
  m_range : mg "range" = none
  m_repr : mg "repr" = none
  m_str : mg "str" = none
  m_tuple : mg "tuple" = none
  a_FIGURES : ∃ (v : V) (u : Value), mg "FIGURES" = some u ∧ RelV v u ∧ ∀ bx T H, RP K bx T H v (.str ("0123456789" : Str) : D)
  a_MOST_CHECK : ∃ (v : V) (u : Value), mg "MOST_CHECK" = some u ∧ RelV v u ∧ ∀ bx T H, RP K bx T H v (.int (9973) : D)
section
variable {P : Program} {w : World} {K : PySem.W.Frag} {mg : Str → Option Value} {base : Heap}
theorem sc_escaped : FnScope ["text"] ["text"] (defScope s_escaped) := ⟨rfl, rfl, rfl, by decide +kernel, rfl, by decide +kernel, by decide +kernel⟩
theorem b_escaped (T : Txt K mg) : Binds K T.d_escaped.fd ["text"] [] := T.d_escaped.F.bindsN fun _ _ _ _ _ _ us hl => match us, hl with | [_], _ => rfl
theorem sc_plain : FnScope ["text", "found", "at"] ["text"] (defScope s_plain) := ⟨rfl, rfl, rfl, by decide +kernel, rfl, by decide +kernel, by decide +kernel⟩
theorem b_plain (T : Txt K mg) : Binds K T.d_plain.fd ["text"] [] := T.d_plain.F.bindsN fun _ _ _ _ _ _ us hl => match us, hl with | [_], _ => rfl
theorem sc_check_of : FnScope ["text", "found", "sign"] ["text"] (defScope s_check_of) := ⟨rfl, rfl, rfl, by decide +kernel, rfl, by decide +kernel, by decide +kernel⟩
theorem b_check_of (T : Txt K mg) : Binds K T.d_check_of.fd ["text"] [] := T.d_check_of.F.bindsN fun _ _ _ _ _ _ us hl => match us, hl with | [_], _ => rfl
theorem sc_record : FnScope ["deed", "body"] ["deed"] (defScope s_record) := ⟨rfl, rfl, rfl, by decide +kernel, rfl, by decide +kernel, by decide +kernel⟩
theorem b_record (T : Txt K mg) : Binds K T.d_record.fd ["deed"] [] := T.d_record.F.bindsN fun _ _ _ _ _ _ us hl => match us, hl with | [_], _ => rfl
theorem sc_read_record : FnScope ["text", "at", "end", "body", "told", "figures", "sign"] ["text", "at"] (defScope s_read_record) := ⟨rfl, rfl, rfl, by decide +kernel, rfl, by decide +kernel, by decide +kernel⟩
theorem b_read_record (T : Txt K mg) : Binds K T.d_read_record.fd ["text", "at"] [] := T.d_read_record.F.bindsN fun _ _ _ _ _ _ us hl => match us, hl with | [_, _], _ => rfl
theorem sc_appended : FnScope ["text", "at", "deed"] ["text", "at", "deed"] (defScope s_appended) := ⟨rfl, rfl, rfl, by decide +kernel, rfl, by decide +kernel, by decide +kernel⟩
theorem b_appended (T : Txt K mg) : Binds K T.d_appended.fd ["text", "at", "deed"] [] := T.d_appended.F.bindsN fun _ _ _ _ _ _ us hl => match us, hl with | [_, _, _], _ => rfl
theorem sc__law_cell : FnScope ["script", "k"] ["script", "k"] (defScope s__law_cell) := ⟨rfl, rfl, rfl, by decide +kernel, rfl, by decide +kernel, by decide +kernel⟩
theorem b__law_cell (T : Txt K mg) : Binds K T.d__law_cell.fd ["script", "k"] [] := T.d__law_cell.F.bindsN fun _ _ _ _ _ _ us hl => match us, hl with | [_, _], _ => rfl
theorem sc__law_digits : FnScope ["script", "first", "last", "digits", "k", "cell", "turn", "seed"] ["script", "first", "last"] (defScope s__law_digits) := ⟨rfl, rfl, rfl, by decide +kernel, rfl, by decide +kernel, by decide +kernel⟩
theorem b__law_digits (T : Txt K mg) : Binds K T.d__law_digits.fd ["script", "first", "last"] [] := T.d__law_digits.F.bindsN fun _ _ _ _ _ _ us hl => match us, hl with | [_, _, _], _ => rfl
theorem sc__law_draw : FnScope ["box", "many"] ["box", "many"] (defScope s__law_draw) := ⟨rfl, rfl, rfl, by decide +kernel, rfl, by decide +kernel, by decide +kernel⟩
theorem b__law_draw (T : Txt K mg) : Binds K T.d__law_draw.fd ["box", "many"] [] := T.d__law_draw.F.bindsN fun _ _ _ _ _ _ us hl => match us, hl with | [_, _], _ => rfl
theorem sc__law_pick : FnScope ["box", "row"] ["box", "row"] (defScope s__law_pick) := ⟨rfl, rfl, rfl, by decide +kernel, rfl, by decide +kernel, by decide +kernel⟩
theorem b__law_pick (T : Txt K mg) : Binds K T.d__law_pick.fd ["box", "row"] [] := T.d__law_pick.F.bindsN fun _ _ _ _ _ _ us hl => match us, hl with | [_, _], _ => rfl
theorem sc__law_same : FnScope ["told", "due", "k"] ["told", "due"] (defScope s__law_same) := ⟨rfl, rfl, rfl, by decide +kernel, rfl, by decide +kernel, by decide +kernel⟩
theorem b__law_same (T : Txt K mg) : Binds K T.d__law_same.fd ["told", "due"] [] := T.d__law_same.F.bindsN fun _ _ _ _ _ _ us hl => match us, hl with | [_, _], _ => rfl
theorem sc__law_check : FnScope ["text", "mark", "sign"] ["text"] (defScope s__law_check) := ⟨rfl, rfl, rfl, by decide +kernel, rfl, by decide +kernel, by decide +kernel⟩
theorem b__law_check (T : Txt K mg) : Binds K T.d__law_check.fd ["text"] [] := T.d__law_check.F.bindsN fun _ _ _ _ _ _ us hl => match us, hl with | [_], _ => rfl
theorem sc__law_escaped : FnScope ["text", "found", "sign"] ["text"] (defScope s__law_escaped) := ⟨rfl, rfl, rfl, by decide +kernel, rfl, by decide +kernel, by decide +kernel⟩
theorem b__law_escaped (T : Txt K mg) : Binds K T.d__law_escaped.fd ["text"] [] := T.d__law_escaped.F.bindsN fun _ _ _ _ _ _ us hl => match us, hl with | [_], _ => rfl
theorem sc__law_sealed : FnScope ["body"] ["body"] (defScope s__law_sealed) := ⟨rfl, rfl, rfl, by decide +kernel, rfl, by decide +kernel, by decide +kernel⟩
theorem b__law_sealed (T : Txt K mg) : Binds K T.d__law_sealed.fd ["body"] [] := T.d__law_sealed.F.bindsN fun _ _ _ _ _ _ us hl => match us, hl with | [_], _ => rfl
theorem sc__law_record : FnScope ["deed"] ["deed"] (defScope s__law_record) := ⟨rfl, rfl, rfl, by decide +kernel, rfl, by decide +kernel, by decide +kernel⟩
theorem b__law_record (T : Txt K mg) : Binds K T.d__law_record.fd ["deed"] [] := T.d__law_record.F.bindsN fun _ _ _ _ _ _ us hl => match us, hl with | [_], _ => rfl
theorem sc__law_plain : FnScope ["text", "found", "marked", "sign"] ["text"] (defScope s__law_plain) := ⟨rfl, rfl, rfl, by decide +kernel, rfl, by decide +kernel, by decide +kernel⟩
theorem b__law_plain (T : Txt K mg) : Binds K T.d__law_plain.fd ["text"] [] := T.d__law_plain.F.bindsN fun _ _ _ _ _ _ us hl => match us, hl with | [_], _ => rfl
theorem sc__law_read : FnScope ["text", "at", "ends", "row", "told", "figures", "fine", "number", "sign", "k"] ["text", "at"] (defScope s__law_read) := ⟨rfl, rfl, rfl, by decide +kernel, rfl, by decide +kernel, by decide +kernel⟩
theorem b__law_read (T : Txt K mg) : Binds K T.d__law_read.fd ["text", "at"] [] := T.d__law_read.F.bindsN fun _ _ _ _ _ _ us hl => match us, hl with | [_, _], _ => rfl
theorem sc__law_signs : FnScope ["box", "k"] ["box"] (defScope s__law_signs) := ⟨rfl, rfl, rfl, by decide +kernel, rfl, by decide +kernel, by decide +kernel⟩
theorem b__law_signs (T : Txt K mg) : Binds K T.d__law_signs.fd ["box"] [] := T.d__law_signs.F.bindsN fun _ _ _ _ _ _ us hl => match us, hl with | [_], _ => rfl
theorem sc__law_spoilt : FnScope ["box", "deed", "body", "kind", "row", "at"] ["box", "deed"] (defScope s__law_spoilt) := ⟨rfl, rfl, rfl, by decide +kernel, rfl, by decide +kernel, by decide +kernel⟩
theorem b__law_spoilt (T : Txt K mg) : Binds K T.d__law_spoilt.fd ["box", "deed"] [] := T.d__law_spoilt.F.bindsN fun _ _ _ _ _ _ us hl => match us, hl with | [_, _], _ => rfl
theorem sc_law : FnScope ["script", "box", "turn", "text", "deed", "row", "junk", "tail", "step", "bent"] ["script"] (defScope s_law) := ⟨rfl, rfl, rfl, by decide +kernel, rfl, by decide +kernel, by decide +kernel⟩
theorem b_law (T : Txt K mg) : Binds K T.d_law.fd ["script"] [] := T.d_law.F.bindsN fun _ _ _ _ _ _ us hl => match us, hl with | [_], _ => rfl
theorem G_escaped (T : Txt K mg) : FnT P w K mg base 1 T.d_escaped.f T.d_escaped.fd ["text"] (spW K 1 w_escaped) := by
  have nd : (["text"] : List Str).Nodup := sc_escaped.nd
  exact okWT (k := 0) T.d_escaped.F sc_escaped rfl rfl fun cdv A outer s H E hr => ⟨_, (Ts1 (Tret (Trepl (Trepl (PEW.T (ev 0))))))⟩
theorem G_plain (T : Txt K mg) : FnOk P w K mg base CX0 1 T.d_plain.f T.d_plain.fd ["text"] (spW K 1 w_plain) := by
  have nd : (["text", "found", "at"] : List Str).Nodup := sc_plain.nd
  exact okW (k := 0) T.d_plain.F sc_plain rfl rfl fun cdv A outer s H E hr => ⟨_, (sc (sset 1 nd ec_str) (sc (sset 2 nd ec_int) (sc (swhile PassesOwn.never (tcmp ow_lt (ev 2) (ecb (kb_len K) T.m_len (by decide +kernel) (ac (ev 0) an))) (sc (sif (tcmp (ka_eq K (hu64 hr)) (kix K (ev 0) (ev 2)) ec_str) (s1 (sret ec_non)) sn) (s1 (sif (tcmp (ka_eq K (hu64 hr)) (kix K (ev 0) (ev 2)) ec_str) (sc (sif (tcmp (ka_notin K (hu65 hr)) (ksl K (ev 0) (os_ (ebin (ka_add K) (ev 2) ec_int)) (os_ (ebin (ka_add K) (ev 2) ec_int))) (etup (ac ec_str (ac ec_str an)))) (s1 (sret ec_non)) sn) (sc (saug 1 nd ow_iadd (eif (tcmp (ka_eq K (hu64 hr)) (kix K (ev 0) (ebin (ka_add K) (ev 2) ec_int)) ec_str) ec_str ec_str)) (s1 (saug 2 nd ow_iadd ec_int)))) (sc (saug 1 nd ow_iadd (kix K (ev 0) (ev 2))) (s1 (saug 2 nd ow_iadd ec_int))))))) (s1 (sret (ev 1))))))⟩
theorem G_check_of (T : Txt K mg) : FnOk P w K mg base CX0 1 T.d_check_of.f T.d_check_of.fd ["text"] (spW K 1 w_check_of) := by
  obtain ⟨v_MOST_CHECK, u_MOST_CHECK, z1_MOST_CHECK, z2_MOST_CHECK, z3_MOST_CHECK⟩ := T.a_MOST_CHECK
  have nd : (["text", "found", "sign"] : List Str).Nodup := sc_check_of.nd
  exact okW (k := 0) T.d_check_of.F sc_check_of rfl rfl fun cdv A outer s H E hr => ⟨_, (sc (sset 1 nd ec_int) (sc (sfor PassesOwn.never rfl (kiter K (ev 0)) (gnm 2 nd) (s1 (sset 1 nd (ebin ow_mod (ebin (ka_add K) (ebin ow_mul (ev 1) ec_int) (ecb cb_ord T.m_ord (by decide +kernel) (ac (ev 2) an))) (kg K z1_MOST_CHECK z2_MOST_CHECK z3_MOST_CHECK))))) (s1 (sret (e_four (ev 1))))))⟩
theorem G_record (T : Txt K mg) : FnT P w K mg base 2 T.d_record.f T.d_record.fd ["deed"] (spW K 1 w_record) := by
  have nd : (["deed", "body"] : List Str).Nodup := sc_record.nd
  exact okWT (k := 1) T.d_record.F sc_record rfl rfl fun cdv A outer s H E hr => ⟨_, (Tsc (Tset 1 nd (Tif (tcmp (ka_eq K (hu64 hr)) (kix K (ev 0) ec_int) ec_str) (Tbin (ka_add K) (PEW.T ec_str) (Tcall (G_escaped T ) (hr.mono (by decide)) T.d_escaped.g T.d_escaped.F.kp (b_escaped T) (Tac (PEW.T (kix K (ev 0) ec_int)) Tan))) (PEW.T (ebin (ka_add K) ec_str (ecty cb_str T.m_str (by decide +kernel) (ac (kix K (ev 0) ec_int) an)))))) (Ts1 (PSW.T (sret (ebin (ka_add K) (ebin (ka_add K) (kcall K (G_check_of T ) (hr.mono (by decide)) T.d_check_of.g T.d_check_of.F.kp (b_check_of T) (ac (ev 1) an)) (ev 1)) ec_str)))))⟩
theorem G_read_record (T : Txt K mg) : FnOk P w K mg base CX0 2 T.d_read_record.f T.d_read_record.fd ["text", "at"] (spW K 2 w_read_record) := by
  obtain ⟨v_FIGURES, u_FIGURES, z1_FIGURES, z2_FIGURES, z3_FIGURES⟩ := T.a_FIGURES
  have nd : (["text", "at", "end", "body", "told", "figures", "sign"] : List Str).Nodup := sc_read_record.nd
  exact okW (k := 1) T.d_read_record.F sc_read_record rfl rfl fun cdv A outer s H E hr => ⟨_, (sc (sset 2 nd (ev 1)) (sc (swhile PassesOwn.never (PWW.t (tand (tcmp ow_lt (ev 2) (ecb (kb_len K) T.m_len (by decide +kernel) (ac (ev 0) an))) (tand1 (tcmp (ka_ne K (hu64 hr)) (kix K (ev 0) (ev 2)) ec_str)))) (s1 (saug 2 nd ow_iadd ec_int))) (sc (sset 3 nd (ksl K (ev 0) (os_ (ebin (ka_add K) (ev 1) ec_int)) (os_ (ev 2)))) (sc (sif (PWW.t (tor (tcmp ow_ge (ev 2) (ecb (kb_len K) T.m_len (by decide +kernel) (ac (ev 0) an))) (tor (tcmp (ka_eq K (hu64 hr)) (ecb (kb_len K) T.m_len (by decide +kernel) (ac (ev 3) an)) ec_int) (tor1 (tcmp (ka_ne K (hu64 hr)) (ksl K (ev 0) (os_ (ev 1)) (os_ (ebin (ka_add K) (ev 1) ec_int))) (kcall K (G_check_of T ) (hr.mono (by decide)) T.d_check_of.g T.d_check_of.F.kp (b_check_of T) (ac (ev 3) an))))))) (s1 (sret ec_non)) sn) (sc (sif (tcmp (ka_eq K (hu64 hr)) (kix K (ev 3) ec_int) ec_str) (sc (sset 4 nd (kcall K (G_plain T ) (hr.mono (by decide)) T.d_plain.g T.d_plain.F.kp (b_plain T) (ac (ksl K (ev 3) (os_ ec_int) on_) an))) (s1 (sret (eif (tcmp ow_notN (ev 4) ec_non) (etup (ac (etup (ac ec_str (ac (ev 4) an))) (ac (ebin (ka_add K) (ev 2) ec_int) an))) ec_non)))) sn) (sc (sset 5 nd (ksl K (ev 3) (os_ ec_int) on_)) (sc (sif (PWW.t (tor (tcmp (ka_ne K (hu64 hr)) (kix K (ev 3) ec_int) ec_str) (tor (tnot (tchain ow_le ow_le ec_int (ecb (kb_len K) T.m_len (by decide +kernel) (ac (ev 5) an)) ec_int)) (tor1 (tnot (ktru K (ecb (kb_all K rfl) T.m_all (by decide +kernel) (ac (elc rfl nd (own := [("sign", 6)]) (kiter K (ev 5)) (blkOk_by (N := ["text", "at", "end", "body", "told", "figures", "sign"]) (sc := defScope s_read_record) (by decide +kernel)) (fun _ _ _ _ _ => (gnm 6 nd)) (fun _ _ _ _ _ => ts0) (fun _ _ _ _ _ => (ecmp (ka_in K (hu65 hr)) (ev 6) (kg K z1_FIGURES z2_FIGURES z3_FIGURES)))) an)))))))) (s1 (sret ec_non)) sn) (sc (sif (PWW.t (tand (tcmp ow_gt (ecb (kb_len K) T.m_len (by decide +kernel) (ac (ev 5) an)) ec_int) (tand1 (tcmp (ka_eq K (hu64 hr)) (kix K (ev 5) ec_int) ec_str)))) (s1 (sret ec_non)) sn) (s1 (sret (etup (ac (etup (ac ec_str (ac (ecty cb_int T.m_int (by decide +kernel) (ac (ev 5) an)) an))) (ac (ebin (ka_add K) (ev 2) ec_int) an)))))))))))))⟩
theorem G_appended (T : Txt K mg) : FnT P w K mg base 3 T.d_appended.f T.d_appended.fd ["text", "at", "deed"] (spW K 3 w_appended) := by
  have nd : (["text", "at", "deed"] : List Str).Nodup := sc_appended.nd
  exact okWT (k := 2) T.d_appended.F sc_appended rfl rfl fun cdv A outer s H E hr => ⟨_, (Ts1 (Tret (Tbin (ka_add K) (PEW.T (ksl K (ev 0) on_ (os_ (ev 1)))) (Tcall (G_record T ) (hr.mono (by decide)) T.d_record.g T.d_record.F.kp (b_record T) (Tac (PEW.T (ev 2)) Tan)))))⟩
theorem G__law_cell (T : Txt K mg) : FnOk P w K mg base CX0 1 T.d__law_cell.f T.d__law_cell.fd ["script", "k"] (spW K 2 cellW) := by
  refine T.d__law_cell.F.ok (k := 0) sc__law_cell (fun vs H Q E h => spW_len h) (fun cdv A outer s H vs Q E hr h => ⟨_, PSs.nox ?_, cell_ok h⟩)
  exact pss_cons (ps_if (pt_cmpR op_lt (pv 1) (pe_callB call_len (by rfl) T.m_len (by decide +kernel) (pa_cons (pv 0) pa_nil)) (nomark _)) (pss_one (ps_ret (pe_ix ix_list (pv 0) (pv 1) (fun _ _ => rfl)))) pss_nil) (pss_one (ps_ret pe_int))
theorem G__law_digits (T : Txt K mg) : FnOk P w K mg base CX0 2 T.d__law_digits.f T.d__law_digits.fd ["script", "first", "last"] (spW K 3 w__law_digits) := by
  have nd : (["script", "first", "last", "digits", "k", "cell", "turn", "seed"] : List Str).Nodup := sc__law_digits.nd
  exact okW (k := 1) T.d__law_digits.F sc__law_digits rfl rfl fun cdv A outer s H E hr => ⟨_, (sc (sown 3 nd (nlst an)) (sc (sfor PassesOwn.never rfl (irng2 T.m_range (ev 1) (ev 2)) (gnm 4 nd) (sc (sset 5 nd (kcall K (G__law_cell T ) (hr.mono (by decide)) T.d__law_cell.g T.d__law_cell.F.kp (b__law_cell T) (ac (ev 0) (ac (ev 4) an)))) (sc (sif (tcmp ow_lt (ev 5) ec_int) (s1 (sset 5 nd (ebin ow_sub ec_int (ebin ow_mul ec_int (ev 5))))) sn) (s1 (sif (tcmp ow_ge (ev 5) (ebin ow_pow ec_int ec_int)) (s1 (sfor PassesOwn.never rfl (irng1 T.m_range ec_int) (gnm 6 nd) (s1 (sif (tcmp ow_gt (ev 5) ec_int) (sc (sapp 3 (ebin ow_mod (ecty cb_int T.m_int (by decide +kernel) (ac (ev 5) an)) ec_int)) (s1 (sset 5 nd (ebin ow_div (ev 5) ec_int)))) sn)))) (sc (sset 7 nd (ebin ow_mod (ecty cb_int T.m_int (by decide +kernel) (ac (ebin (ka_add K) (ebin (ka_add K) (ebin ow_mul (ev 5) ec_int) (ebin ow_mul (ev 4) ec_int)) ec_int) an)) ec_int)) (s1 (sfor PassesOwn.never rfl (irng1 T.m_range ec_int) (gnm 6 nd) (sc (sset 7 nd (ebin ow_mod (ecty cb_int T.m_int (by decide +kernel) (ac (ebin (ka_add K) (ebin (ka_add K) (ebin ow_mul (ev 7) ec_int) (ebin ow_mul ec_int (ev 6))) ec_int) an)) ec_int)) (s1 (sapp 3 (ebin ow_mod (ecty cb_int T.m_int (by decide +kernel) (ac (ebin ow_div (ev 7) ec_int) an)) ec_int)))))))))))) (s1 (sret (ev 3)))))⟩
theorem G__law_draw (T : Txt K mg) : FnOk P w K mg base CX0 1 T.d__law_draw.f T.d__law_draw.fd ["box", "many"] (spW K 2 drawW) := by
  refine T.d__law_draw.F.ok (k := 0) sc__law_draw (fun vs H Q E h => spW_len h) (fun cdv A outer s H vs Q E hr h => ⟨_, PSs.nox ?_, draw_ok h⟩)
  exact pss_cons (ps_asg (pe_op op_add (pe_ix ix_list (pv 0) pe_int (fun _ _ => rfl)) pe_int) (pg_sub (pv 0) pe_int set_list)) (pss_cons (ps_if (pt_cmpR op_gt (pe_ix ix_list (pv 0) pe_int (fun _ _ => rfl)) (pe_callB call_len (by rfl) T.m_len (by decide +kernel) (pa_cons (pe_ix ix_list (pv 0) pe_int (fun _ _ => rfl)) pa_nil)) (nomark _))
    (pss_one (ps_ret (pe_op op_mod (pe_callTy call_int1 (by rfl) T.m_int (by decide +kernel) (pa_cons (pe_op op_add (pe_op op_mul (pe_ix ix_list (pv 0) pe_int (fun _ _ => rfl)) pe_int) pe_int) pa_nil)) (pv 1)))) pss_nil)
    (pss_one (ps_ret (pe_op op_mod (pe_callTy call_int1 (by rfl) T.m_int (by decide +kernel) (pa_cons (pe_ix ix_list (pe_ix ix_list (pv 0) pe_int (fun _ _ => rfl)) (pe_op op_sub (pe_ix ix_list (pv 0) pe_int (fun _ _ => rfl)) pe_int) (fun _ _ => rfl)) pa_nil)) (pv 1)))))
theorem G__law_pick (T : Txt K mg) : FnOk P w K mg base CX0 2 T.d__law_pick.f T.d__law_pick.fd ["box", "row"] (spW K 2 w__law_pick) := by
  have nd : (["box", "row"] : List Str).Nodup := sc__law_pick.nd
  exact okW (k := 1) T.d__law_pick.F sc__law_pick rfl rfl fun cdv A outer s H E hr => ⟨_, (s1 (sret (kix K (ev 1) (ebin ow_mod (ecty cb_int T.m_int (by decide +kernel) (ac (kcall K (G__law_draw T ) (hr.mono (by decide)) T.d__law_draw.g T.d__law_draw.F.kp (b__law_draw T) (ac (ev 0) (ac ec_int an))) an)) (ecb (kb_len K) T.m_len (by decide +kernel) (ac (ev 1) an))))))⟩
theorem G__law_same (T : Txt K mg) : ∀ n : Nat, FnOk P w K mg base CX0 n T.d__law_same.f T.d__law_same.fd ["told", "due"] (spW K 2 (w__law_same n))
  | 0 => ok_false
  | n + 1 => by
    have ih := G__law_same T n
    have nd : (["told", "due", "k"] : List Str).Nodup := sc__law_same.nd
    exact okW (k := n) T.d__law_same.F sc__law_same rfl rfl fun cdv A outer s H E hr => ⟨_, (sc (sif (tcmp ow_isN (ev 1) ec_non) (s1 (sret (ecmp ow_isN (ev 0) ec_non))) sn) (sc (sif (tcmp ow_isB (ev 1) ec_bl) (s1 (sret (ecmp ow_isB (ev 0) ec_bl))) sn) (sc (sif (tcmp ow_isB (ev 1) ec_bl) (s1 (sret (ecmp ow_isB (ev 0) ec_bl))) sn) (sc (sif (ktru K (kisi K isT_str T.m_isinstance T.m_str (by decide +kernel) (ev 1))) (s1 (sret (eand (kisi K isT_str T.m_isinstance T.m_str (by decide +kernel) (ev 0)) (eone (ecmp (ka_eq K (hu64 hr)) (ecb cb_repr T.m_repr (by decide +kernel) (ac (ev 0) an)) (ecb cb_repr T.m_repr (by decide +kernel) (ac (ev 1) an))))))) sn) (sc (sif (ktru K (kisi K isT_int T.m_isinstance T.m_int (by decide +kernel) (ev 1))) (s1 (sret (eand (kisi K isT_int T.m_isinstance T.m_int (by decide +kernel) (ev 0)) (eand (enot (kisi K isT_bool T.m_isinstance T.m_bool (by decide +kernel) (ev 0))) (eone (ecmp (ka_eq K (hu64 hr)) (ecb cb_repr T.m_repr (by decide +kernel) (ac (ev 0) an)) (ecb cb_repr T.m_repr (by decide +kernel) (ac (ev 1) an)))))))) sn) (sc (sif (PWW.t (tor (PWW.t (tand (ktru K (kisi K isT_tuple T.m_isinstance T.m_tuple (by decide +kernel) (ev 1))) (tand1 (tnot (ktru K (kisi K isT_tuple T.m_isinstance T.m_tuple (by decide +kernel) (ev 0))))))) (tor1 (PWW.t (tand (ktru K (kisi K isT_list T.m_isinstance T.m_list (by decide +kernel) (ev 1))) (tand1 (tnot (ktru K (kisi K isT_list T.m_isinstance T.m_list (by decide +kernel) (ev 0)))))))))) (s1 (sret ec_bl)) sn) (sc (sif (tcmp (ka_ne K (hu64 hr)) (ecb (kb_len K) T.m_len (by decide +kernel) (ac (ev 0) an)) (ecb (kb_len K) T.m_len (by decide +kernel) (ac (ev 1) an))) (s1 (sret ec_bl)) sn) (sc (sfor PassesOwn.never rfl (irng1 T.m_range (ecb (kb_len K) T.m_len (by decide +kernel) (ac (ev 1) an))) (gnm 2 nd) (s1 (sif (tnot (ktru K (kcall K ih (hr.mono (Nat.le_refl _)) T.d__law_same.g T.d__law_same.F.kp (b__law_same T) (ac (kix K (ev 0) (ev 2)) (ac (kix K (ev 1) (ev 2)) an))))) (s1 (sret ec_bl)) sn))) (s1 (sret ec_bl))))))))))⟩
theorem G__law_check (T : Txt K mg) : FnOk P w K mg base CX0 1 T.d__law_check.f T.d__law_check.fd ["text"] (spW K 1 w__law_check) := by
  have nd : (["text", "mark", "sign"] : List Str).Nodup := sc__law_check.nd
  exact okW (k := 0) T.d__law_check.F sc__law_check rfl rfl fun cdv A outer s H E hr => ⟨_, (sc (sset 1 nd ec_int) (sc (sfor PassesOwn.never rfl (kiter K (ev 0)) (gnm 2 nd) (s1 (sset 1 nd (ebin ow_mod (ecty cb_int T.m_int (by decide +kernel) (ac (ebin (ka_add K) (ebin ow_mul (ev 1) ec_int) (ecb cb_ord T.m_ord (by decide +kernel) (ac (ev 2) an))) an)) ec_int)))) (s1 (sret (ksl K (ebin (ka_add K) ec_str (ecty cb_str T.m_str (by decide +kernel) (ac (ev 1) an))) (os_ (eneg ec_int)) on_)))))⟩
theorem G__law_escaped (T : Txt K mg) : FnOk P w K mg base CX0 1 T.d__law_escaped.f T.d__law_escaped.fd ["text"] (spW K 1 w__law_escaped) := by
  have nd : (["text", "found", "sign"] : List Str).Nodup := sc__law_escaped.nd
  exact okW (k := 0) T.d__law_escaped.F sc__law_escaped rfl rfl fun cdv A outer s H E hr => ⟨_, (sc (sset 1 nd ec_str) (sc (sfor PassesOwn.never rfl (kiter K (ev 0)) (gnm 2 nd) (s1 (sset 1 nd (ebin (ka_add K) (ev 1) (eif (tcmp (ka_eq K (hu64 hr)) (ev 2) ec_str) ec_str (eif (tcmp (ka_eq K (hu64 hr)) (ev 2) ec_str) ec_str (ev 2))))))) (s1 (sret (ev 1)))))⟩
theorem G__law_sealed (T : Txt K mg) : FnOk P w K mg base CX0 2 T.d__law_sealed.f T.d__law_sealed.fd ["body"] (spW K 1 w__law_sealed) := by
  have nd : (["body"] : List Str).Nodup := sc__law_sealed.nd
  exact okW (k := 1) T.d__law_sealed.F sc__law_sealed rfl rfl fun cdv A outer s H E hr => ⟨_, (s1 (sret (ebin (ka_add K) (ebin (ka_add K) (kcall K (G__law_check T ) (hr.mono (by decide)) T.d__law_check.g T.d__law_check.F.kp (b__law_check T) (ac (ev 0) an)) (ev 0)) ec_str)))⟩
theorem G__law_record (T : Txt K mg) : FnOk P w K mg base CX0 3 T.d__law_record.f T.d__law_record.fd ["deed"] (spW K 1 w__law_record) := by
  have nd : (["deed"] : List Str).Nodup := sc__law_record.nd
  exact okW (k := 2) T.d__law_record.F sc__law_record rfl rfl fun cdv A outer s H E hr => ⟨_, (s1 (sret (kcall K (G__law_sealed T ) (hr.mono (by decide)) T.d__law_sealed.g T.d__law_sealed.F.kp (b__law_sealed T) (ac (eif (tcmp (ka_eq K (hu64 hr)) (kix K (ev 0) ec_int) ec_str) (ebin (ka_add K) ec_str (kcall K (G__law_escaped T ) (hr.mono (by decide)) T.d__law_escaped.g T.d__law_escaped.F.kp (b__law_escaped T) (ac (kix K (ev 0) ec_int) an))) (ebin (ka_add K) ec_str (ecty cb_str T.m_str (by decide +kernel) (ac (kix K (ev 0) ec_int) an)))) an))))⟩
theorem G__law_plain (T : Txt K mg) : FnOk P w K mg base CX0 2 T.d__law_plain.f T.d__law_plain.fd ["text"] (spW K 1 w__law_plain) := by
  have nd : (["text", "found", "marked", "sign"] : List Str).Nodup := sc__law_plain.nd
  exact okW (k := 1) T.d__law_plain.F sc__law_plain rfl rfl fun cdv A outer s H E hr => ⟨_, (sc (sset 1 nd ec_str) (sc (sset 2 nd ec_bl) (sc (sfor PassesOwn.never rfl (kiter K (ev 0)) (gnm 3 nd) (sc (sif (ktru K (ev 2)) (s1 (sset 1 nd (ebin (ka_add K) (ev 1) (eif (tcmp (ka_eq K (hu64 hr)) (ev 3) ec_str) ec_str (ev 3))))) (s1 (sif (tcmp (ka_ne K (hu64 hr)) (ev 3) ec_str) (s1 (sset 1 nd (ebin (ka_add K) (ev 1) (ev 3)))) sn))) (s1 (sset 2 nd (eand (ecmp (ka_eq K (hu64 hr)) (ev 3) ec_str) (eone (enot (ev 2)))))))) (s1 (sret (eif (PWW.t (tand (tnot (ktru K (ev 2))) (tand1 (tcmp (ka_eq K (hu64 hr)) (kcall K (G__law_escaped T ) (hr.mono (by decide)) T.d__law_escaped.g T.d__law_escaped.F.kp (b__law_escaped T) (ac (ev 1) an)) (ev 0))))) (ev 1) ec_non))))))⟩
theorem G__law_read (T : Txt K mg) : FnOk P w K mg base CX0 3 T.d__law_read.f T.d__law_read.fd ["text", "at"] (spW K 2 w__law_read) := by
  have nd : (["text", "at", "ends", "row", "told", "figures", "fine", "number", "sign", "k"] : List Str).Nodup := sc__law_read.nd
  exact okW (k := 2) T.d__law_read.F sc__law_read rfl rfl fun cdv A outer s H E hr => ⟨_, (sc (ssetC 2 rfl nd (own := [("k", 9)]) (irng2 T.m_range (ev 1) (ecb (kb_len K) T.m_len (by decide +kernel) (ac (ev 0) an))) (blkOk_by (N := ["text", "at", "ends", "row", "told", "figures", "fine", "number", "sign", "k"]) (sc := defScope s__law_read) (by decide +kernel)) (fun _ _ _ _ _ => (gnm 9 nd)) (fun _ _ _ _ _ => (ts1 (tcmp (ka_eq K (hu64 hr)) (kix K (ev 0) (ev 9)) ec_str))) (fun _ _ _ _ _ => (ev 9))) (sc (sif (tcmp (ka_eq K (hu64 hr)) (ev 2) (elst an)) (s1 (sret ec_non)) sn) (sc (sset 3 nd (ksl K (ev 0) (os_ (ev 1)) (os_ (kix K (ev 2) ec_int)))) (sc (sif (PWW.t (tor (tcmp ow_lt (ecb (kb_len K) T.m_len (by decide +kernel) (ac (ev 3) an)) ec_int) (tor (tcmp (ka_ne K (hu64 hr)) (ksl K (ev 3) on_ (os_ ec_int)) (kcall K (G__law_check T ) (hr.mono (by decide)) T.d__law_check.g T.d__law_check.F.kp (b__law_check T) (ac (ksl K (ev 3) (os_ ec_int) on_) an))) (tor1 (tcmp (ka_notin K (hu65 hr)) (kix K (ev 3) ec_int) ec_str))))) (s1 (sret ec_non)) sn) (sc (sif (tcmp (ka_eq K (hu64 hr)) (kix K (ev 3) ec_int) ec_str) (sc (sset 4 nd (kcall K (G__law_plain T ) (hr.mono (by decide)) T.d__law_plain.g T.d__law_plain.F.kp (b__law_plain T) (ac (ksl K (ev 3) (os_ ec_int) on_) an))) (s1 (sret (eif (tcmp ow_notN (ev 4) ec_non) (etup (ac (etup (ac ec_str (ac (ev 4) an))) (ac (ebin (ka_add K) (kix K (ev 2) ec_int) ec_int) an))) ec_non)))) sn) (sc (sset 5 nd (ksl K (ev 3) (os_ ec_int) on_)) (sc (sset 6 nd (eand (echain ow_le ow_le ec_int (ecb (kb_len K) T.m_len (by decide +kernel) (ac (ev 5) an)) ec_int) (eone (ecmp (ka_eq K (hu64 hr)) (elc rfl nd (own := [("sign", 8)]) (kiter K (ev 5)) (blkOk_by (N := ["text", "at", "ends", "row", "told", "figures", "fine", "number", "sign", "k"]) (sc := defScope s__law_read) (by decide +kernel)) (fun _ _ _ _ _ => (gnm 8 nd)) (fun _ _ _ _ _ => (ts1 (tcmp (ka_notin K (hu65 hr)) (ev 8) ec_str))) (fun _ _ _ _ _ => (ev 8))) (elst an))))) (sc (sif (PWW.t (tor (tnot (ktru K (ev 6))) (tor1 (PWW.t (tand (tcmp ow_gt (ecb (kb_len K) T.m_len (by decide +kernel) (ac (ev 5) an)) ec_int) (tand1 (tcmp (ka_eq K (hu64 hr)) (kix K (ev 5) ec_int) ec_str))))))) (s1 (sret ec_non)) sn) (sc (sset 7 nd ec_int) (sc (sfor PassesOwn.never rfl (kiter K (ev 5)) (gnm 8 nd) (s1 (sset 7 nd (ebin (ka_add K) (ebin ow_mul (ev 7) ec_int) (esindex ec_str (ev 8)))))) (s1 (sret (etup (ac (etup (ac ec_str (ac (ev 7) an))) (ac (ebin (ka_add K) (kix K (ev 2) ec_int) ec_int) an)))))))))))))))⟩
theorem G__law_signs (T : Txt K mg) : FnOk P w K mg base CX0 3 T.d__law_signs.f T.d__law_signs.fd ["box"] (spW K 1 w__law_signs) := by
  have nd : (["box", "k"] : List Str).Nodup := sc__law_signs.nd
  exact okW (k := 2) T.d__law_signs.F sc__law_signs rfl rfl fun cdv A outer s H E hr => ⟨_, (s1 (sret (kjoin K ec_str (elc rfl nd (own := [("k", 1)]) (irng1 T.m_range (kcall K (G__law_pick T ) (hr.mono (by decide)) T.d__law_pick.g T.d__law_pick.F.kp (b__law_pick T) (ac (ev 0) (ac (elst (ac ec_int (ac ec_int (ac ec_int (ac ec_int (ac ec_int an)))))) an)))) (blkOk_by (N := ["box", "k"]) (sc := defScope s__law_signs) (by decide +kernel)) (fun _ _ _ _ _ => (gnm 1 nd)) (fun _ _ _ _ _ => ts0) (fun _ _ _ _ _ => (kcall K (G__law_pick T ) (hr.mono (by decide)) T.d__law_pick.g T.d__law_pick.F.kp (b__law_pick T) (ac (ev 0) (ac ec_str an))))))))⟩
theorem G__law_spoilt (T : Txt K mg) : FnOk P w K mg base CX0 3 T.d__law_spoilt.f T.d__law_spoilt.fd ["box", "deed"] (spW K 2 w__law_spoilt) := by
  have nd : (["box", "deed", "body", "kind", "row", "at"] : List Str).Nodup := sc__law_spoilt.nd
  exact okW (k := 2) T.d__law_spoilt.F sc__law_spoilt rfl rfl fun cdv A outer s H E hr => ⟨_, (sc (sset 2 nd (eif (tcmp (ka_eq K (hu64 hr)) (kix K (ev 1) ec_int) ec_str) (ebin (ka_add K) ec_str (kcall K (G__law_escaped T ) (hr.mono (by decide)) T.d__law_escaped.g T.d__law_escaped.F.kp (b__law_escaped T) (ac (kix K (ev 1) ec_int) an))) (ebin (ka_add K) ec_str (ecty cb_str T.m_str (by decide +kernel) (ac (kix K (ev 1) ec_int) an))))) (sc (sset 3 nd (kcall K (G__law_draw T ) (hr.mono (by decide)) T.d__law_draw.g T.d__law_draw.F.kp (b__law_draw T) (ac (ev 0) (ac ec_int an)))) (sc (sif (tcmp (ka_eq K (hu64 hr)) (ev 3) ec_int) (s1 (sret (kcall K (G__law_sealed T ) (hr.mono (by decide)) T.d__law_sealed.g T.d__law_sealed.F.kp (b__law_sealed T) (ac (ebin (ka_add K) (ev 2) (kcall K (G__law_pick T ) (hr.mono (by decide)) T.d__law_pick.g T.d__law_pick.F.kp (b__law_pick T) (ac (ev 0) (ac (elst (ac ec_str (ac ec_str (ac ec_str (ac ec_str (ac ec_str an)))))) an)))) an)))) sn) (sc (sif (tcmp (ka_eq K (hu64 hr)) (ev 3) ec_int) (s1 (sret (kcall K (G__law_sealed T ) (hr.mono (by decide)) T.d__law_sealed.g T.d__law_sealed.F.kp (b__law_sealed T) (ac (kcall K (G__law_pick T ) (hr.mono (by decide)) T.d__law_pick.g T.d__law_pick.F.kp (b__law_pick T) (ac (ev 0) (ac (elst (ac ec_str (ac ec_str (ac ec_str (ac ec_str (ac ec_str (ac ec_str (ac ec_str (ac ec_str (ac ec_str (ac ec_str an))))))))))) an))) an)))) sn) (sc (sif (tcmp (ka_eq K (hu64 hr)) (ev 3) ec_int) (s1 (sret (ebin (ka_add K) (kcall K (G__law_check T ) (hr.mono (by decide)) T.d__law_check.g T.d__law_check.F.kp (b__law_check T) (ac (ev 2) an)) (ev 2)))) sn) (sc (sif (tcmp (ka_eq K (hu64 hr)) (ev 3) ec_int) (s1 (sret (ebin (ka_add K) (ebin (ka_add K) (ksl K (kcall K (G__law_check T ) (hr.mono (by decide)) T.d__law_check.g T.d__law_check.F.kp (b__law_check T) (ac (ev 2) an)) on_ (os_ ec_int)) (ev 2)) ec_str))) sn) (sc (sif (tcmp (ka_eq K (hu64 hr)) (ev 3) ec_int) (s1 (sret (ksl K (kcall K (G__law_sealed T ) (hr.mono (by decide)) T.d__law_sealed.g T.d__law_sealed.F.kp (b__law_sealed T) (ac (ev 2) an)) (os_ ec_int) on_))) sn) (sc (sif (tcmp (ka_eq K (hu64 hr)) (ev 3) ec_int) (s1 (sret (ebin (ka_add K) (ebin (ka_add K) (kcall K (G__law_check T ) (hr.mono (by decide)) T.d__law_check.g T.d__law_check.F.kp (b__law_check T) (ac (ebin (ka_add K) (ev 2) ec_str) an)) (ev 2)) ec_str))) sn) (sc (sif (tcmp (ka_eq K (hu64 hr)) (ev 3) ec_int) (s1 (sret (kcall K (G__law_pick T ) (hr.mono (by decide)) T.d__law_pick.g T.d__law_pick.F.kp (b__law_pick T) (ac (ev 0) (ac (elst (ac ec_str (ac ec_str (ac ec_str (ac ec_str (ac (ebin (ka_add K) (kcall K (G__law_check T ) (hr.mono (by decide)) T.d__law_check.g T.d__law_check.F.kp (b__law_check T) (ac ec_str an)) ec_str) an)))))) an))))) sn) (sc (sset 4 nd (kcall K (G__law_sealed T ) (hr.mono (by decide)) T.d__law_sealed.g T.d__law_sealed.F.kp (b__law_sealed T) (ac (ev 2) an))) (sc (sset 5 nd (kcall K (G__law_draw T ) (hr.mono (by decide)) T.d__law_draw.g T.d__law_draw.F.kp (b__law_draw T) (ac (ev 0) (ac (ecb (kb_len K) T.m_len (by decide +kernel) (ac (ev 4) an)) an)))) (s1 (sret (ebin (ka_add K) (ebin (ka_add K) (ksl K (ev 4) on_ (os_ (ev 5))) (kcall K (G__law_pick T ) (hr.mono (by decide)) T.d__law_pick.g T.d__law_pick.F.kp (b__law_pick T) (ac (ev 0) (ac (elst (ac ec_str (ac ec_str (ac ec_str (ac ec_str (ac ec_str an)))))) an)))) (ksl K (ev 4) (os_ (ebin (ka_add K) (ev 5) ec_int)) on_)))))))))))))))⟩
theorem G_law (T : Txt K mg) (hl : LawTrue) : FnOk P w K mg base CX0 7 T.d_law.f T.d_law.fd ["script"] (spLaw K) := by
  refine T.d_law.F.ok (k := 6) sc_law (fun vs H Q E h => by obtain ⟨a, ns, rfl, _⟩ := h; rfl) (fun cdv A outer s H vs Q E hr h => ?_)
  have nd : (["script", "box", "turn", "text", "deed", "row", "junk", "tail", "step", "bent"] : List Str).Nodup := sc_law.nd
  have rest : ∃ t, PSsWT (cxOf CX0 P w K mg base ["script", "box", "turn", "text", "deed", "row", "junk", "tail", "step", "bent"] "law" (defScope s_law) T.d_law.f cdv A outer s H E).nox (defBody s_law).tail t w_law := ⟨_, (Tsc (Tfor PassesOwn.never rfl (irng1 T.m_range ec_int) (gnm 2 nd) (Tsc (PSW.T (sset 3 nd (kcall K (G__law_signs T ) (hr.mono (by decide)) T.d__law_signs.g T.d__law_signs.F.kp (b__law_signs T) (ac (ev 1) an)))) (Tsc (TifS (PWWT.test (Tor (Tnot (Ttru (Tcall (FnOk.tok (G__law_same T 6)) (hr.mono (by decide)) T.d__law_same.g T.d__law_same.F.kp (b__law_same T) (Tac (Tcall (G_escaped T ) (hr.mono (by decide)) T.d_escaped.g T.d_escaped.F.kp (b_escaped T) (Tac (PEW.T (ev 3)) Tan)) (Tac (PEW.T (kcall K (G__law_escaped T ) (hr.mono (by decide)) T.d__law_escaped.g T.d__law_escaped.F.kp (b__law_escaped T) (ac (ev 3) an))) Tan))))) (Tor1 (PTW.T (tnot (ktru K (kcall K (G__law_same T 6) (hr.mono (by decide)) T.d__law_same.g T.d__law_same.F.kp (b__law_same T) (ac (kcall K (G_plain T ) (hr.mono (by decide)) T.d_plain.g T.d_plain.F.kp (b_plain T) (ac (kcall K (G__law_escaped T ) (hr.mono (by decide)) T.d__law_escaped.g T.d__law_escaped.F.kp (b__law_escaped T) (ac (ev 3) an)) an)) (ac (ev 3) an))))))))) (Ts1 (PSW.T (sret ec_bl))) Tsn) (Tsc (PSW.T (sif (PWW.t (tor (tnot (ktru K (kcall K (G__law_same T 6) (hr.mono (by decide)) T.d__law_same.g T.d__law_same.F.kp (b__law_same T) (ac (kcall K (G_plain T ) (hr.mono (by decide)) T.d_plain.g T.d_plain.F.kp (b_plain T) (ac (ev 3) an)) (ac (kcall K (G__law_plain T ) (hr.mono (by decide)) T.d__law_plain.g T.d__law_plain.F.kp (b__law_plain T) (ac (ev 3) an)) an))))) (tor1 (tnot (ktru K (kcall K (G__law_same T 6) (hr.mono (by decide)) T.d__law_same.g T.d__law_same.F.kp (b__law_same T) (ac (kcall K (G_check_of T ) (hr.mono (by decide)) T.d_check_of.g T.d_check_of.F.kp (b_check_of T) (ac (ev 3) an)) (ac (kcall K (G__law_check T ) (hr.mono (by decide)) T.d__law_check.g T.d__law_check.F.kp (b__law_check T) (ac (ev 3) an)) an)))))))) (s1 (sret ec_bl)) sn)) (Tsc (PSW.T (sset 4 nd (kcall K (G__law_pick T ) (hr.mono (by decide)) T.d__law_pick.g T.d__law_pick.F.kp (b__law_pick T) (ac (ev 1) (ac (elst (ac (etup (ac ec_str (ac (ev 3) an))) (ac (etup (ac ec_str (ac (kcall K (G__law_pick T ) (hr.mono (by decide)) T.d__law_pick.g T.d__law_pick.F.kp (b__law_pick T) (ac (ev 1) (ac (elst (ac ec_int (ac ec_int (ac ec_int (ac ec_int (ac ec_int an)))))) an))) an))) an))) an))))) (Tsc (PSW.T (sset 5 nd (kcall K (G__law_record T ) (hr.mono (by decide)) T.d__law_record.g T.d__law_record.F.kp (b__law_record T) (ac (ev 4) an)))) (Tsc (PSW.T (spar (i := 6) (j := 7) rfl nd (ac (kcall K (G__law_signs T ) (hr.mono (by decide)) T.d__law_signs.g T.d__law_signs.F.kp (b__law_signs T) (ac (ev 1) an)) (ac (kcall K (G__law_signs T ) (hr.mono (by decide)) T.d__law_signs.g T.d__law_signs.F.kp (b__law_signs T) (ac (ev 1) an)) an)))) (Tsc (TifS (PWWT.test (Tor (Tnot (Ttru (Tcall (FnOk.tok (G__law_same T 6)) (hr.mono (by decide)) T.d__law_same.g T.d__law_same.F.kp (b__law_same T) (Tac (Tcall (G_record T ) (hr.mono (by decide)) T.d_record.g T.d_record.F.kp (b_record T) (Tac (PEW.T (ev 4)) Tan)) (Tac (PEW.T (ev 5)) Tan))))) (Tor1 (PTW.T (tnot (ktru K (kcall K (G__law_same T 6) (hr.mono (by decide)) T.d__law_same.g T.d__law_same.F.kp (b__law_same T) (ac (kcall K (G_read_record T ) (hr.mono (by decide)) T.d_read_record.g T.d_read_record.F.kp (b_read_record T) (ac (ebin (ka_add K) (ebin (ka_add K) (ev 6) (ev 5)) (ev 7)) (ac (ecb (kb_len K) T.m_len (by decide +kernel) (ac (ev 6) an)) an))) (ac (etup (ac (ev 4) (ac (ebin (ka_add K) (ecb (kb_len K) T.m_len (by decide +kernel) (ac (ev 6) an)) (ecb (kb_len K) T.m_len (by decide +kernel) (ac (ev 5) an))) an))) an))))))))) (Ts1 (PSW.T (sret ec_bl))) Tsn) (Tsc (TifS (Tnot (Ttru (Tcall (FnOk.tok (G__law_same T 6)) (hr.mono (by decide)) T.d__law_same.g T.d__law_same.F.kp (b__law_same T) (Tac (Tcall (G_appended T ) (hr.mono (by decide)) T.d_appended.g T.d_appended.F.kp (b_appended T) (Tac (PEW.T (ebin (ka_add K) (ev 6) (ev 7))) (Tac (PEW.T (ecb (kb_len K) T.m_len (by decide +kernel) (ac (ev 6) an))) (Tac (PEW.T (ev 4)) Tan)))) (Tac (PEW.T (ebin (ka_add K) (ev 6) (ev 5))) Tan))))) (Ts1 (PSW.T (sret ec_bl))) Tsn) (Tsc (PSW.T (sfor PassesOwn.never rfl (irng1 T.m_range ec_int) (gnm 8 nd) (sc (sset 9 nd (ebin (ka_add K) (ebin (ka_add K) (ev 6) (kcall K (G__law_spoilt T ) (hr.mono (by decide)) T.d__law_spoilt.g T.d__law_spoilt.F.kp (b__law_spoilt T) (ac (ev 1) (ac (ev 4) an)))) (ev 7))) (s1 (sif (tnot (ktru K (kcall K (G__law_same T 6) (hr.mono (by decide)) T.d__law_same.g T.d__law_same.F.kp (b__law_same T) (ac (kcall K (G_read_record T ) (hr.mono (by decide)) T.d_read_record.g T.d_read_record.F.kp (b_read_record T) (ac (ev 9) (ac (ecb (kb_len K) T.m_len (by decide +kernel) (ac (ev 6) an)) an))) (ac (kcall K (G__law_read T ) (hr.mono (by decide)) T.d__law_read.g T.d__law_read.F.kp (b__law_read T) (ac (ev 9) (ac (ecb (kb_len K) T.m_len (by decide +kernel) (ac (ev 6) an)) an))) an))))) (s1 (sret ec_bl)) sn))))) (Ts1 (PSW.T (sif (PWW.t (tor (tcmp ow_notN (kcall K (G_read_record T ) (hr.mono (by decide)) T.d_read_record.g T.d_read_record.F.kp (b_read_record T) (ac (ebin (ka_add K) (ev 6) (ksl K (ev 5) on_ (os_ (kcall K (G__law_draw T ) (hr.mono (by decide)) T.d__law_draw.g T.d__law_draw.F.kp (b__law_draw T) (ac (ev 1) (ac (ecb (kb_len K) T.m_len (by decide +kernel) (ac (ev 5) an)) an)))))) (ac (ecb (kb_len K) T.m_len (by decide +kernel) (ac (ev 6) an)) an))) ec_non) (tor1 (tcmp ow_notN (kcall K (G_read_record T ) (hr.mono (by decide)) T.d_read_record.g T.d_read_record.F.kp (b_read_record T) (ac (ev 5) (ac (ecb (kb_len K) T.m_len (by decide +kernel) (ac (ev 5) an)) an))) ec_non)))) (s1 (sret ec_bl)) sn))))))))))))) (Ts1 (Tret (Tand (PEW.T (kcall K (G__law_same T 6) (hr.mono (by decide)) T.d__law_same.g T.d__law_same.F.kp (b__law_same T) (ac (kcall K (G_check_of T ) (hr.mono (by decide)) T.d_check_of.g T.d_check_of.F.kp (b_check_of T) (ac ec_str an)) (ac ec_str an)))) (Tand (PEW.T (kcall K (G__law_same T 6) (hr.mono (by decide)) T.d__law_same.g T.d__law_same.F.kp (b__law_same T) (ac (kcall K (G_check_of T ) (hr.mono (by decide)) T.d_check_of.g T.d_check_of.F.kp (b_check_of T) (ac ec_str an)) (ac ec_str an)))) (Tone (Tcall (FnOk.tok (G__law_same T 6)) (hr.mono (by decide)) T.d__law_same.g T.d__law_same.F.kp (b__law_same T) (Tac (Tcall (G_record T ) (hr.mono (by decide)) T.d_record.g T.d_record.F.kp (b_record T) (Tac (PEW.T (etup (ac ec_str (ac ec_int an)))) Tan)) (Tac (PEW.T (ebin (ka_add K) (kcall K (G__law_check T ) (hr.mono (by decide)) T.d__law_check.g T.d__law_check.F.kp (b__law_check T) (ac ec_str an)) ec_str)) Tan)))))))))⟩
  obtain ⟨t, rest⟩ := rest
  have dg := fun (e : Expr) (z : ∃ td, PEW (cxOf CX0 P w K mg base ["script", "box", "turn", "text", "deed", "row", "junk", "tail", "step", "bent"] "law" (defScope s_law) T.d_law.f cdv A outer s H E).nox e td dig_law) => z
  obtain ⟨td, dg⟩ := dg _ ⟨_, (kcall K (G__law_digits T ) (hr.mono (by decide)) T.d__law_digits.g T.d__law_digits.F.kp (b__law_digits T) (ac (ev 0) (ac ec_int (ac ec_int an))))⟩
  refine ⟨_, PSs.nox (pss_box (i := 1) nd dg.pe rest.ps), ?_⟩
  exact law_ok (N := ["script", "box", "turn", "text", "deed", "row", "junk", "tail", "step", "bent"]) (i := 1) (by decide) (by decide) dg.sn rest.sn hl h
end
end G_k92_records_as_lines

set_option Elab.async false
set_option linter.all false
set_option maxRecDepth 100000
set_option maxHeartbeats 4000000
/-! k92_records_as_lines: the head and the end, printed by gen.py. -/
namespace G_k92_records_as_lines
open PySem PySem.Spec PyProof.Rows L2 Wy
def fa : List He.Fa := [.glo "escaped", .glo "plain", .glo "check_of", .glo "record", .glo "read_record", .glo "appended", .glo "_law_cell", .glo "_law_digits", .glo "_law_draw", .glo "_law_pick", .glo "_law_same", .glo "_law_check", .glo "_law_escaped", .glo "_law_sealed", .glo "_law_record", .glo "_law_plain", .glo "_law_read", .glo "_law_signs", .glo "_law_spoilt", .glo "law", .free "all", .free "bool", .free "int", .free "isinstance", .free "len", .free "list", .free "ord", .free "range", .free "repr", .free "str", .free "tuple", .str "FIGURES" ("0123456789" : Str), .int "MOST_CHECK" (9973)]
def e_escaped : He.DefD := ⟨("escaped", none), "escaped", "escaped", defArgs s_escaped, defBody s_escaped, defScope s_escaped, [], []⟩
def e_plain : He.DefD := ⟨("plain", none), "plain", "plain", defArgs s_plain, defBody s_plain, defScope s_plain, [], []⟩
def e_check_of : He.DefD := ⟨("check_of", none), "check_of", "check_of", defArgs s_check_of, defBody s_check_of, defScope s_check_of, [], []⟩
def e_record : He.DefD := ⟨("record", none), "record", "record", defArgs s_record, defBody s_record, defScope s_record, [], []⟩
def e_read_record : He.DefD := ⟨("read_record", none), "read_record", "read_record", defArgs s_read_record, defBody s_read_record, defScope s_read_record, [], []⟩
def e_appended : He.DefD := ⟨("appended", none), "appended", "appended", defArgs s_appended, defBody s_appended, defScope s_appended, [], []⟩
def e__law_cell : He.DefD := ⟨("_law_cell", none), "_law_cell", "_law_cell", defArgs s__law_cell, defBody s__law_cell, defScope s__law_cell, [], []⟩
def e__law_digits : He.DefD := ⟨("_law_digits", none), "_law_digits", "_law_digits", defArgs s__law_digits, defBody s__law_digits, defScope s__law_digits, [], []⟩
def e__law_draw : He.DefD := ⟨("_law_draw", none), "_law_draw", "_law_draw", defArgs s__law_draw, defBody s__law_draw, defScope s__law_draw, [], []⟩
def e__law_pick : He.DefD := ⟨("_law_pick", none), "_law_pick", "_law_pick", defArgs s__law_pick, defBody s__law_pick, defScope s__law_pick, [], []⟩
def e__law_same : He.DefD := ⟨("_law_same", none), "_law_same", "_law_same", defArgs s__law_same, defBody s__law_same, defScope s__law_same, [], []⟩
def e__law_check : He.DefD := ⟨("_law_check", none), "_law_check", "_law_check", defArgs s__law_check, defBody s__law_check, defScope s__law_check, [], []⟩
def e__law_escaped : He.DefD := ⟨("_law_escaped", none), "_law_escaped", "_law_escaped", defArgs s__law_escaped, defBody s__law_escaped, defScope s__law_escaped, [], []⟩
def e__law_sealed : He.DefD := ⟨("_law_sealed", none), "_law_sealed", "_law_sealed", defArgs s__law_sealed, defBody s__law_sealed, defScope s__law_sealed, [], []⟩
def e__law_record : He.DefD := ⟨("_law_record", none), "_law_record", "_law_record", defArgs s__law_record, defBody s__law_record, defScope s__law_record, [], []⟩
def e__law_plain : He.DefD := ⟨("_law_plain", none), "_law_plain", "_law_plain", defArgs s__law_plain, defBody s__law_plain, defScope s__law_plain, [], []⟩
def e__law_read : He.DefD := ⟨("_law_read", none), "_law_read", "_law_read", defArgs s__law_read, defBody s__law_read, defScope s__law_read, [], []⟩
def e__law_signs : He.DefD := ⟨("_law_signs", none), "_law_signs", "_law_signs", defArgs s__law_signs, defBody s__law_signs, defScope s__law_signs, [], []⟩
def e__law_spoilt : He.DefD := ⟨("_law_spoilt", none), "_law_spoilt", "_law_spoilt", defArgs s__law_spoilt, defBody s__law_spoilt, defScope s__law_spoilt, [], []⟩
def e_law : He.DefD := ⟨("law", none), "law", "law", defArgs s_law, defBody s_law, defScope s_law, [], []⟩
def fnl : List He.DefD := [e_escaped, e_plain, e_check_of, e_record, e_read_record, e_appended, e__law_cell, e__law_digits, e__law_draw, e__law_pick, e__law_same, e__law_check, e__law_escaped, e__law_sealed, e__law_record, e__law_plain, e__law_read, e__law_signs, e__law_spoilt, e_law]
abbrev R : PySem.W.OpenRow := PySem.W.OpenLaw.row PySem.Challenge.rw_ruleyard_k92_records_as_lines
abbrev hk : PySem.W.Hook := He.hookD 5 fa fnl
def ob (s : PySem.W.SharedT) : He.AlD := He.obsDG 5 fa fnl (HandSHeadRun.getT s)
theorem ob_eq (s : PySem.W.SharedT) : ob s = hk.obs s.abs := He.obsDG_eq (HandSHeadRun.getT_eq s)
def loose : List PySem.Str := (["MOST_CHECK", "FIGURES", "escaped", "plain", "check_of", "record", "read_record", "appended", "_law_cell", "_law_digits", "_law_draw", "_law_pick", "_law_same", "_law_check", "_law_escaped", "_law_sealed", "_law_record", "_law_plain", "_law_read", "_law_signs", "_law_spoilt"] : List PySem.Str)
theorem run (w : World) : HandSHeadRun.RunEq R (PySem.W.view R.prog [23]) hk ob 4000 loose w := by
  intro os
  kernel_rfl
theorem txt {K : PySem.W.Frag} {h : Heap} {mg : Str → Option Value} (X : K.In h) (G : h.Ns mainGlobals mg) (c : He.SaysD fa fnl K) : Nonempty (Txt K mg) := by
  obtain ⟨fd_escaped, F_escaped⟩ := c.def_ 0 (d := e_escaped) rfl
  obtain ⟨fd_plain, F_plain⟩ := c.def_ 1 (d := e_plain) rfl
  obtain ⟨fd_check_of, F_check_of⟩ := c.def_ 2 (d := e_check_of) rfl
  obtain ⟨fd_record, F_record⟩ := c.def_ 3 (d := e_record) rfl
  obtain ⟨fd_read_record, F_read_record⟩ := c.def_ 4 (d := e_read_record) rfl
  obtain ⟨fd_appended, F_appended⟩ := c.def_ 5 (d := e_appended) rfl
  obtain ⟨fd__law_cell, F__law_cell⟩ := c.def_ 6 (d := e__law_cell) rfl
  obtain ⟨fd__law_digits, F__law_digits⟩ := c.def_ 7 (d := e__law_digits) rfl
  obtain ⟨fd__law_draw, F__law_draw⟩ := c.def_ 8 (d := e__law_draw) rfl
  obtain ⟨fd__law_pick, F__law_pick⟩ := c.def_ 9 (d := e__law_pick) rfl
  obtain ⟨fd__law_same, F__law_same⟩ := c.def_ 10 (d := e__law_same) rfl
  obtain ⟨fd__law_check, F__law_check⟩ := c.def_ 11 (d := e__law_check) rfl
  obtain ⟨fd__law_escaped, F__law_escaped⟩ := c.def_ 12 (d := e__law_escaped) rfl
  obtain ⟨fd__law_sealed, F__law_sealed⟩ := c.def_ 13 (d := e__law_sealed) rfl
  obtain ⟨fd__law_record, F__law_record⟩ := c.def_ 14 (d := e__law_record) rfl
  obtain ⟨fd__law_plain, F__law_plain⟩ := c.def_ 15 (d := e__law_plain) rfl
  obtain ⟨fd__law_read, F__law_read⟩ := c.def_ 16 (d := e__law_read) rfl
  obtain ⟨fd__law_signs, F__law_signs⟩ := c.def_ 17 (d := e__law_signs) rfl
  obtain ⟨fd__law_spoilt, F__law_spoilt⟩ := c.def_ 18 (d := e__law_spoilt) rfl
  obtain ⟨fd_law, F_law⟩ := c.def_ 19 (d := e_law) rfl
  have g_escaped := He.glo_ok X G (c.fact 0 (f := .glo "escaped") rfl)
  have g_plain := He.glo_ok X G (c.fact 1 (f := .glo "plain") rfl)
  have g_check_of := He.glo_ok X G (c.fact 2 (f := .glo "check_of") rfl)
  have g_record := He.glo_ok X G (c.fact 3 (f := .glo "record") rfl)
  have g_read_record := He.glo_ok X G (c.fact 4 (f := .glo "read_record") rfl)
  have g_appended := He.glo_ok X G (c.fact 5 (f := .glo "appended") rfl)
  have g__law_cell := He.glo_ok X G (c.fact 6 (f := .glo "_law_cell") rfl)
  have g__law_digits := He.glo_ok X G (c.fact 7 (f := .glo "_law_digits") rfl)
  have g__law_draw := He.glo_ok X G (c.fact 8 (f := .glo "_law_draw") rfl)
  have g__law_pick := He.glo_ok X G (c.fact 9 (f := .glo "_law_pick") rfl)
  have g__law_same := He.glo_ok X G (c.fact 10 (f := .glo "_law_same") rfl)
  have g__law_check := He.glo_ok X G (c.fact 11 (f := .glo "_law_check") rfl)
  have g__law_escaped := He.glo_ok X G (c.fact 12 (f := .glo "_law_escaped") rfl)
  have g__law_sealed := He.glo_ok X G (c.fact 13 (f := .glo "_law_sealed") rfl)
  have g__law_record := He.glo_ok X G (c.fact 14 (f := .glo "_law_record") rfl)
  have g__law_plain := He.glo_ok X G (c.fact 15 (f := .glo "_law_plain") rfl)
  have g__law_read := He.glo_ok X G (c.fact 16 (f := .glo "_law_read") rfl)
  have g__law_signs := He.glo_ok X G (c.fact 17 (f := .glo "_law_signs") rfl)
  have g__law_spoilt := He.glo_ok X G (c.fact 18 (f := .glo "_law_spoilt") rfl)
  have g_law := He.glo_ok X G (c.fact 19 (f := .glo "law") rfl)
  have m_all := He.free_ok X G (c.fact 20 (f := .free "all") rfl)
  have m_bool := He.free_ok X G (c.fact 21 (f := .free "bool") rfl)
  have m_int := He.free_ok X G (c.fact 22 (f := .free "int") rfl)
  have m_isinstance := He.free_ok X G (c.fact 23 (f := .free "isinstance") rfl)
  have m_len := He.free_ok X G (c.fact 24 (f := .free "len") rfl)
  have m_list := He.free_ok X G (c.fact 25 (f := .free "list") rfl)
  have m_ord := He.free_ok X G (c.fact 26 (f := .free "ord") rfl)
  have m_range := He.free_ok X G (c.fact 27 (f := .free "range") rfl)
  have m_repr := He.free_ok X G (c.fact 28 (f := .free "repr") rfl)
  have m_str := He.free_ok X G (c.fact 29 (f := .free "str") rfl)
  have m_tuple := He.free_ok X G (c.fact 30 (f := .free "tuple") rfl)
  obtain ⟨t_FIGURES, h_FIGURES⟩ := He.str_ok X G (c.fact 31 (f := .str "FIGURES" ("0123456789" : Str)) rfl)
  have a_FIGURES : ∃ (v : V) (u : Value), mg "FIGURES" = some u ∧ RelV v u ∧ ∀ bx T H, RP K bx T H v (.str ("0123456789" : Str) : D) := ⟨.str ("0123456789" : Str), _, h_FIGURES, ⟨_, rfl⟩, fun _ _ _ => .str _⟩
  obtain ⟨t_MOST_CHECK, h_MOST_CHECK⟩ := He.int_ok X G (c.fact 32 (f := .int "MOST_CHECK" (9973)) rfl)
  have a_MOST_CHECK : ∃ (v : V) (u : Value), mg "MOST_CHECK" = some u ∧ RelV v u ∧ ∀ bx T H, RP K bx T H v (.int (9973) : D) := ⟨.int (9973), _, h_MOST_CHECK, ⟨_, rfl⟩, fun _ _ _ => .int _⟩
  exact ⟨{ d_escaped := ⟨_, fd_escaped, F_escaped, g_escaped⟩, d_plain := ⟨_, fd_plain, F_plain, g_plain⟩, d_check_of := ⟨_, fd_check_of, F_check_of, g_check_of⟩, d_record := ⟨_, fd_record, F_record, g_record⟩, d_read_record := ⟨_, fd_read_record, F_read_record, g_read_record⟩, d_appended := ⟨_, fd_appended, F_appended, g_appended⟩, d__law_cell := ⟨_, fd__law_cell, F__law_cell, g__law_cell⟩, d__law_digits := ⟨_, fd__law_digits, F__law_digits, g__law_digits⟩, d__law_draw := ⟨_, fd__law_draw, F__law_draw, g__law_draw⟩, d__law_pick := ⟨_, fd__law_pick, F__law_pick, g__law_pick⟩, d__law_same := ⟨_, fd__law_same, F__law_same, g__law_same⟩, d__law_check := ⟨_, fd__law_check, F__law_check, g__law_check⟩, d__law_escaped := ⟨_, fd__law_escaped, F__law_escaped, g__law_escaped⟩, d__law_sealed := ⟨_, fd__law_sealed, F__law_sealed, g__law_sealed⟩, d__law_record := ⟨_, fd__law_record, F__law_record, g__law_record⟩, d__law_plain := ⟨_, fd__law_plain, F__law_plain, g__law_plain⟩, d__law_read := ⟨_, fd__law_read, F__law_read, g__law_read⟩, d__law_signs := ⟨_, fd__law_signs, F__law_signs, g__law_signs⟩, d__law_spoilt := ⟨_, fd__law_spoilt, F__law_spoilt, g__law_spoilt⟩, d_law := ⟨_, fd_law, F_law, g_law⟩, m_all := m_all, m_bool := m_bool, m_int := m_int, m_isinstance := m_isinstance, m_len := m_len, m_list := m_list, m_ord := m_ord, m_range := m_range, m_repr := m_repr, m_str := m_str, m_tuple := m_tuple, a_FIGURES := a_FIGURES, a_MOST_CHECK := a_MOST_CHECK }⟩
theorem facts {P : Program} {w : World} {K : PySem.W.Frag} {h : Heap} {mg : Str → Option Value} {f : Addr} (X : K.In h) (G : h.Ns mainGlobals mg) (hfa : mg ("law" : Str) = some (.ref f)) (c : He.SaysD fa fnl K) (hl : LawTrue) :
    ∃ fd : FuncData, (∀ (s : Shared) (v : Value), BindsTo s fd ⟨[v], []⟩ [("script", v)]) ∧ ∀ base : Heap, K.In base → base.Ns mainGlobals mg → FnOk P w K mg base CX0 7 f fd ["script"] (spLaw K) := by
  obtain ⟨T⟩ := txt X G c
  have e := hfa.symm.trans T.d_law.g
  cases e
  have b := FunD.bindsA (ps := ["script"]) T.d_law.F fun _ _ _ _ _ _ us hl => match us, hl with | [_], _ => rfl
  exact ⟨T.d_law.fd, fun s v => b s [v] rfl, fun base _ _ => G_law T hl⟩
end G_k92_records_as_lines
open PySem PySem.W PySem.Calls PyProof.Rows
set_option maxHeartbeats 0 in
theorem PySem.Challenge.cw_ruleyard_k92_records_as_lines_holds : PySem.Challenge.rw_ruleyard_k92_records_as_lines.Holds := by
  w_on; o_law
  refine HandSHeadRun.head_any (r := OpenLaw.row PySem.Challenge.rw_ruleyard_k92_records_as_lines) (q := view (OpenLaw.row PySem.Challenge.rw_ruleyard_k92_records_as_lines).prog [23]) (H := G_k92_records_as_lines.hk) (ob := G_k92_records_as_lines.ob) (M := 4000) (loose := G_k92_records_as_lines.loose) (d := HandSHeadRun.topDef (OpenLaw.row PySem.Challenge.rw_ruleyard_k92_records_as_lines).prog 23) (kwd := []) G_k92_records_as_lines.ob_eq
    (by kernel_rfl) (fun s => by kernel_rfl) G_k92_records_as_lines.run (by kernel_rfl) (by kernel_rfl) (by kernel_rfl) (by rfl) (by first | assumption | decide +kernel) (by decide +kernel) ⟨rfl, rfl, rfl, rfl, rfl, by decide +kernel⟩ ?hw ?hc
  case hw => w_witness2
  case hc =>
    refine L2.walk_ofE (l := PySem.Challenge.rw_ruleyard_k92_records_as_lines) (n := 63) (k := 7) (x := "script") (CX := L2.CX0) rfl (by decide) (by kernel_rfl) ⟨rfl, by decide, by decide⟩ ?F (fun _ _ _ _ z => z)
    intro w mg fa h Y G hmg0
    obtain ⟨K, KX, c⟩ := Y
    have hmg : mg ("law" : PySem.Str) = some (.ref fa) := by
      have e : (HandSHeadRun.topDef (OpenLaw.row PySem.Challenge.rw_ruleyard_k92_records_as_lines).prog 23).name = ("law" : PySem.Str) := by kernel_rfl
      rw [← e]
      exact hmg0
    obtain ⟨fd, hb, hF⟩ := G_k92_records_as_lines.facts (P := (PySem.Challenge.rw_ruleyard_k92_records_as_lines).prog) (w := w) KX G hmg c G_k92_records_as_lines.lawTrue
    exact ⟨K, fd, Wy.spLaw K, KX, hb, fun H a ns hl ho hS => ⟨a, ns, rfl, ho, hS, fun _ => rfl⟩, hF⟩

