import PyProof.Rows.All
import Wide.All
import OpenK.AllK
import Wide.FinOn
import HandS.ForMost
import HandS.Style
import HandS.IsInst
import HandS.RaiseMore
import HandS.Deep
import HandS.TupAny
import HandS.Replace
import HandS.Defaults
import HandS.More
import HandS.ReplaceLit
import PyProof.Rows.StrIntSpec
import HandS.FStr
import HandS.Small
import HandS.Codes
import HandS.ReplaceList
import PyProof.StrLawsRepr
import HandS.TupSets
import HandS.SetBool
import KE.SortData
import KE.KExcSuper
import KE.KExcIs
import HandS.Nested
import HandS.Exc
import HandS.ExcInit
import HandS.ExcField
import HandS.TryOnly
import HandS.HeadHook1
import HandS.HeadHook2
import KE.KIsAll
import HandS.CallSlots
import HandS.WordsExc
import PySem.Challenge.RW_ruleyard_k97_orders_read_and_written
import KE.KStateDown
import HandS.Head0
import HandS.Head1
import HandS.Head2
import HandS.HeadEnd
set_option Elab.async false
set_option linter.all false
set_option maxRecDepth 100000
set_option maxHeartbeats 2000000
/-! W1: values as data, what stands in the heap for them, expressions as predicate transformers over data. -/
namespace Wy
open PySem L2

abbrev D := PyData
abbrev bxD : D := .dict [(.none, .none)]
/-- the script -/
abbrev scD : D := .dict [(.bool true, .none)]
/-- the one mutable list that a law hands about: its address, that of its digits -/
abbrev Bx := Option (Addr × Addr)
def isB (bx : Bx) (p : Addr) : Prop := ∃ a, bx = some (p, a)
def BoxOk (bx : Bx) (H : Hp) : Prop := ∀ b a, bx = some (b, a) → a ≠ b ∧ ∃ (ds : List Int) (c : Int), H b = some (.lst [.ref a, .int c]) ∧ H a = some (.lst (ds.map V.int)) ∧ 0 ≤ c
def Ext (bx : Bx) (H H' : Hp) : Prop := ∀ p o, ¬ isB bx p → H p = some o → H' p = some o
theorem Ext.refl (bx : Bx) (H : Hp) : Ext bx H H := fun _ _ _ h => h
theorem Ext.trans {bx : Bx} {H H1 H2 : Hp} (a : Ext bx H H1) (b : Ext bx H1 H2) : Ext bx H H2 := fun p o n h => b p o n (a p o n h)

/-- a tuple: one that is tracked, none of T; or one of the written part -/
def TupAt (K : PySem.W.Frag) (T : Addr → Prop) (H : Hp) (a : Addr) (xs : List V) : Prop :=
  (¬ T a ∧ H a = some (.tup xs)) ∨
    ∃ (o : Obj) (its : Array Value) (n : Nat), K.lookup a = some o ∧ o.cls = .type "tuple" ∧ o.data = .seq its n ∧ its.size ≤ sizeLine ∧ Vals xs its.toList
theorem TupAt.sq {K : PySem.W.Frag} {T : Addr → Prop} {H : Hp} {a : Addr} {xs : List V} (h : TupAt K T H a xs) : SqT K H a xs := by
  rcases h with ⟨_, h⟩ | h
  · exact SqT.of h
  · exact Or.inr h
/-- the script: a list of ints that nobody changes -/
def ScrAt (K : PySem.W.Frag) (T : Addr → Prop) (H : Hp) (a : Addr) (ns : List Int) : Prop :=
  (¬ T a ∧ ∃ o, H a = some (.frz o (.lst (ns.map V.int)))) ∨
    ∃ (o : Obj) (its : Array Value) (n : Nat), K.lookup a = some o ∧ o.cls = .type "list" ∧ o.dict = none ∧ o.data = .seq its n ∧ its.size ≤ sizeLine ∧ Vals (ns.map V.int) its.toList
theorem ScrAt.sq {K : PySem.W.Frag} {T : Addr → Prop} {H : Hp} {a : Addr} {ns : List Int} (h : ScrAt K T H a ns) : SqL K H a (ns.map V.int) := by
  rcases h with ⟨_, o, h⟩ | h
  · exact Or.inl (Or.inr ⟨o, h⟩)
  · exact Or.inr h
def keyD : Key → D
  | .inl i => .int i
  | .inr s => .str s
mutual
inductive RP (K : PySem.W.Frag) (bx : Bx) (T : Addr → Prop) (H : Hp) : V → D → Prop
  | non : RP K bx T H .non .none
  | bl (b : Bool) : RP K bx T H (.bl b) (.bool b)
  | int (i : Int) : RP K bx T H (.int i) (.int i)
  | str (x : Str) : RP K bx T H (.str x) (.str x)
  | lst {a : Addr} {xs : List V} {ds : List D} : H a = some (.lst xs) → ¬ T a → RPs K bx T H xs ds → RP K bx T H (.ref a) (.list ds)
  | tup {a : Addr} {xs : List V} {ds : List D} : TupAt K T H a xs → RPs K bx T H xs ds → RP K bx T H (.ref a) (.tuple ds)
  | dic {a : Addr} {kvs : List (Key × V)} {es : List (D × D)} : H a = some (.dK kvs) → ¬ T a → RPk K bx T H kvs es → RP K bx T H (.ref a) (.dict es)
  | box {b a : Addr} : bx = some (b, a) → RP K bx T H (.ref b) bxD
  | scr {a : Addr} {ns : List Int} : ScrAt K T H a ns → RP K bx T H (.ref a) scD
inductive RPs (K : PySem.W.Frag) (bx : Bx) (T : Addr → Prop) (H : Hp) : List V → List D → Prop
  | nil : RPs K bx T H [] []
  | cons {v : V} {vs : List V} {d : D} {ds : List D} : RP K bx T H v d → RPs K bx T H vs ds → RPs K bx T H (v :: vs) (d :: ds)
inductive RPk (K : PySem.W.Frag) (bx : Bx) (T : Addr → Prop) (H : Hp) : List (Key × V) → List (D × D) → Prop
  | nil : RPk K bx T H [] []
  | cons {k : Key} {v : V} {vs : List (Key × V)} {d : D} {ds : List (D × D)} : RP K bx T H v d → RPk K bx T H vs ds → RPk K bx T H ((k, v) :: vs) ((keyD k, d) :: ds)
end
section
variable {K : PySem.W.Frag} {bx bx' : Bx} {T T' : Addr → Prop} {H H' : Hp}
mutual
theorem RP.move (hb : ∀ p, bx = some p → bx' = some p) (k : ∀ a o, ¬ T a → H a = some o → H' a = some o ∧ ¬ T' a) : ∀ {v : V} {d : D}, RP K bx T H v d → RP K bx' T' H' v d
  | _, _, .non => .non
  | _, _, .bl b => .bl b
  | _, _, .int i => .int i
  | _, _, .str x => .str x
  | _, _, .lst h n r => .lst (k _ _ n h).1 (k _ _ n h).2 (RPs.move hb k r)
  | _, _, .tup h r => .tup (by
      rcases h with ⟨n, h⟩ | h
      · exact Or.inl ⟨(k _ _ n h).2, (k _ _ n h).1⟩
      · exact Or.inr h) (RPs.move hb k r)
  | _, _, .dic h n r => .dic (k _ _ n h).1 (k _ _ n h).2 (RPk.move hb k r)
  | _, _, .box e => .box (hb _ e)
  | _, _, .scr h => .scr (by
      rcases h with ⟨n, o, h⟩ | h
      · exact Or.inl ⟨(k _ _ n h).2, o, (k _ _ n h).1⟩
      · exact Or.inr h)
theorem RPs.move (hb : ∀ p, bx = some p → bx' = some p) (k : ∀ a o, ¬ T a → H a = some o → H' a = some o ∧ ¬ T' a) : ∀ {v : List V} {d : List D}, RPs K bx T H v d → RPs K bx' T' H' v d
  | _, _, .nil => .nil
  | _, _, .cons h r => .cons (RP.move hb k h) (RPs.move hb k r)
theorem RPk.move (hb : ∀ p, bx = some p → bx' = some p) (k : ∀ a o, ¬ T a → H a = some o → H' a = some o ∧ ¬ T' a) : ∀ {v : List (Key × V)} {d : List (D × D)}, RPk K bx T H v d → RPk K bx' T' H' v d
  | _, _, .nil => .nil
  | _, _, .cons h r => .cons (RP.move hb k h) (RPk.move hb k r)
end
theorem RPs.length : ∀ {vs : List V} {ds : List D}, RPs K bx T H vs ds → vs.length = ds.length
  | _, _, .nil => rfl
  | _, _, .cons _ r => by rw [List.length_cons, List.length_cons, RPs.length r]
theorem RPs.get : ∀ {vs : List V} {ds : List D} {i : Nat} {d : D}, RPs K bx T H vs ds → ds[i]? = some d → ∃ v, vs[i]? = some v ∧ RP K bx T H v d
  | _, _, 0, _, .cons h _, e => ⟨_, rfl, by cases e; exact h⟩
  | _, _, i + 1, _, .cons _ r, e => RPs.get (i := i) r e
theorem RPs.get' : ∀ {vs : List V} {ds : List D} {i : Nat} {v : V}, RPs K bx T H vs ds → vs[i]? = some v → ∃ d, ds[i]? = some d ∧ RP K bx T H v d
  | _, _, 0, _, .cons h _, e => ⟨_, rfl, by cases e; exact h⟩
  | _, _, i + 1, _, .cons _ r, e => RPs.get' (i := i) r e
theorem RPs.append : ∀ {vs ws : List V} {ds es : List D}, RPs K bx T H vs ds → RPs K bx T H ws es → RPs K bx T H (vs ++ ws) (ds ++ es)
  | _, _, _, _, .nil, q => q
  | _, _, _, _, .cons h r, q => .cons h (RPs.append r q)
theorem RPs.drop : ∀ {vs : List V} {ds : List D} (n : Nat), RPs K bx T H vs ds → RPs K bx T H (vs.drop n) (ds.drop n)
  | _, _, 0, h => h
  | _, _, _ + 1, .nil => .nil
  | _, _, n + 1, .cons _ r => RPs.drop n r
theorem RPs.take : ∀ {vs : List V} {ds : List D} (n : Nat), RPs K bx T H vs ds → RPs K bx T H (vs.take n) (ds.take n)
  | _, _, 0, _ => .nil
  | _, _, _ + 1, .nil => .nil
  | _, _, n + 1, .cons h r => .cons h (RPs.take n r)
theorem RPs.setAt : ∀ {vs : List V} {ds : List D} (n : Nat) {v : V} {d : D}, RPs K bx T H vs ds → RP K bx T H v d → RPs K bx T H (vs.set n v) (ds.set n d)
  | _, _, _, _, _, .nil, _ => .nil
  | _, _, 0, _, _, .cons _ r, q => .cons q r
  | _, _, n + 1, _, _, .cons h r, q => .cons h (RPs.setAt n r q)
/-! data that == can walk -/
mutual
theorem RP.dp : ∀ {v : V} {d : D}, RP K bx T H v d → d.canLay0 = true → Dp K H v d
  | _, _, .non, _ => .non
  | _, _, .bl b, _ => .bl b
  | _, _, .int i, _ => .int i
  | _, _, .str x, _ => .str x
  | _, _, .lst h _ r, e => .lst (SqL.of h) (RPs.dp r e)
  | _, _, .tup h r, e => .tup h.sq (RPs.dp r e)
  | _, _, .dic _ _ _, e => nomatch e
  | _, _, .box _, e => nomatch e
  | _, _, .scr _, e => nomatch e
theorem RPs.dp : ∀ {v : List V} {d : List D}, RPs K bx T H v d → PyData.canLayAll0 d = true → DpAll K H v d
  | _, _, .nil, _ => .nil
  | _, _, .cons h r, e => .cons (RP.dp h (Bool.and_eq_true_iff.mp e).1) (RPs.dp r (Bool.and_eq_true_iff.mp e).2)
end
end
/-! ### what stands while an expression runs -/
structure Good (bx : Bx) (T : Addr → Prop) (H : Hp) : Prop where
  box : BoxOk bx H
  bxT : ∀ b a, bx = some (b, a) → T b
  kn : ∀ p, T p → ∃ o, H p = some o
section
variable {K : PySem.W.Frag} {bx : Bx} {T : Addr → Prop} {H H' : Hp}
theorem Good.on (g : Good bx T H) (e : Ext bx H H') (b : BoxOk bx H') : Good bx T H' := ⟨b, g.bxT, fun p h => by
  by_cases q : isB bx p
  · obtain ⟨a, q⟩ := q
    obtain ⟨_, ds, c, h1, _⟩ := b p a q
    exact ⟨_, h1⟩
  · obtain ⟨o, ho⟩ := g.kn p h
    exact ⟨o, e p o q ho⟩⟩
theorem Good.ext (g : Good bx T H) (e : Ext bx H H') : ∀ a o, ¬ T a → H a = some o → H' a = some o ∧ ¬ T a := fun a o n h =>
  ⟨e a o (fun ⟨x, q⟩ => n (g.bxT a x q)) h, n⟩
theorem RP.on {v : V} {d : D} (g : Good bx T H) (e : Ext bx H H') (r : RP K bx T H v d) : RP K bx T H' v d := r.move (fun _ h => h) (g.ext e)
theorem RPs.on {v : List V} {d : List D} (g : Good bx T H) (e : Ext bx H H') (r : RPs K bx T H v d) : RPs K bx T H' v d := r.move (fun _ h => h) (g.ext e)
/-- a new object -/
theorem ext_new {p : Addr} {o : HO} (h : H p = none) : Ext bx H (upd H p o) := fun a u n e => by
  rw [upd_ne (ne_of_none e h)]
  exact e
theorem box_new {p : Addr} {o : HO} (h : H p = none) (b : BoxOk bx H) : BoxOk bx (upd H p o) := fun x a e => by
  obtain ⟨n, ds, c, h1, h2, h3⟩ := b x a e
  exact ⟨n, ds, c, (by rw [upd_ne (ne_of_none h1 h)]; exact h1), (by rw [upd_ne (ne_of_none h2 h)]; exact h2), h3⟩
theorem Good.new (g : Good bx T H) {p : Addr} (h : H p = none) : ¬ T p := fun t => by
  obtain ⟨o, e⟩ := g.kn p t
  rw [h] at e
  cases e
end
/-- the slots' data -/
abbrev DE := List (Option D)
structure RPe (K : PySem.W.Frag) (bx : Bx) (T : Addr → Prop) (H : Hp) (σ : L2.St) (δ : DE) : Prop where
  len : δ.length ≤ σ.length
  at_ : ∀ (i : Nat) d, δ[i]? = some (some d) → ∃ v, σ[i]? = some (some v) ∧ RP K bx T H v d
theorem RPe.on {K : PySem.W.Frag} {bx : Bx} {T : Addr → Prop} {H H' : Hp} {σ : L2.St} {δ : DE} (g : Good bx T H) (e : Ext bx H H') (r : RPe K bx T H σ δ) : RPe K bx T H' σ δ := ⟨r.len, fun i d h =>
  let ⟨v, h1, h2⟩ := r.at_ i d h
  ⟨v, h1, h2.on g e⟩⟩
theorem RPe.move {K : PySem.W.Frag} {bx : Bx} {T T' : Addr → Prop} {H H' : Hp} {σ : L2.St} {δ : DE} (k : ∀ a o, ¬ T a → H a = some o → H' a = some o ∧ ¬ T' a) (r : RPe K bx T H σ δ) : RPe K bx T' H' σ δ := ⟨r.len, fun i d h =>
  let ⟨v, h1, h2⟩ := r.at_ i d h
  ⟨v, h1, h2.move (fun _ z => z) k⟩⟩
/-- names stored -/
def putV : L2.St → List Nat → List V → L2.St
  | σ, i :: is, v :: vs => putV (σ.set i (some v)) is vs
  | σ, _, _ => σ
def putD : DE → List Nat → List D → DE
  | δ, i :: is, d :: ds => putD (δ.set i (some d)) is ds
  | δ, _, _ => δ
theorem RPe.set {K : PySem.W.Frag} {bx : Bx} {T : Addr → Prop} {H : Hp} {σ : L2.St} {δ : DE} (r : RPe K bx T H σ δ) (i : Nat) {v : V} {d : D} (h : RP K bx T H v d) : RPe K bx T H (σ.set i (some v)) (δ.set i (some d)) := ⟨by
    rw [List.length_set, List.length_set]; exact r.len, fun j e hj => by
    by_cases q : i = j
    · subst q
      have hl : i < δ.length := by
        have := (List.getElem?_eq_some_iff.mp hj).1
        rwa [List.length_set] at this
      rw [List.getElem?_set_self hl] at hj
      cases hj
      exact ⟨v, List.getElem?_set_self (Nat.lt_of_lt_of_le hl r.len), h⟩
    · rw [List.getElem?_set_ne q] at hj
      rw [List.getElem?_set_ne q]
      exact r.at_ j e hj⟩
theorem RPe.wipe {K : PySem.W.Frag} {bx : Bx} {T : Addr → Prop} {H : Hp} {σ : L2.St} {δ : DE} (r : RPe K bx T H σ δ) (i : Nat) (o : Option V) : RPe K bx T H (σ.set i o) (δ.set i none) := ⟨by
    rw [List.length_set, List.length_set]; exact r.len, fun j e hj => by
    by_cases q : i = j
    · subst q
      have hl : i < δ.length := by
        have := (List.getElem?_eq_some_iff.mp hj).1
        rwa [List.length_set] at this
      rw [List.getElem?_set_self hl] at hj
      cases hj
    · rw [List.getElem?_set_ne q] at hj
      rw [List.getElem?_set_ne q]
      exact r.at_ j e hj⟩
theorem RPe.put {K : PySem.W.Frag} {bx : Bx} {T : Addr → Prop} {H : Hp} {is : List Nat} : ∀ {σ : L2.St} {δ : DE} {vs : List V} {ds : List D}, RPe K bx T H σ δ → RPs K bx T H vs ds → RPe K bx T H (putV σ is vs) (putD δ is ds) := by
  induction is with
  | nil => intro σ δ vs ds r q; cases q <;> exact r
  | cons i is ih =>
    intro σ δ vs ds r q
    cases q with
    | nil => exact r
    | cons h q => exact ih (r.set i h) q
abbrev EW := DE → (D → Prop) → Prop
abbrev TW := DE → (Bool → Prop) → Prop
abbrev AW := DE → (List D → Prop) → Prop
/-- what an end wants of a value -/
def Post (K : PySem.W.Frag) (bx : Bx) (T : Addr → Prop) (H : Hp) (Qd : D → Prop) (Q : VK) : Prop := ∀ d v H', Ext bx H H' → BoxOk bx H' → RP K bx T H' v d → Qd d → Q v H'
def SndE (K : PySem.W.Frag) (t : TE) (w : EW) : Prop := ∀ bx T σ H δ (Qd : D → Prop) (Q : VK), Good bx T H → RPe K bx T H σ δ → Post K bx T H Qd Q → w δ Qd → t σ H Q
def SndT (K : PySem.W.Frag) (t : TT) (w : TW) : Prop := ∀ bx T σ H δ (Qd : Bool → Prop) (Q : Bool → Hp → Prop), Good bx T H → RPe K bx T H σ δ → (∀ b H', Ext bx H H' → BoxOk bx H' → Qd b → Q b H') → w δ Qd → t σ H Q
def SndA (K : PySem.W.Frag) (t : TA) (w : AW) : Prop := ∀ bx T σ H δ (Qd : List D → Prop) (Q : List V → Hp → Prop), Good bx T H → RPe K bx T H σ δ → (∀ ds vs H', Ext bx H H' → BoxOk bx H' → RPs K bx T H' vs ds → Qd ds → Q vs H') → w δ Qd → t σ H Q
/-- by values: one, two, several -/
abbrev O1 := D → (D → Prop) → Prop
abbrev O2 := D → D → (D → Prop) → Prop
abbrev OL := List D → (D → Prop) → Prop
def Snd1 (K : PySem.W.Frag) (r : V → Hp → VK → Prop) (f : O1) : Prop := ∀ bx T H x dx (Qd : D → Prop) (Q : VK), Good bx T H → RP K bx T H x dx → Post K bx T H Qd Q → f dx Qd → r x H Q
def Snd2 (K : PySem.W.Frag) (r : R2) (f : O2) : Prop := ∀ bx T H x y dx dy (Qd : D → Prop) (Q : VK), Good bx T H → RP K bx T H x dx → RP K bx T H y dy → Post K bx T H Qd Q → f dx dy Qd → r x y H Q
def SndL (K : PySem.W.Frag) (r : List V → Hp → VK → Prop) (f : OL) : Prop := ∀ bx T H xs ds (Qd : D → Prop) (Q : VK), Good bx T H → RPs K bx T H xs ds → Post K bx T H Qd Q → f ds Qd → r xs H Q
/-- a method: the receiver, the arguments -/
def SndM (K : PySem.W.Frag) (r : V → List V → Hp → VK → Prop) (f : D → OL) : Prop := ∀ bx T H x xs dx ds (Qd : D → Prop) (Q : VK), Good bx T H → RP K bx T H x dx → RPs K bx T H xs ds → Post K bx T H Qd Q → f dx ds Qd → r x xs H Q
section
variable {K : PySem.W.Frag} {bx : Bx} {T : Addr → Prop} {H H1 H' : Hp}
theorem Post.on {Qd : D → Prop} {Q : VK} (e : Ext bx H H1) (p : Post K bx T H Qd Q) : Post K bx T H1 Qd Q := fun d v H' a b r q => p d v H' (e.trans a) b r q
theorem Post.here {Qd : D → Prop} {Q : VK} {d : D} {v : V} (g : Good bx T H) (p : Post K bx T H Qd Q) (r : RP K bx T H v d) (q : Qd d) : Q v H := p d v H (Ext.refl bx H) g.box r q
/-- a new list, a new tuple -/
theorem Post.lst {Qd : D → Prop} {Q : VK} {ds : List D} {vs : List V} {a : Addr} (g : Good bx T H) (p : Post K bx T H Qd Q) (h : H a = none) (r : RPs K bx T H vs ds) (q : Qd (.list ds)) : Q (.ref a) (upd H a (.lst vs)) :=
  p _ _ _ (ext_new h) (box_new h g.box) (.lst upd_same (g.new h) (r.on g (ext_new h))) q
theorem Post.tup {Qd : D → Prop} {Q : VK} {ds : List D} {vs : List V} {a : Addr} (g : Good bx T H) (p : Post K bx T H Qd Q) (h : H a = none) (r : RPs K bx T H vs ds) (q : Qd (.tuple ds)) : Q (.ref a) (upd H a (.tup vs)) :=
  p _ _ _ (ext_new h) (box_new h g.box) (.tup (.inl ⟨g.new h, upd_same⟩) (r.on g (ext_new h))) q
end

/-! ### expressions -/
def wVar (i : Nat) : EW := fun δ Q => match δ[i]? with
  | some (some d) => Q d
  | _ => False
def wC (d : D) : EW := fun _ Q => Q d
def wOp (f : O2) (a b : EW) : EW := fun δ Q => a δ fun x => b δ fun y => f x y Q
def wUn (f : O1) (a : EW) : EW := fun δ Q => a δ fun x => f x Q
def wIf (t : TW) (a b : EW) : EW := fun δ Q => t δ fun c => if c = true then a δ Q else b δ Q
def wNil : AW := fun _ Q => Q []
def wCons (a : EW) (r : AW) : AW := fun δ Q => a δ fun x => r δ fun xs => Q (x :: xs)
def wTup (a : AW) : EW := fun δ Q => a δ fun xs => xs.length ≤ sizeLine ∧ Q (.tuple xs)
def wLst (a : AW) : EW := fun δ Q => a δ fun xs => xs.length ≤ sizeLine ∧ Q (.list xs)
def wCall (f : OL) (a : AW) : EW := fun δ Q => a δ fun xs => f xs Q
def wMeth (f : D → OL) (o : EW) (a : AW) : EW := fun δ Q => o δ fun x => a δ fun xs => f x xs Q
/-- tests -/
def bW (e : EW) : TW := fun δ Q => e δ fun d => match d with
  | .bool b => Q b
  | _ => False
def wAnd (t u : TW) : TW := fun δ Q => t δ fun c => if c = true then u δ Q else Q false
def wOr (t u : TW) : TW := fun δ Q => t δ fun c => if c = true then Q true else u δ Q
def wNot (t : TW) : TW := fun δ Q => t δ fun c => Q (!c)
def wAndV (a b : EW) : EW := fun δ Q => a δ fun d => match d with
  | .bool c => if c = true then b δ Q else Q (.bool false)
  | _ => False
def wOrV (a b : EW) : EW := fun δ Q => a δ fun d => match d with
  | .bool c => if c = true then Q (.bool true) else b δ Q
  | _ => False
def wNotV (a : EW) : EW := fun δ Q => a δ fun d => match d with
  | .bool c => Q (.bool (!c))
  | _ => False
section
variable {K : PySem.W.Frag} {ta tb : TE} {wa wb : EW} {tt tu : TT} {wt wu : TW} {tr : TA} {wr : AW}
theorem snd_var (i : Nat) : SndE K (tVar i) (wVar i) := fun bx T σ H δ Qd Q g r p h => by
  unfold wVar at h
  split at h
  · rename_i d e
    obtain ⟨v, hv, hr⟩ := r.at_ i d e
    exact ⟨v, hv, p.here g hr h⟩
  · exact h.elim
theorem snd_c {v : V} {d : D} (hr : ∀ bx T H, RP K bx T H v d) : SndE K (tC v) (wC d) := fun bx T σ H δ Qd Q g r p h => p.here g (hr bx T H) h
theorem snd_op {r : R2} {f : O2} (hr : Snd2 K r f) (ha : SndE K ta wa) (hb : SndE K tb wb) : SndE K (tOp r ta tb) (wOp f wa wb) := fun bx T σ H δ Qd Q g e p h =>
  ha bx T σ H δ _ _ g e (fun dx x H1 e1 b1 r1 h1 => hb bx T σ H1 δ _ _ (g.on e1 b1) (e.on g e1) (fun dy y H2 e2 b2 r2 h2 =>
    hr bx T H2 x y dx dy Qd Q ((g.on e1 b1).on e2 b2) (r1.on (g.on e1 b1) e2) r2 (p.on (e1.trans e2)) h2) h1) h
theorem snd_un {r : V → Hp → VK → Prop} {f : O1} (hr : Snd1 K r f) (ha : SndE K ta wa) : SndE K (tUn r ta) (wUn f wa) := fun bx T σ H δ Qd Q g e p h =>
  ha bx T σ H δ _ _ g e (fun dx x H1 e1 b1 r1 h1 => hr bx T H1 x dx Qd Q (g.on e1 b1) r1 (p.on e1) h1) h
theorem snd_if (ht : SndT K tt wt) (ha : SndE K ta wa) (hb : SndE K tb wb) : SndE K (tIf tt ta tb) (wIf wt wa wb) := fun bx T σ H δ Qd Q g e p h =>
  ht bx T σ H δ _ _ g e (fun c H1 e1 b1 h1 => by
    cases c with
    | true => exact ha bx T σ H1 δ _ _ (g.on e1 b1) (e.on g e1) (p.on e1) h1
    | false => exact hb bx T σ H1 δ _ _ (g.on e1 b1) (e.on g e1) (p.on e1) h1) h
theorem snd_nil : SndA K tNil wNil := fun bx T σ H δ Qd Q g e p h => p [] [] H (Ext.refl _ _) g.box .nil h
theorem snd_cons (ha : SndE K ta wa) (hr : SndA K tr wr) : SndA K (tCons ta tr) (wCons wa wr) := fun bx T σ H δ Qd Q g e p h =>
  ha bx T σ H δ _ _ g e (fun dx x H1 e1 b1 r1 h1 => hr bx T σ H1 δ _ _ (g.on e1 b1) (e.on g e1) (fun ds vs H2 e2 b2 r2 h2 =>
    p _ _ H2 (e1.trans e2) b2 (.cons (r1.on (g.on e1 b1) e2) r2) h2) h1) h
theorem snd_tup (hr : SndA K tr wr) : SndE K (tTup tr) (wTup wr) := fun bx T σ H δ Qd Q g e p h =>
  hr bx T σ H δ _ _ g e (fun ds vs H1 e1 b1 r1 h1 => ⟨by rw [r1.length]; exact h1.1, fun a na => (p.on e1).tup (g.on e1 b1) na r1 h1.2⟩) h
theorem snd_lst (hr : SndA K tr wr) : SndE K (tLst tr) (wLst wr) := fun bx T σ H δ Qd Q g e p h =>
  hr bx T σ H δ _ _ g e (fun ds vs H1 e1 b1 r1 h1 => ⟨by rw [r1.length]; exact h1.1, fun a na => (p.on e1).lst (g.on e1 b1) na r1 h1.2⟩) h
theorem snd_cb {r : List V → Hp → VK → Prop} {f : OL} (hf : SndL K r f) (hr : SndA K tr wr) : SndE K (tCB r tr) (wCall f wr) := fun bx T σ H δ Qd Q g e p h =>
  hr bx T σ H δ _ _ g e (fun ds vs H1 e1 b1 r1 h1 => hf bx T H1 vs ds Qd Q (g.on e1 b1) r1 (p.on e1) h1) h
theorem snd_test (ha : SndE K ta wa) : SndT K (tTest ta) (bW wa) := fun bx T σ H δ Qd Q g e p h =>
  ha bx T σ H δ _ _ g e (fun d x H1 e1 b1 r1 h1 => by
    cases r1 with
    | bl b => exact ⟨b, rfl, p b H1 e1 b1 h1⟩
    | _ => exact False.elim h1) h
theorem snd_tB (ha : SndE K ta wa) : SndT K (tB ta) (bW wa) := fun bx T σ H δ Qd Q g e p h =>
  ha bx T σ H δ _ _ g e (fun d x H1 e1 b1 r1 h1 => by
    cases r1 with
    | bl b => exact ⟨b, rfl, p b H1 e1 b1 h1⟩
    | _ => exact False.elim h1) h
theorem snd_and (h1 : SndT K tt wt) (h2 : SndT K tu wu) : SndT K (tAnd tt tu) (wAnd wt wu) := fun bx T σ H δ Qd Q g e p h =>
  h1 bx T σ H δ _ _ g e (fun c H1 e1 b1 q => by
    cases c with
    | true => exact h2 bx T σ H1 δ _ _ (g.on e1 b1) (e.on g e1) (fun b H2 e2 b2 q2 => p b H2 (e1.trans e2) b2 q2) q
    | false => exact p false H1 e1 b1 q) h
theorem snd_or (h1 : SndT K tt wt) (h2 : SndT K tu wu) : SndT K (tOr tt tu) (wOr wt wu) := fun bx T σ H δ Qd Q g e p h =>
  h1 bx T σ H δ _ _ g e (fun c H1 e1 b1 q => by
    cases c with
    | false => exact h2 bx T σ H1 δ _ _ (g.on e1 b1) (e.on g e1) (fun b H2 e2 b2 q2 => p b H2 (e1.trans e2) b2 q2) q
    | true => exact p true H1 e1 b1 q) h
theorem snd_not (h1 : SndT K tt wt) : SndT K (tNot tt) (wNot wt) := fun bx T σ H δ Qd Q g e p h => h1 bx T σ H δ _ _ g e (fun c H1 e1 b1 q => p _ H1 e1 b1 q) h
theorem snd_andV (ha : SndE K ta wa) (hb : SndE K tb wb) : SndE K (tAndV ta tb) (wAndV wa wb) := fun bx T σ H δ Qd Q g e p h =>
  ha bx T σ H δ _ _ g e (fun d x H1 e1 b1 r1 h1 => by
    cases r1 with
    | bl b =>
      refine ⟨b, rfl, ?_⟩
      cases b with
      | true => exact hb bx T σ H1 δ _ _ (g.on e1 b1) (e.on g e1) (p.on e1) h1
      | false => exact p _ _ H1 e1 b1 (.bl false) h1
    | _ => exact False.elim h1) h
theorem snd_orV (ha : SndE K ta wa) (hb : SndE K tb wb) : SndE K (tOrV ta tb) (wOrV wa wb) := fun bx T σ H δ Qd Q g e p h =>
  ha bx T σ H δ _ _ g e (fun d x H1 e1 b1 r1 h1 => by
    cases r1 with
    | bl b =>
      refine ⟨b, rfl, ?_⟩
      cases b with
      | false => exact hb bx T σ H1 δ _ _ (g.on e1 b1) (e.on g e1) (p.on e1) h1
      | true => exact p _ _ H1 e1 b1 (.bl true) h1
    | _ => exact False.elim h1) h
theorem snd_notV (ha : SndE K ta wa) : SndE K (tNotV ta) (wNotV wa) := fun bx T σ H δ Qd Q g e p h =>
  ha bx T σ H δ _ _ g e (fun d x H1 e1 b1 r1 h1 => by
    cases r1 with
    | bl b => exact ⟨b, rfl, p _ _ H1 e1 b1 (.bl _) h1⟩
    | _ => exact False.elim h1) h
end
end Wy

set_option Elab.async false
set_option linter.all false
set_option maxRecDepth 100000
set_option maxHeartbeats 2000000
/-! W2: the operators by data, the rules that pair a reading with its data. -/
namespace Wy
open PySem L2

structure PEW (X : Cx) (e : Expr) (t : TE) (w : EW) : Prop where
  pe : PE X e t
  sn : SndE X.K t w
structure PTW (X : Cx) (e : Expr) (t : TT) (w : TW) : Prop where
  pt : PT X e t
  sn : SndT X.K t w
structure PWW (X : Cx) (e : Expr) (t : TT) (w : TW) : Prop where
  pw : PW X e t
  sn : SndT X.K t w
structure PAW (X : Cx) (es : List Expr) (t : TA) (w : AW) : Prop where
  pa : PA X es t
  sn : SndA X.K t w
structure OpW (X : Cx) (f : Value → Value → Sem Value) (r : R2) (o : O2) : Prop where
  op : OpR X f r
  sn : Snd2 X.K r o

/-! ### + - * // % ** -/
def oAdd : O2 := fun x y Q => match x, y with
  | .int i, .int j => Q (.int (i + j))
  | .str a, .str b => a.length + b.length ≤ sizeLine ∧ Q (.str (a ++ b))
  | .list a, .list b => a.length + b.length ≤ sizeLine ∧ Q (.list (a ++ b))
  | .tuple a, .tuple b => a.length + b.length ≤ sizeLine ∧ Q (.tuple (a ++ b))
  | _, _ => False
def oSub : O2 := fun x y Q => match x, y with
  | .int i, .int j => Q (.int (i - j))
  | _, _ => False
def oMul : O2 := fun x y Q => match x, y with
  | .int i, .int j => CMul i j ∧ Q (.int (i * j))
  | _, _ => False
def oDiv : O2 := fun x y Q => match x, y with
  | .int i, .int j => CDiv i j ∧ Q (.int (i / j))
  | _, _ => False
def oMod : O2 := fun x y Q => match x, y with
  | .int i, .int j => 0 < j ∧ Q (.int (i % j))
  | _, _ => False
def oPow : O2 := fun x y Q => match x, y with
  | .int i, .int j => CPow i j ∧ Q (.int (i ^ j.toNat))
  | _, _ => False
def rAddW (K : PySem.W.Frag) : R2 := fun x y H Q => (((rI0 fun i j => .int (i + j)) x y H Q ∨ (∃ i j, x = .str i ∧ y = .str j ∧ i.length + j.length ≤ sizeLine ∧ Q (.str (i ++ j)) H)) ∨ rCat x y H Q) ∨ rCatA K x y H Q
section
variable {X : Cx}
theorem ow_add : OpW X (binaryOp .Add) (rAddW X.K) oAdd where
  op := ((op_add.or op_add_str).or op_cat).or op_catA
  sn := fun bx T H x y dx dy Qd Q g rx ry p h => by
    cases rx with
    | int i =>
      cases ry with
      | int j => exact Or.inl (Or.inl (Or.inl ⟨i, j, rfl, rfl, p.here g (.int _) h⟩))
      | _ => exact False.elim h
    | str a =>
      cases ry with
      | str b => exact Or.inl (Or.inl (Or.inr ⟨a, b, rfl, rfl, h.1, p.here g (.str _) h.2⟩))
      | _ => exact False.elim h
    | lst ha na ra =>
      cases ry with
      | lst hb nb rb => exact Or.inl (Or.inr ⟨_, _, _, _, rfl, rfl, ha, hb, by rw [ra.length, rb.length]; exact h.1, fun q hq => p.lst g hq (ra.append rb) h.2⟩)
      | _ => exact False.elim h
    | tup ha ra =>
      cases ry with
      | tup hb rb =>
        refine Or.inr ⟨_, _, _, _, rfl, rfl, ha.sq, hb.sq, by rw [ra.length, rb.length]; exact h.1, fun e => ?_, fun _ e => ?_, fun _ _ q hq => p.tup g hq (ra.append rb) h.2⟩
        · have e0 := ra.length
          rw [e] at e0
          rw [List.length_eq_zero_iff.mp e0.symm] at h
          exact p.here g (.tup hb rb) h.2
        · have e0 := rb.length
          rw [e] at e0
          rw [List.length_eq_zero_iff.mp e0.symm] at h
          have h2 := h.2
          rw [List.append_nil] at h2
          exact p.here g (.tup ha ra) h2
      | _ => exact False.elim h
    | _ => cases ry <;> exact False.elim h
theorem snd_I0 {g : Int → Int → Int} {o : O2} (ho : ∀ x y Q, o x y Q → ∃ i j, x = .int i ∧ y = .int j ∧ Q (.int (g i j))) : Snd2 X.K (rI0 fun i j => .int (g i j)) o := fun bx T H x y dx dy Qd Q gd rx ry p h => by
  obtain ⟨i, j, rfl, rfl, q⟩ := ho _ _ _ h
  cases rx
  cases ry
  exact ⟨i, j, rfl, rfl, p.here gd (.int _) q⟩
theorem snd_IC {C : Int → Int → Prop} {g : Int → Int → Int} {o : O2} (ho : ∀ x y Q, o x y Q → ∃ i j, x = .int i ∧ y = .int j ∧ C i j ∧ Q (.int (g i j))) : Snd2 X.K (rI C fun i j => .int (g i j)) o := fun bx T H x y dx dy Qd Q gd rx ry p h => by
  obtain ⟨i, j, rfl, rfl, c, q⟩ := ho _ _ _ h
  cases rx
  cases ry
  exact ⟨i, j, rfl, rfl, c, p.here gd (.int _) q⟩
theorem ow_sub : OpW X (binaryOp .Sub) (rI0 fun i j => .int (i - j)) oSub := ⟨op_sub, snd_I0 fun x y Q h => by
  unfold oSub at h; split at h
  · exact ⟨_, _, rfl, rfl, h⟩
  · exact h.elim⟩
theorem ow_mul : OpW X (binaryOp .Mult) (rI CMul fun i j => .int (i * j)) oMul := ⟨op_mul, snd_IC fun x y Q h => by
  unfold oMul at h; split at h
  · exact ⟨_, _, rfl, rfl, h⟩
  · exact h.elim⟩
theorem ow_div : OpW X (binaryOp .FloorDiv) (rI CDiv fun i j => .int (i / j)) oDiv := ⟨op_fdiv, snd_IC fun x y Q h => by
  unfold oDiv at h; split at h
  · exact ⟨_, _, rfl, rfl, h⟩
  · exact h.elim⟩
theorem ow_mod : OpW X (binaryOp .Mod) (rI (fun _ j => 0 < j) fun i j => .int (i % j)) oMod := ⟨op_mod, snd_IC fun x y Q h => by
  unfold oMod at h; split at h
  · exact ⟨_, _, rfl, rfl, h⟩
  · exact h.elim⟩
theorem ow_pow : OpW X (binaryOp .Pow) (rI CPow fun i j => .int (i ^ j.toNat)) oPow := ⟨op_pow, snd_IC fun x y Q h => by
  unfold oPow at h; split at h
  · exact ⟨_, _, rfl, rfl, h⟩
  · exact h.elim⟩
/-- in place: ints and texts -/
def oIadd : O2 := fun x y Q => match x, y with
  | .int i, .int j => Q (.int (i + j))
  | .str a, .str b => a.length + b.length ≤ sizeLine ∧ Q (.str (a ++ b))
  | _, _ => False
def rIaddW : R2 := fun x y H Q => (rI0 fun i j => .int (i + j)) x y H Q ∨ (∃ i j, x = .str i ∧ y = .str j ∧ i.length + j.length ≤ sizeLine ∧ Q (.str (i ++ j)) H)
theorem ow_iadd : OpW X (inplaceOp .Add) rIaddW oIadd where
  op := iop_add.or iop_add_str
  sn := fun bx T H x y dx dy Qd Q g rx ry p h => by
    cases rx with
    | int i =>
      cases ry with
      | int j => exact Or.inl ⟨i, j, rfl, rfl, p.here g (.int _) h⟩
      | _ => exact False.elim h
    | str a =>
      cases ry with
      | str b => exact Or.inr ⟨a, b, rfl, rfl, h.1, p.here g (.str _) h.2⟩
      | _ => exact False.elim h
    | _ => cases ry <;> exact False.elim h
theorem ow_isub : OpW X (inplaceOp .Sub) (rI0 fun i j => .int (i - j)) oSub := ⟨iop_sub, snd_I0 fun x y Q h => by
  unfold oSub at h; split at h
  · exact ⟨_, _, rfl, rfl, h⟩
  · exact h.elim⟩
end

/-! ### comparisons -/
/-- == needs no look at sizes -/
def scalD : D → D → Bool
  | .none, .none => true | .none, .int _ => true | .int _, .none => true | .none, .bool _ => true | .bool _, .none => true | .none, .str _ => true | .str _, .none => true
  | .int _, .int _ => true | .bool _, .bool _ => true | .str _, .str _ => true
  | .int _, .str _ => true | .str _, .int _ => true | .bool _, .str _ => true | .str _, .bool _ => true
  | _, _ => false
def eqOk (x y : D) : Prop := scalD x y = true ∨ (SeqAt.shaped x = true ∧ SeqAt.shaped y = true)
def oEq : O2 := fun x y Q => eqOk x y ∧ Q (.bool (PyData.eqv x y))
def oNe : O2 := fun x y Q => eqOk x y ∧ Q (.bool (!PyData.eqv x y))
def rEqW (K : PySem.W.Frag) : R2 := fun x y H Q => rEq x y H Q ∨ rEqD K x y H Q
def rNeW (K : PySem.W.Frag) : R2 := fun x y H Q => rNe x y H Q ∨ rNeD K x y H Q
theorem dec_beq_int (i j : Int) : decide (V.int i = V.int j) = (i == j) := dec_int
theorem scal_of {K : PySem.W.Frag} {bx : Bx} {T : Addr → Prop} {H : Hp} {x y : V} {dx dy : D} (rx : RP K bx T H x dx) (ry : RP K bx T H y dy) (h : scalD dx dy = true) : scal x y = true ∧ decide (x = y) = PyData.eqv dx dy := by
  cases rx <;> cases ry <;> first
    | exact ⟨rfl, rfl⟩
    | exact ⟨rfl, dec_int⟩
    | exact ⟨rfl, dec_bl⟩
    | exact ⟨rfl, dec_str⟩
    | exact Bool.noConfusion h
    | exact ⟨rfl, by simp [PyData.eqv]⟩
section
variable {X : Cx}
theorem ow_eq (hu : X.A.units + 64 < cLine) : OpW X (compareOp .Eq) (rEqW X.K) oEq where
  op := op_eq.or (op_eqD hu)
  sn := fun bx T H x y dx dy Qd Q g rx ry p h => by
    rcases h with ⟨h | ⟨h1, h2⟩, q⟩
    · obtain ⟨a, b⟩ := scal_of rx ry h
      exact Or.inl ⟨a, p.here g (by rw [b]; exact .bl _) q⟩
    · exact Or.inr ⟨dx, dy, rx.dp (SeqAt.canLay_of_shaped h1), ry.dp (SeqAt.canLay_of_shaped h2), h1, h2, p.here g (.bl _) q⟩
theorem ow_ne (hu : X.A.units + 64 < cLine) : OpW X (compareOp .NotEq) (rNeW X.K) oNe where
  op := op_ne.or (op_neD hu)
  sn := fun bx T H x y dx dy Qd Q g rx ry p h => by
    rcases h with ⟨h | ⟨h1, h2⟩, q⟩
    · obtain ⟨a, b⟩ := scal_of rx ry h
      exact Or.inl ⟨a, p.here g (by rw [b]; exact .bl _) q⟩
    · exact Or.inr ⟨dx, dy, rx.dp (SeqAt.canLay_of_shaped h1), ry.dp (SeqAt.canLay_of_shaped h2), h1, h2, p.here g (.bl _) q⟩
/-- < of ints, of texts -/
def ltS (a b : Str) : Bool := decide (a.cps.toList < b.cps.toList)
def oLt : O2 := fun x y Q => match x, y with
  | .int i, .int j => Q (.bool (decide (i < j)))
  | .str a, .str b => Q (.bool (ltS a b))
  | _, _ => False
def oLe : O2 := fun x y Q => match x, y with
  | .int i, .int j => Q (.bool (decide (i ≤ j)))
  | .str a, .str b => Q (.bool (!ltS b a))
  | _, _ => False
def oGt : O2 := fun x y Q => match x, y with
  | .int i, .int j => Q (.bool (decide (j < i)))
  | .str a, .str b => Q (.bool (ltS b a))
  | _, _ => False
def oGe : O2 := fun x y Q => match x, y with
  | .int i, .int j => Q (.bool (decide (j ≤ i)))
  | .str a, .str b => Q (.bool (!ltS a b))
  | _, _ => False
def rCmpW (f : Int → Int → Bool) (g : Str → Str → Bool) : R2 := fun x y H Q => (rI0 fun i j => .bl (f i j)) x y H Q ∨ (∃ i j, x = .str i ∧ y = .str j ∧ Q (.bl (g i j)) H)
theorem snd_cmp {f : Int → Int → Bool} {g : Str → Str → Bool} {o : O2} (ho : ∀ x y Q, o x y Q → (∃ i j, x = .int i ∧ y = .int j ∧ Q (.bool (f i j))) ∨ (∃ i j, x = .str i ∧ y = .str j ∧ Q (.bool (g i j)))) : Snd2 X.K (rCmpW f g) o :=
  fun bx T H x y dx dy Qd Q gd rx ry p h => by
  rcases ho _ _ _ h with ⟨i, j, rfl, rfl, q⟩ | ⟨i, j, rfl, rfl, q⟩
  · cases rx
    cases ry
    exact Or.inl ⟨i, j, rfl, rfl, p.here gd (.bl _) q⟩
  · cases rx
    cases ry
    exact Or.inr ⟨i, j, rfl, rfl, p.here gd (.bl _) q⟩
theorem ow_lt : OpW X (compareOp .Lt) (rCmpW (fun i j => decide (i < j)) fun a b => decide (a.cps.toList < b.cps.toList)) oLt := ⟨op_lt.or op_lt_str, snd_cmp fun x y Q h => by
  unfold oLt at h; split at h
  · exact Or.inl ⟨_, _, rfl, rfl, h⟩
  · exact Or.inr ⟨_, _, rfl, rfl, h⟩
  · exact h.elim⟩
theorem ow_le : OpW X (compareOp .LtE) (rCmpW (fun i j => decide (i ≤ j)) fun a b => !decide (b.cps.toList < a.cps.toList)) oLe := ⟨op_le.or op_le_str, snd_cmp fun x y Q h => by
  unfold oLe at h; split at h
  · exact Or.inl ⟨_, _, rfl, rfl, h⟩
  · exact Or.inr ⟨_, _, rfl, rfl, h⟩
  · exact h.elim⟩
theorem ow_gt : OpW X (compareOp .Gt) (rCmpW (fun i j => decide (j < i)) fun a b => decide (b.cps.toList < a.cps.toList)) oGt := ⟨op_gt.or op_gt_str, snd_cmp fun x y Q h => by
  unfold oGt at h; split at h
  · exact Or.inl ⟨_, _, rfl, rfl, h⟩
  · exact Or.inr ⟨_, _, rfl, rfl, h⟩
  · exact h.elim⟩
theorem ow_ge : OpW X (compareOp .GtE) (rCmpW (fun i j => decide (j ≤ i)) fun a b => !decide (a.cps.toList < b.cps.toList)) oGe := ⟨op_ge.or op_ge_str, snd_cmp fun x y Q h => by
  unfold oGe at h; split at h
  · exact Or.inl ⟨_, _, rfl, rfl, h⟩
  · exact Or.inr ⟨_, _, rfl, rfl, h⟩
  · exact h.elim⟩
/-! in, not in -/
def subIn (j i : Str) : Bool := !(Builtin.Str.occurrences j i 0 j.length 1).isEmpty
def flatD : D → Bool
  | .none => true
  | .bool _ => true
  | .int _ => true
  | .str _ => true
  | _ => false
def oInB (neg : Bool) : O2 := fun x y Q => match y with
  | .str z => (match x with
    | .str c => Q (.bool (if neg then !subIn z c else subIn z c))
    | _ => False)
  | .list ds => SeqAt.shaped x = true ∧ SeqAt.shaped (.list ds) = true ∧ Q (.bool (if neg then !ds.any (fun z => PyData.eqv z x) else ds.any fun z => PyData.eqv z x))
  | .tuple ds => flatD x = true ∧ ds.all flatD = true ∧ Q (.bool (if neg then !ds.any (fun z => PyData.eqv z x) else ds.any fun z => PyData.eqv z x))
  | _ => False
theorem flat_of {K : PySem.W.Frag} {bx : Bx} {T : Addr → Prop} {H : Hp} {x : V} {d : D} (r : RP K bx T H x d) (f : flatD d = true) : flatV x = true := by
  cases r <;> first | rfl | exact Bool.noConfusion f
theorem eqv_of {K : PySem.W.Frag} {bx : Bx} {T : Addr → Prop} {H : Hp} {x y : V} {d e : D} (r : RP K bx T H x d) (q : RP K bx T H y e) (f : flatD d = true) (f' : flatD e = true) : eqV x y = PyData.eqv d e := by
  cases r <;> first | exact Bool.noConfusion f | (cases q <;> first | exact Bool.noConfusion f' | rfl)
theorem flats_of {K : PySem.W.Frag} {bx : Bx} {T : Addr → Prop} {H : Hp} : ∀ {xs : List V} {ds : List D}, RPs K bx T H xs ds → ds.all flatD = true → xs.all flatV = true
  | _, _, .nil, _ => rfl
  | _, _, .cons h r, f => by
    rw [List.all_cons, Bool.and_eq_true] at f ⊢
    exact ⟨flat_of h f.1, flats_of r f.2⟩
theorem inV_of {K : PySem.W.Frag} {bx : Bx} {T : Addr → Prop} {H : Hp} {x : V} {d : D} (rx : RP K bx T H x d) (f : flatD d = true) : ∀ {xs : List V} {ds : List D}, RPs K bx T H xs ds → ds.all flatD = true → inV x xs = ds.any fun z => PyData.eqv z d
  | _, _, .nil, _ => rfl
  | _, _, .cons h r, g => by
    rw [List.all_cons, Bool.and_eq_true] at g
    show (eqV _ x || inV x _) = (PyData.eqv _ d || _)
    rw [eqv_of h rx g.1 f, inV_of rx f r g.2]
def rInW (K : PySem.W.Frag) : R2 := fun x y H Q => ((∃ i j, x = .str i ∧ y = .str j ∧ Q (.bl (!(Builtin.Str.occurrences j i 0 j.length 1).isEmpty)) H) ∨ rIn K false x y H Q) ∨ rInD K x y H Q
def rNotInW (K : PySem.W.Frag) : R2 := fun x y H Q => ((∃ i j, x = .str i ∧ y = .str j ∧ Q (.bl (!(!(Builtin.Str.occurrences j i 0 j.length 1).isEmpty))) H) ∨ rIn K true x y H Q) ∨ rNotInD K x y H Q
theorem op_notIn_seq' : OpR X (compareOp .NotIn) (rIn X.K true) := op_notIn_seq
theorem ow_in (hu : X.A.units + 65 < cLine) : OpW X (compareOp .In) (rInW X.K) (oInB false) where
  op := (op_in_str.or op_in_seq).or (op_inD hu)
  sn := fun bx T H x y dx dy Qd Q g rx ry p h => by
    cases ry with
    | str z =>
      cases rx with
      | str c => exact Or.inl (Or.inl ⟨c, z, rfl, rfl, p.here g (.bl _) h⟩)
      | _ => exact False.elim h
    | lst ha na ra => exact Or.inr ⟨dx, _, rx.dp (SeqAt.canLay_of_shaped h.1), (RP.lst ha na ra).dp (SeqAt.canLay_of_shaped h.2.1), h.1, h.2.1, p.here g (.bl _) h.2.2⟩
    | tup ha ra =>
      refine Or.inl (Or.inr ⟨_, _, rfl, Or.inr ha.sq, flat_of rx h.1, flats_of ra h.2.1, ?_⟩)
      show Q (.bl (inV x _)) H
      rw [inV_of rx h.1 ra h.2.1]
      exact p.here g (.bl _) h.2.2
    | _ => exact False.elim h
theorem ow_notin (hu : X.A.units + 65 < cLine) : OpW X (compareOp .NotIn) (rNotInW X.K) (oInB true) where
  op := (op_notin_str.or op_notIn_seq').or (op_notInD hu)
  sn := fun bx T H x y dx dy Qd Q g rx ry p h => by
    cases ry with
    | str z =>
      cases rx with
      | str c => exact Or.inl (Or.inl ⟨c, z, rfl, rfl, p.here g (.bl _) h⟩)
      | _ => exact False.elim h
    | lst ha na ra => exact Or.inr ⟨dx, _, rx.dp (SeqAt.canLay_of_shaped h.1), (RP.lst ha na ra).dp (SeqAt.canLay_of_shaped h.2.1), h.1, h.2.1, p.here g (.bl _) h.2.2⟩
    | tup ha ra =>
      refine Or.inl (Or.inr ⟨_, _, rfl, Or.inr ha.sq, flat_of rx h.1, flats_of ra h.2.1, ?_⟩)
      show Q (.bl (!inV x _)) H
      rw [inV_of rx h.1 ra h.2.1]
      exact p.here g (.bl _) h.2.2
    | _ => exact False.elim h
/-! is None, is not None -/
def isNone : D → Bool
  | .none => true
  | _ => false
theorem none_of {K : PySem.W.Frag} {bx : Bx} {T : Addr → Prop} {H : Hp} {x : V} {d : D} (r : RP K bx T H x d) : decide (x = .non) = isNone d := by
  cases r <;> rfl
end
end Wy

set_option Elab.async false
set_option linter.all false
set_option maxRecDepth 100000
set_option maxHeartbeats 2000000
/-! W3: expressions, tests, calls: one rule a construct, its reading and its data. -/
namespace Wy
open PySem L2
section
variable {X : Cx} {a b c e : Expr} {es : List Expr} {ta tb tc te : TE} {wa wb wc we : EW} {tt tu : TT} {wt wu : TW} {tr : TA} {wr : AW} {pos p2 : Pos} {r r' : R2} {o o' : O2}

theorem ev (i : Nat) {x : Str} (hN : X.N[i]? = some x := by rfl) (hv : Vis X.env.scope x := by first | exact Or.inl rfl | exact Or.inr (Or.inl rfl) | exact Or.inr (Or.inr rfl)) (hd : (x == ("__debug__" : Str)) = false := by decide)
    (hcd : (x == ("__classdict__" : Str)) = false := by decide) : PEW X (.Name x pos) (tVar i) (wVar i) := ⟨pv i hN hv hd hcd, snd_var i⟩
theorem ec_int {i j} : PEW X (.Constant (.int i) j pos) (tC (.int i)) (wC (.int i)) := ⟨pe_int, snd_c fun _ _ _ => .int i⟩
theorem ec_str {x j} : PEW X (.Constant (.str x) j pos) (tC (.str x)) (wC (.str x)) := ⟨pe_str, snd_c fun _ _ _ => .str x⟩
theorem ec_bl {x j} : PEW X (.Constant (.bool x) j pos) (tC (.bl x)) (wC (.bool x)) := ⟨pe_bl, snd_c fun _ _ _ => .bl x⟩
theorem ec_non {j} : PEW X (.Constant .none j pos) (tC .non) (wC .none) := ⟨pe_non, snd_c fun _ _ _ => .non⟩
theorem eg {x : Str} {v : V} {u : Value} {d : D} (hm : X.mg x = some u) (rv : RelV v u) (hc : ∀ bx T H, RP X.K bx T H v d) (hg : Gl X x := by rfl) (hd : (x == ("__debug__" : Str)) = false := by decide) : PEW X (.Name x pos) (tC v) (wC d) :=
  ⟨pe_glob hg hm rv hd, snd_c hc⟩
theorem ebin {op : Operator} (h : OpW X (binaryOp op) r o) (ha : PEW X a ta wa) (hb : PEW X b tb wb) : PEW X (.BinOp a op b pos) (tOp r ta tb) (wOp o wa wb) := ⟨pe_op h.op ha.pe hb.pe, snd_op h.sn ha.sn hb.sn⟩
theorem ecmp {op : CmpOp} (h : OpW X (compareOp op) r o) (ha : PEW X a ta wa) (hb : PEW X b tb wb) (hm : behindInMarks op b = false := by first | exact nobehind _ (by decide) (by decide) | with_unfolding_all rfl) :
    PEW X (.Compare a [op] [b] pos) (tOp r ta tb) (wOp o wa wb) := ⟨pe_cmpR h.op ha.pe hb.pe hm, snd_op h.sn ha.sn hb.sn⟩
theorem tcmp {op : CmpOp} (h : OpW X (compareOp op) r o) (ha : PEW X a ta wa) (hb : PEW X b tb wb) (hm : behindInMarks op b = false := by first | exact nobehind _ (by decide) (by decide) | with_unfolding_all rfl) :
    PTW X (.Compare a [op] [b] pos) (tTest (tOp r ta tb)) (bW (wOp o wa wb)) := ⟨pt_cmpR h.op ha.pe hb.pe hm, snd_test (snd_op h.sn ha.sn hb.sn)⟩
/-! a op b op c -/
def wChain (f g : O2) (a b c : EW) : EW := fun δ Q => a δ fun x => b δ fun y => f x y fun z => match z with
  | .bool k => if k = true then c δ fun w => g y w Q else Q (.bool false)
  | _ => False
theorem snd_chain {K : PySem.W.Frag} (h : Snd2 K r o) (h' : Snd2 K r' o') (ha : SndE K ta wa) (hb : SndE K tb wb) (hc : SndE K tc wc) : SndE K (tChain r r' ta tb tc) (wChain o o' wa wb wc) := fun bx T σ H δ Qd Q g e p q =>
  ha bx T σ H δ _ _ g e (fun dx x H1 e1 b1 r1 h1 => hb bx T σ H1 δ _ _ (g.on e1 b1) (e.on g e1) (fun dy y H2 e2 b2 r2 h2 =>
    h bx T H2 x y dx dy _ _ ((g.on e1 b1).on e2 b2) (r1.on (g.on e1 b1) e2) r2 (fun dz z H3 e3 b3 r3 h3 => by
      have g1 := g.on e1 b1
      have g2 := g1.on e2 b2
      have g3 := g2.on e3 b3
      cases r3 with
      | bl k =>
        refine ⟨k, rfl, ?_⟩
        cases k with
        | true => exact hc bx T σ H3 δ _ _ g3 (((e.on g e1).on g1 e2).on g2 e3) (fun dw w H4 e4 b4 r4 h4 => h' bx T H4 y w dy dw Qd Q (g3.on e4 b4) ((r2.on g2 e3).on g3 e4) r4 (p.on (((e1.trans e2).trans e3).trans e4)) h4) h3
        | false => exact p _ _ H3 ((e1.trans e2).trans e3) b3 (.bl false) h3
      | _ => exact False.elim h3) h2) h1) q
theorem echain {op op' : CmpOp} (h : OpW X (compareOp op) r o) (h' : OpW X (compareOp op') r' o') (ha : PEW X a ta wa) (hb : PEW X b tb wb) (hc : PEW X c tc wc) (hm : lastMarks [op, op'] [b, c] = false := by with_unfolding_all rfl) :
    PEW X (.Compare a [op, op'] [b, c] pos) (tChain r r' ta tb tc) (wChain o o' wa wb wc) := ⟨pe_chain h.op h'.op ha.pe hb.pe hc.pe hm, snd_chain h.sn h'.sn ha.sn hb.sn hc.sn⟩
theorem tchain {op op' : CmpOp} (h : OpW X (compareOp op) r o) (h' : OpW X (compareOp op') r' o') (ha : PEW X a ta wa) (hb : PEW X b tb wb) (hc : PEW X c tc wc) (hm : lastMarks [op, op'] [b, c] = false := by with_unfolding_all rfl) :
    PTW X (.Compare a [op, op'] [b, c] pos) (tTest (tChain r r' ta tb tc)) (bW (wChain o o' wa wb wc)) := ⟨pt_chain h.op h'.op ha.pe hb.pe hc.pe hm, snd_test (snd_chain h.sn h'.sn ha.sn hb.sn hc.sn)⟩
/-! is None .. -/
def oIsN : O2 := fun x y Q => isNone y = true ∧ Q (.bool (isNone x))
def oNotN : O2 := fun x y Q => isNone y = true ∧ Q (.bool (!isNone x))
theorem ow_isN : OpW X (compareOp .Is) (fun x y H Q => y = .non ∧ Q (.bl (decide (x = .non))) H) oIsN := ⟨op_isN, fun bx T H x y dx dy Qd Q g rx ry p h => by
  cases ry <;> first | exact ⟨rfl, p.here g (by rw [none_of rx]; exact .bl _) h.2⟩ | exact Bool.noConfusion h.1⟩
theorem ow_notN : OpW X (compareOp .IsNot) (fun x y H Q => y = .non ∧ Q (.bl (!decide (x = .non))) H) oNotN := ⟨op_notN, fun bx T H x y dx dy Qd Q g rx ry p h => by
  cases ry <;> first | exact ⟨rfl, p.here g (by rw [none_of rx]; exact .bl _) h.2⟩ | exact Bool.noConfusion h.1⟩
theorem isb_gen {M : Model} {A : Around} {E : Value → Shared → Prop} {s : Shared} {x : V} {v : Value} {k : Bool} {Q : Value → Shared → Prop} (r : RelV x v) (h : Q (.bool (decide (x = .bl k))) s) : wpAny M A (compareOp .Is v (.bool k)) Q E s := by
  cases x with
  | non => cases r; exact PySem.wpAny_pure h
  | bl b =>
    cases r
    have e : decide (V.bl b = V.bl k) = (Value.bool b == Value.bool k) := by cases b <;> cases k <;> rfl
    rw [e] at h
    exact PySem.wpAny_pure h
  | ref a => cases r; exact PySem.wpAny_pure h
  | ty n => cases r; exact PySem.wpAny_pure h
  | _ => obtain ⟨t, rfl⟩ := r; exact PySem.wpAny_pure h
theorem isb_genN {M : Model} {A : Around} {E : Value → Shared → Prop} {s : Shared} {x : V} {v : Value} {k : Bool} {Q : Value → Shared → Prop} (r : RelV x v) (h : Q (.bool (!decide (x = .bl k))) s) : wpAny M A (compareOp .IsNot v (.bool k)) Q E s := by
  cases x with
  | non => cases r; exact PySem.wpAny_pure h
  | bl b =>
    cases r
    have e : decide (V.bl b = V.bl k) = (Value.bool b == Value.bool k) := by cases b <;> cases k <;> rfl
    rw [e] at h
    exact PySem.wpAny_pure h
  | ref a => cases r; exact PySem.wpAny_pure h
  | ty n => cases r; exact PySem.wpAny_pure h
  | _ => obtain ⟨t, rfl⟩ := r; exact PySem.wpAny_pure h
def isBool (k : Bool) : D → Bool
  | .bool b => b == k
  | _ => false
theorem bool_of {K : PySem.W.Frag} {bx : Bx} {T : Addr → Prop} {H : Hp} {x : V} {d : D} {k : Bool} (r : RP K bx T H x d) : decide (x = .bl k) = isBool k d := by
  cases r <;> first | rfl | exact dec_bl
def oIsB : O2 := fun x y Q => match y with
  | .bool k => Q (.bool (isBool k x))
  | _ => False
def oNotB : O2 := fun x y Q => match y with
  | .bool k => Q (.bool (!isBool k x))
  | _ => False
theorem ow_isB : OpW X (compareOp .Is) (fun x y H Q => ∃ k, y = .bl k ∧ Q (.bl (decide (x = .bl k))) H) oIsB where
  op := by
    intro pins s σ H x y v u Q I rx ry ⟨k, e, q⟩
    subst e
    cases ry
    exact isb_gen rx ⟨.bl _, H, I, rfl, q⟩
  sn := fun bx T H x y dx dy Qd Q g rx ry p h => by
    cases ry <;> first | exact ⟨_, rfl, p.here g (by rw [bool_of rx]; exact .bl _) h⟩ | exact h.elim
theorem ow_notB : OpW X (compareOp .IsNot) (fun x y H Q => ∃ k, y = .bl k ∧ Q (.bl (!decide (x = .bl k))) H) oNotB where
  op := by
    intro pins s σ H x y v u Q I rx ry ⟨k, e, q⟩
    subst e
    cases ry
    exact isb_genN rx ⟨.bl _, H, I, rfl, q⟩
  sn := fun bx T H x y dx dy Qd Q g rx ry p h => by
    cases ry <;> first | exact ⟨_, rfl, p.here g (by rw [bool_of rx]; exact .bl _) h⟩ | exact h.elim
/-! and, or, not, if -/
theorem eif (ht : PTW X c tt wt) (ha : PEW X a ta wa) (hb : PEW X b tb wb) : PEW X (.IfExp c a b pos) (tIf tt ta tb) (wIf wt wa wb) := ⟨pe_ifExp ht.pt ha.pe hb.pe, snd_if ht.sn ha.sn hb.sn⟩
theorem tand1 (ha : PTW X a tt wt) : PWW X (.BoolOp .And [a] pos) tt wt := ⟨pw_and1 ha.pt, ha.sn⟩
theorem tor1 (ha : PTW X a tt wt) : PWW X (.BoolOp .Or [a] pos) tt wt := ⟨pw_or1 ha.pt, ha.sn⟩
theorem tand {rest : List Expr} (ha : PTW X a tt wt) (hb : PWW X (.BoolOp .And (b :: rest) pos) tu wu) : PWW X (.BoolOp .And (a :: b :: rest) pos) (tAnd tt tu) (wAnd wt wu) := ⟨pw_and ha.pt hb.pw, snd_and ha.sn hb.sn⟩
theorem tor {rest : List Expr} (ha : PTW X a tt wt) (hb : PWW X (.BoolOp .Or (b :: rest) pos) tu wu) : PWW X (.BoolOp .Or (a :: b :: rest) pos) (tOr tt tu) (wOr wt wu) := ⟨pw_or ha.pt hb.pw, snd_or ha.sn hb.sn⟩
theorem PWW.t (h : PWW X e tt wt) : PTW X e tt wt := ⟨h.pw.pt, h.sn⟩
theorem tnot (ha : PTW X a tt wt) : PTW X (.UnaryOp .Not a pos) (tNot tt) (wNot wt) := ⟨pt_not ha.pt, snd_not ha.sn⟩
theorem eone {op} (h : PEW X a ta wa) : PEW X (.BoolOp op [a] pos) ta wa := ⟨pe_one h.pe, h.sn⟩
theorem eand {rest : List Expr} (ha : PEW X a ta wa) (hb : PEW X (.BoolOp .And (b :: rest) pos) tb wb) : PEW X (.BoolOp .And (a :: b :: rest) pos) (tAndV ta tb) (wAndV wa wb) := ⟨pe_and ha.pe hb.pe, snd_andV ha.sn hb.sn⟩
theorem eor {rest : List Expr} (ha : PEW X a ta wa) (hb : PEW X (.BoolOp .Or (b :: rest) pos) tb wb) : PEW X (.BoolOp .Or (a :: b :: rest) pos) (tOrV ta tb) (wOrV wa wb) := ⟨pe_or ha.pe hb.pe, snd_orV ha.sn hb.sn⟩
theorem enot (ha : PEW X a ta wa) : PEW X (.UnaryOp .Not a pos) (tNotV ta) (wNotV wa) := ⟨pe_not ha.pe, snd_notV ha.sn⟩
/-! truth of any value -/
def truD : D → (Bool → Prop) → Prop
  | .none, Q => Q false
  | .bool b, Q => Q b
  | .int i, Q => Q (i != 0)
  | .str y, Q => y.length ≤ sizeLine ∧ Q ((y.length : Int) != 0)
  | .list xs, Q => Q (!xs.isEmpty)
  | .tuple xs, Q => Q (!xs.isEmpty)
  | .dict _, _ => False
def wTru (w : EW) : TW := fun δ Q => w δ fun d => truD d Q
theorem ttru (ha : PEW X a ta wa) (he : ∀ whole, isTrue a X.env whole = (do let v ← whole; standAt a.pos; holding [v] (truthy v)) := by intro _; rfl) :
    PTW X a (fun σ H Q => ta σ H fun x H' => ∃ k, TruV X.K x H' k ∧ Q k H') (wTru wa) := ⟨pt_truth ha.pe he, fun bx T σ H δ Qd Q g en p h =>
  ha.sn bx T σ H δ _ _ g en (fun d x H1 e1 b1 r1 h1 => by
    cases r1 with
    | non => exact ⟨false, rfl, p _ H1 e1 b1 h1⟩
    | bl b => exact ⟨b, rfl, p _ H1 e1 b1 h1⟩
    | int i => exact ⟨_, rfl, p _ H1 e1 b1 h1⟩
    | str y => exact ⟨_, ⟨h1.1, rfl⟩, p _ H1 e1 b1 h1.2⟩
    | lst ha na ra => exact ⟨_, Or.inl ⟨_, SqL.of ha, rfl⟩, p _ H1 e1 b1 (by
        cases ra <;> exact h1)⟩
    | tup ha ra => exact ⟨_, Or.inr (Or.inl ⟨_, ha.sq, rfl⟩), p _ H1 e1 b1 (by
        cases ra <;> exact h1)⟩
    | _ => exact False.elim h1) h⟩
/-! displays, arguments -/
theorem an : PAW X [] tNil wNil := ⟨pa_nil, snd_nil⟩
theorem ac (ha : PEW X e te we) (hr : PAW X es tr wr) (hs : starEach (e :: es) X.env = (false, eval e X.env) :: starEach es X.env := by rfl) : PAW X (e :: es) (tCons te tr) (wCons we wr) := ⟨pa_cons ha.pe hr.pa hs, snd_cons ha.sn hr.sn⟩
theorem etup {k} (h : PAW X es tr wr) : PEW X (.Tuple es k pos) (tTup tr) (wTup wr) := ⟨pe_tup h.pa, snd_tup h.sn⟩
theorem elst (h : PAW X es tr wr) : PEW X (.List es pos) (tLst tr) (wLst wr) := ⟨pe_lst h.pa, snd_lst h.sn⟩
/-! built-ins by name -/
structure CbW (X : Cx) (f : Value) (r : List V → Hp → VK → Prop) (o : OL) : Prop where
  cr : CallR X f r
  sn : SndL X.K r o
theorem ecb {x : Str} {id : String} {rr : List V → Hp → VK → Prop} {f : OL} (h : CbW X (.builtin id) rr f) (hm : X.mg x = none) (hv : bootBuiltins x = some (.builtin id)) (ha : PAW X (e :: es) tr wr) (hg : Gl X x := by rfl) (hn : x ≠ "__name__" := by decide)
    (hdb : (x == ("__debug__" : Str)) = false := by decide) (he : starEach (e :: es) X.env = (false, eval e X.env) :: starEach es X.env := by rfl) (hpl : (backTo pos (starEach es X.env)).any (·.1) = false := by rfl) :
    PEW X (.Call (.Name x p2) (e :: es) [] pos) (tCB rr tr) (wCall f wr) := ⟨pe_callB h.cr hg hm hv ha.pa hn hdb he hpl, snd_cb h.sn ha.sn⟩
theorem ecty {x : Str} {T : String} {rr : List V → Hp → VK → Prop} {f : OL} (h : CbW X (.type T) rr f) (hm : X.mg x = none) (hv : bootBuiltins x = some (.type T)) (ha : PAW X (e :: es) tr wr) (hg : Gl X x := by rfl) (hn : x ≠ "__name__" := by decide)
    (hdb : (x == ("__debug__" : Str)) = false := by decide) (he : starEach (e :: es) X.env = (false, eval e X.env) :: starEach es X.env := by rfl) (hpl : (backTo pos (starEach es X.env)).any (·.1) = false := by rfl) :
    PEW X (.Call (.Name x p2) (e :: es) [] pos) (tCB rr tr) (wCall f wr) := ⟨pe_callTy h.cr hg hm hv ha.pa hn hdb he hpl, snd_cb h.sn ha.sn⟩
theorem cr_or {f : Value} {rr rr' : List V → Hp → VK → Prop} (h : CallR X f rr) (h' : CallR X f rr') : CallR X f (fun xs H Q => rr xs H Q ∨ rr' xs H Q) := fun pins s σ H xs us Q I r q => by
  rcases q with q | q
  · exact h pins s σ H xs us Q I r q
  · exact h' pins s σ H xs us Q I r q
/-- one argument -/
def on1 (f : O1) : OL := fun xs Q => match xs with
  | [x] => f x Q
  | _ => False
theorem snd_on1 {K : PySem.W.Frag} {rr : List V → Hp → VK → Prop} {f : O1} (h : ∀ bx T H x dx (Qd : D → Prop) (Q : VK), Good bx T H → RP K bx T H x dx → Post K bx T H Qd Q → f dx Qd → rr [x] H Q) : SndL K rr (on1 f) := fun bx T H xs ds Qd Q g rs p q => by
  cases rs with
  | nil => exact False.elim q
  | cons r1 r2 =>
    cases r2 with
    | nil => exact h bx T H _ _ Qd Q g r1 p q
    | cons => exact False.elim q
def oLen : O1 := fun x Q => match x with
  | .str y => y.length ≤ sizeLine ∧ Q (.int y.length)
  | .list xs => Q (.int xs.length)
  | .tuple xs => Q (.int xs.length)
  | _ => False
theorem cb_len : CbW X (.builtin "len") (fun xs H Q => ∃ x n, xs = [x] ∧ LenV X.K x H n ∧ Q (.int n) H) (on1 oLen) := ⟨call_len, snd_on1 fun bx T H x dx Qd Q g r p h => by
  cases r with
  | str y => exact ⟨_, _, rfl, ⟨h.1, rfl⟩, p.here g (.int _) h.2⟩
  | lst ha na ra => exact ⟨_, _, rfl, Or.inl ⟨_, SqL.of ha, rfl⟩, p.here g (by rw [ra.length]; exact .int _) h⟩
  | tup ha ra => exact ⟨_, _, rfl, Or.inr ⟨_, ha.sq, rfl⟩, p.here g (by rw [ra.length]; exact .int _) h⟩
  | _ => exact False.elim h⟩
/-- int(x) of an int, a bool, a text -/
def oInt : O1 := fun x Q => match x with
  | .int i => Q (.int i)
  | .bool k => Q (.int (if k then 1 else 0))
  | .str a => ∃ n, PySem.intText? a = some n ∧ a.length ≤ 640 ∧ Q (.int n)
  | _ => False
theorem cb_int : CbW X (.type "int") (fun xs H Q => ((∃ i, xs = [.int i] ∧ Q (.int i) H) ∨ ∃ k, xs = [.bl k] ∧ Q (.int (if k then 1 else 0)) H) ∨ (∃ a n, xs = [.str a] ∧ PySem.intText? a = some n ∧ a.length ≤ 640 ∧ Q (.int n) H)) (on1 oInt) :=
  ⟨cr_or call_int1 call_int_str, snd_on1 fun bx T H x dx Qd Q g r p h => by
  cases r with
  | int i => exact Or.inl (Or.inl ⟨i, rfl, p.here g (.int _) h⟩)
  | bl k => exact Or.inl (Or.inr ⟨k, rfl, p.here g (.int _) h⟩)
  | str a =>
    obtain ⟨n, h1, h2, h3⟩ := h
    exact Or.inr ⟨a, n, rfl, h1, h2, p.here g (.int _) h3⟩
  | _ => exact False.elim h⟩
/-- str(x) of an int, a text -/
def oStr : O1 := fun x Q => match x with
  | .int i => i.natAbs.log2 < 1920 ∧ Q (.str (toString i))
  | .str a => Q (.str a)
  | _ => False
theorem cb_str : CbW X (.type "str") (fun xs H Q => (∃ i, xs = [.int i] ∧ i.natAbs.log2 < 1920 ∧ Q (.str (toString i)) H) ∨ (∃ a, xs = [.str a] ∧ Q (.str a) H)) (on1 oStr) :=
  ⟨cr_or call_str_int SkE.call_str_str, snd_on1 fun bx T H x dx Qd Q g r p h => by
  cases r with
  | int i => exact Or.inl ⟨i, rfl, h.1, p.here g (.str _) h.2⟩
  | str a => exact Or.inr ⟨a, rfl, p.here g (.str _) h⟩
  | _ => exact False.elim h⟩
/-- repr(x) of an int, a text -/
def oRepr : O1 := fun x Q => match x with
  | .int i => i.natAbs.log2 < 1920 ∧ Q (.str (toString i))
  | .str a => (reprText a).length ≤ sizeLine ∧ Q (.str (reprText a))
  | _ => False
theorem call_repr_str : CallR X (.builtin "repr") (fun xs H Q => ∃ a, xs = [.str a] ∧ (reprText a).length ≤ sizeLine ∧ Q (.str (reprText a)) H) := by
  intro pins s σ H xs us Q I r h
  obtain ⟨i, rfl, hz, q⟩ := h
  obtain ⟨u, rfl, t, rfl⟩ := vals1 r
  exact PySem.P.repr_of_str (⟨.str _, H, I.tok _, ⟨_, rfl⟩, q⟩) hz
theorem cb_repr : CbW X (.builtin "repr") (fun xs H Q => (∃ i, xs = [.int i] ∧ i.natAbs.log2 < 1920 ∧ Q (.str (toString i)) H) ∨ (∃ a, xs = [.str a] ∧ (reprText a).length ≤ sizeLine ∧ Q (.str (reprText a)) H)) (on1 oRepr) :=
  ⟨cr_or SkE.call_repr_int call_repr_str, snd_on1 fun bx T H x dx Qd Q g r p h => by
  cases r with
  | int i => exact Or.inl ⟨i, rfl, h.1, p.here g (.str _) h.2⟩
  | str a => exact Or.inr ⟨a, rfl, h.1, p.here g (.str _) h.2⟩
  | _ => exact False.elim h⟩
def oOrd : O1 := fun x Q => match x with
  | .str a => a.length = 1 ∧ Q (.int (a.cps.getD 0 0 : Nat))
  | _ => False
theorem cb_ord : CbW X (.builtin "ord") (fun xs H Q => ∃ x, xs = [.str x] ∧ x.length = 1 ∧ Q (.int (x.cps.getD 0 0 : Nat)) H) (on1 oOrd) := ⟨call_ord, snd_on1 fun bx T H x dx Qd Q g r p h => by
  cases r with
  | str a => exact ⟨a, rfl, h.1, p.here g (.int _) h.2⟩
  | _ => exact False.elim h⟩
/-! all, any of a list of bools -/
def boolsD : List D → Option (List Bool)
  | [] => some []
  | .bool b :: r => (boolsD r).map (b :: ·)
  | _ :: _ => none
theorem bools_of {K : PySem.W.Frag} {bx : Bx} {T : Addr → Prop} {H : Hp} : ∀ {xs : List V} {ds : List D} {bs : List Bool}, RPs K bx T H xs ds → boolsD ds = some bs → xs = bs.map V.bl
  | _, _, _, .nil, e => by cases e; rfl
  | _, _, _, .cons (d := d) (ds := ds) h r, e => by
    cases h with
    | bl b =>
      unfold boolsD at e
      cases e2 : boolsD ds with
      | none => rw [e2] at e; cases e
      | some bs =>
        rw [e2] at e
        cases e
        rw [bools_of r e2]; rfl
    | _ => cases e
def oAll : O1 := fun x Q => match x with
  | .list xs => ∃ bs, boolsD xs = some bs ∧ Q (.bool (bs.all id))
  | _ => False
def oAny : O1 := fun x Q => match x with
  | .list xs => ∃ bs, boolsD xs = some bs ∧ Q (.bool (bs.any id))
  | _ => False
theorem cb_all (hc : X.calm = true) : CbW X (.builtin "all") (rAll X.K) (on1 oAll) := ⟨cr_all hc, snd_on1 fun bx T H x dx Qd Q g r p h => by
  cases r with
  | lst ha na ra =>
    obtain ⟨bs, h1, h2⟩ := h
    exact ⟨_, bs, rfl, SqL.of (by rw [← bools_of ra h1]; exact ha), p.here g (.bl _) h2⟩
  | _ => exact False.elim h⟩
theorem cb_any (hc : X.calm = true) : CbW X (.builtin "any") (rAny X.K) (on1 oAny) := ⟨cr_any hc, snd_on1 fun bx T H x dx Qd Q g r p h => by
  cases r with
  | lst ha na ra =>
    obtain ⟨bs, h1, h2⟩ := h
    exact ⟨_, bs, rfl, SqL.of (by rw [← bools_of ra h1]; exact ha), p.here g (.bl _) h2⟩
  | _ => exact False.elim h⟩
/-! list(x), tuple(x) -/
def oListOf : O1 := fun x Q => match x with
  | .list xs => Q (.list xs)
  | .tuple xs => Q (.list xs)
  | _ => False
def oTupleOf : O1 := fun x Q => match x with
  | .list xs => Q (.tuple xs)
  | .tuple xs => Q (.tuple xs)
  | _ => False
end
end Wy

set_option Elab.async false
set_option linter.all false
set_option maxRecDepth 100000
set_option maxHeartbeats 2000000
/-! W4: list(), tuple(), subscripts, slices, isinstance, methods of texts and lists, calls of the text's own defs. -/
namespace Wy
open PySem L2
section
variable {X : Cx} {a b c e : Expr} {es : List Expr} {ta tb tc te : TE} {wa wb wc we : EW} {tt tu : TT} {wt wu : TW} {tr : TA} {wr : AW} {pos p2 : Pos} {r r' : R2} {o o' : O2}
theorem cb_list : CbW X (.type "list") (fun xs H Q => ∃ p ys, xs = [.ref p] ∧ (SqL X.K H p ys ∨ SqT X.K H p ys) ∧ ∀ l, H l = none → Q (.ref l) (upd H l (.lst ys))) (on1 oListOf) := ⟨call_list_of, snd_on1 fun bx T H x dx Qd Q g r p h => by
  cases r with
  | lst ha na ra => exact ⟨_, _, rfl, Or.inl (SqL.of ha), fun l hl => p.lst g hl ra h⟩
  | tup ha ra => exact ⟨_, _, rfl, Or.inr ha.sq, fun l hl => p.lst g hl ra h⟩
  | _ => exact False.elim h⟩
theorem cb_tuple : CbW X (.type "tuple") (fun xs H Q => ∃ p ys, xs = [.ref p] ∧ ((SqL X.K H p ys ∧ ∀ l, H l = none → Q (.ref l) (upd H l (.tup ys))) ∨ (SqT X.K H p ys ∧ Q (.ref p) H))) (on1 oTupleOf) := ⟨call_tuple_of, snd_on1 fun bx T H x dx Qd Q g r p h => by
  cases r with
  | lst ha na ra => exact ⟨_, _, rfl, Or.inl ⟨SqL.of ha, fun l hl => p.tup g hl ra h⟩⟩
  | tup ha ra => exact ⟨_, _, rfl, Or.inr ⟨ha.sq, p.here g (.tup ha ra) h⟩⟩
  | _ => exact False.elim h⟩
/-! x[i] -/
def oIx : O2 := fun x y Q => match x, y with
  | .list xs, .int i => ∃ d, atI xs i = some d ∧ Q d
  | .tuple xs, .int i => ∃ d, atI xs i = some d ∧ Q d
  | .str z, .int i => z.length ≤ sizeLine ∧ ∃ c, atI z.cps.toList i = some c ∧ Q (.str ⟨#[c]⟩)
  | _, _ => False
theorem at_of_RPs {K : PySem.W.Frag} {bx : Bx} {T : Addr → Prop} {H : Hp} {xs : List V} {ds : List D} {i : Int} {d : D} (h : RPs K bx T H xs ds) (e : atI ds i = some d) : ∃ v, atI xs i = some v ∧ RP K bx T H v d := by
  unfold atI at e ⊢
  rw [h.length]
  cases e2 : ixN ds.length i with
  | none => rw [e2] at e; cases e
  | some j =>
    rw [e2] at e
    exact h.get e
theorem snd_ix {K : PySem.W.Frag} : Snd2 K (rIx K) oIx := fun bx T H x y dx dy Qd Q g rx ry p h => by
  cases rx with
  | lst ha na ra =>
    cases ry with
    | int i =>
      obtain ⟨d, e, q⟩ := h
      obtain ⟨v, e2, rv⟩ := at_of_RPs ra e
      exact Or.inl ⟨_, _, _, _, rfl, rfl, SqL.of ha, e2, p.here g rv q⟩
    | _ => exact False.elim h
  | tup ha ra =>
    cases ry with
    | int i =>
      obtain ⟨d, e, q⟩ := h
      obtain ⟨v, e2, rv⟩ := at_of_RPs ra e
      exact Or.inr (Or.inl ⟨_, _, _, _, rfl, rfl, ha.sq, e2, p.here g rv q⟩)
    | _ => exact False.elim h
  | str z =>
    cases ry with
    | int i =>
      obtain ⟨hz, c, e, q⟩ := h
      exact Or.inr (Or.inr ⟨_, _, _, rfl, rfl, hz, e, p.here g (.str _) q⟩)
    | _ => exact False.elim h
  | _ => cases ry <;> exact False.elim h
theorem eix (ha : PEW X a ta wa) (hb : PEW X b tb wb) (hs : PlainIx b := by exact fun _ _ => rfl) : PEW X (.Subscript a b pos) (tOp (rIx X.K) ta tb) (wOp oIx wa wb) := ⟨pe_ix ix_seq ha.pe hb.pe hs, snd_op snd_ix ha.sn hb.sn⟩
/-! x[i:j] -/
abbrev OW := DE → (Option Int → Prop) → Prop
def SndO (K : PySem.W.Frag) (t : TO) (w : OW) : Prop := ∀ bx T σ H δ (Qd : Option Int → Prop) (Q : Option Int → Hp → Prop), Good bx T H → RPe K bx T H σ δ → (∀ o H', Ext bx H H' → BoxOk bx H' → Qd o → Q o H') → w δ Qd → t σ H Q
structure POW (X : Cx) (e : Option Expr) (t : TO) (w : OW) : Prop where
  po : PO X e t
  sn : SndO X.K t w
def wNo : OW := fun _ Q => Q none
def wPart (w : EW) : OW := fun δ Q => w δ fun d => match d with
  | .int i => Q (some i)
  | _ => False
theorem on_ : POW X none tNoPart wNo := ⟨po_none, fun bx T σ H δ Qd Q g e p h => p none H (Ext.refl _ _) g.box h⟩
theorem os_ (h : PEW X e te we) : POW X (some e) (tPart te) (wPart we) := ⟨po_some h.pe, fun bx T σ H δ Qd Q g en p q =>
  h.sn bx T σ H δ _ _ g en (fun d x H1 e1 b1 r1 h1 => by
    cases r1 with
    | int i => exact ⟨i, rfl, p _ H1 e1 b1 h1⟩
    | _ => exact False.elim h1) q⟩
def cutD (xs : List D) (lo hi : Option Int) : List D := (xs.drop (HT.sIx xs.length 0 lo)).take (HT.sIx xs.length xs.length hi - HT.sIx xs.length 0 lo)
def oSl (x : D) (lo hi : Option Int) (Q : D → Prop) : Prop := match x with
  | .list xs => Q (.list (cutD xs lo hi))
  | .tuple xs => Q (.tuple (cutD xs lo hi))
  | .str z => z.length ≤ sizeLine ∧ Q (.str (cutS z lo hi))
  | _ => False
def wSl (a : EW) (lo hi : OW) : EW := fun δ Q => a δ fun x => lo δ fun l => hi δ fun h => oSl x l h Q
theorem RPs.cut {K : PySem.W.Frag} {bx : Bx} {T : Addr → Prop} {H : Hp} {xs : List V} {ds : List D} (h : RPs K bx T H xs ds) (lo hi : Option Int) : RPs K bx T H (cutV xs lo hi) (cutD ds lo hi) := by
  unfold cutV cutD
  rw [h.length]
  exact (h.drop _).take _
def rSlW (K : PySem.W.Frag) : V → Option Int → Option Int → Hp → VK → Prop := fun x lo hi H Q => (rSlL K x lo hi H Q ∨ rSlA K x lo hi H Q) ∨ rSlS x lo hi H Q
theorem cutD_all {xs : List D} {lo hi : Option Int} (h : HT.sIx xs.length 0 lo = 0 ∧ HT.sIx xs.length xs.length hi = xs.length) : cutD xs lo hi = xs := by
  unfold cutD
  rw [h.1, h.2, List.drop_zero, Nat.sub_zero, List.take_length]
theorem esl {lo hi : Option Expr} {tl th : TO} {wl wh : OW} (ha : PEW X a ta wa) (hl : POW X lo tl wl) (hh : POW X hi th wh) : PEW X (.Subscript a (.Slice lo hi none p2) pos) (tSl (rSlW X.K) ta tl th) (wSl wa wl wh) :=
  ⟨pe_slice ((sl_list.or sl_tupA).or sl_str) ha.pe hl.po hh.po, fun bx T σ H δ Qd Q g en p q =>
  ha.sn bx T σ H δ _ _ g en (fun d x H1 e1 b1 r1 h1 => hl.sn bx T σ H1 δ _ _ (g.on e1 b1) (en.on g e1) (fun l H2 e2 b2 h2 => hh.sn bx T σ H2 δ _ _ ((g.on e1 b1).on e2 b2) ((en.on g e1).on (g.on e1 b1) e2) (fun u H3 e3 b3 h3 => by
    have g1 := g.on e1 b1
    have g2 := g1.on e2 b2
    have g3 := g2.on e3 b3
    have r3 := (r1.on g1 e2).on g2 e3
    have p3 := p.on ((e1.trans e2).trans e3)
    cases r3 with
    | lst hx nx rx => exact Or.inl (Or.inl ⟨_, _, rfl, SqL.of hx, fun q hq => p3.lst g3 hq (rx.cut l u) h3⟩)
    | tup hx rx =>
      refine Or.inl (Or.inr ⟨_, _, rfl, hx.sq, fun z => ?_, fun z q hq => p3.tup g3 hq (rx.cut l u) h3⟩)
      rw [rx.length] at z
      have h4 : Qd (.tuple (cutD _ l u)) := h3
      rw [cutD_all z] at h4
      exact p3.here g3 (.tup hx rx) h4
    | str z => exact Or.inr ⟨_, rfl, h3.1, p3.here g3 (.str _) h3.2⟩
    | _ => exact False.elim h3) h2) h1) q⟩
/-! isinstance(x, T) -/
def isiD (T : String) : D → Bool
  | .none => T == "NoneType"
  | .bool _ => T == "bool" || T == "int"
  | .int _ => T == "int"
  | .str _ => T == "str"
  | .list _ => T == "list"
  | .tuple _ => T == "tuple"
  | .dict _ => T == "dict"
def oIsi (T : String) : O1 := fun x Q => (match x with | .dict _ => False | _ => True) ∧ Q (.bool (isiD T x))
structure IsT (T : String) : Prop where
  n : kitB "NoneType" T = some (T == "NoneType")
  b : kitB "bool" T = some (T == "bool" || T == "int")
  i : kitB "int" T = some (T == "int")
  s : kitB "str" T = some (T == "str")
  l : kitB "list" T = some (T == "list")
  t : kitB "tuple" T = some (T == "tuple")
theorem isT_int : IsT "int" := ⟨by decide +kernel, by decide +kernel, by decide +kernel, by decide +kernel, by decide +kernel, by decide +kernel⟩
theorem isT_str : IsT "str" := ⟨by decide +kernel, by decide +kernel, by decide +kernel, by decide +kernel, by decide +kernel, by decide +kernel⟩
theorem isT_bool : IsT "bool" := ⟨by decide +kernel, by decide +kernel, by decide +kernel, by decide +kernel, by decide +kernel, by decide +kernel⟩
theorem isT_tuple : IsT "tuple" := ⟨by decide +kernel, by decide +kernel, by decide +kernel, by decide +kernel, by decide +kernel, by decide +kernel⟩
theorem isT_list : IsT "list" := ⟨by decide +kernel, by decide +kernel, by decide +kernel, by decide +kernel, by decide +kernel, by decide +kernel⟩
theorem tupAt_ty {K : PySem.W.Frag} {T : Addr → Prop} {H : Hp} {a : Addr} {xs : List V} (h : TupAt K T H a xs) : TyX K H (.ref a) (.type "tuple") := by
  rcases h with ⟨_, h⟩ | ⟨o, its, n, h, c, _⟩
  · exact .base (.tup h)
  · exact .kTuple h c
theorem snd_isi {K : PySem.W.Frag} {T : String} (hT : IsT T) (ha : SndE K ta wa) : SndE K (tCB (rIsi K) (tCons ta (tCons (tC (.ty T)) tNil))) (wUn (oIsi T) wa) := fun bx Tt σ H δ Qd Q g en p q =>
  ha bx Tt σ H δ _ _ g en (fun d x H1 e1 b1 r1 h1 => by
    have p1 := p.on e1
    have g1 := g.on e1 b1
    cases r1 with
    | non => exact ⟨_, _, _, _, _, rfl, .ty T, .base .non, kit_ty hT.n, p1.here g1 (.bl _) h1.2⟩
    | bl b => exact ⟨_, _, _, _, _, rfl, .ty T, .base (.bl b), kit_ty hT.b, p1.here g1 (.bl _) h1.2⟩
    | int i => exact ⟨_, _, _, _, _, rfl, .ty T, .base (.int i), kit_ty hT.i, p1.here g1 (.bl _) h1.2⟩
    | str z => exact ⟨_, _, _, _, _, rfl, .ty T, .base (.str z), kit_ty hT.s, p1.here g1 (.bl _) h1.2⟩
    | lst hx nx rx => exact ⟨_, _, _, _, _, rfl, .ty T, .base (.lst hx), kit_ty hT.l, p1.here g1 (.bl _) h1.2⟩
    | tup hx rx => exact ⟨_, _, _, _, _, rfl, .ty T, tupAt_ty hx, kit_ty hT.t, p1.here g1 (.bl _) h1.2⟩
    | _ => exact False.elim h1.1) q
theorem eisi {x : Str} {T : String} {q1 : Pos} (hT : IsT T) (hm : X.mg "isinstance" = none) (hx : X.mg x = none) (hvx : bootBuiltins x = some (.type T)) (ha : PEW X a ta wa) (hg : Gl X "isinstance" := by rfl) (hgx : Gl X x := by rfl) (hnx : x ≠ "__name__" := by decide) (hdx : (x == ("__debug__" : Str)) = false := by decide)
    (he : starEach [a, .Name x q1] X.env = (false, eval a X.env) :: starEach [.Name x q1] X.env := by rfl) (he2 : starEach [.Name x q1] X.env = (false, eval (.Name x q1) X.env) :: starEach [] X.env := by rfl) (hpl : (backTo pos (starEach [.Name x q1] X.env)).any (·.1) = false := by rfl) :
    PEW X (.Call (.Name "isinstance" p2) [a, .Name x q1] [] pos) (tCB (rIsi X.K) (tCons ta (tCons (tC (.ty T)) tNil))) (wUn (oIsi T) wa) :=
  ⟨pe_callB call_isi hg hm (by decide +kernel) (pa_cons ha.pe (pa_cons (pe_bltn hgx hx hvx rfl hnx hdx) pa_nil he2) he) (by decide) (by decide) he hpl, snd_isi hT ha.sn⟩
/-! methods of texts -/
def strsD : List D → Option (List Str)
  | [] => some []
  | .str b :: r => (strsD r).map (b :: ·)
  | _ :: _ => none
theorem strs_of {K : PySem.W.Frag} {bx : Bx} {T : Addr → Prop} {H : Hp} : ∀ {xs : List V} {ds : List D} {bs : List Str}, RPs K bx T H xs ds → strsD ds = some bs → xs = bs.map V.str
  | _, _, _, .nil, e => by cases e; rfl
  | _, _, _, .cons (d := d) (ds := ds) h r, e => by
    cases h with
    | str b =>
      unfold strsD at e
      cases e2 : strsD ds with
      | none => rw [e2] at e; cases e
      | some bs =>
        rw [e2] at e
        cases e
        rw [strs_of r e2]; rfl
    | _ => cases e
theorem RPs.ofStrs {K : PySem.W.Frag} {bx : Bx} {T : Addr → Prop} {H : Hp} : ∀ ys : List Str, RPs K bx T H (ys.map V.str) (ys.map PyData.str)
  | [] => .nil
  | y :: r => .cons (.str y) (RPs.ofStrs r)
def oM1 (f : Str → D → (D → Prop) → Prop) : O2 := fun x y Q => match x with
  | .str a => f a y Q
  | _ => False
def tM1' (r : V → List V → Hp → VK → Prop) (to te : TE) : TE := fun σ H Q => to σ H fun x H1 => (∃ a, x = .str a) ∧ te σ H1 fun y H2 => r x [y] H2 Q
theorem snd_m1 {K : PySem.W.Frag} {rr : V → List V → Hp → VK → Prop} {f : Str → D → (D → Prop) → Prop} (hr : ∀ bx T H a y dy (Qd : D → Prop) (Q : VK), Good bx T H → RP K bx T H y dy → Post K bx T H Qd Q → f a dy Qd → rr (.str a) [y] H Q) (ha : SndE K ta wa) (hb : SndE K tb wb) :
    SndE K (tM1 rr ta tb) (fun δ Q => wa δ fun x => match x with | .str a => wb δ fun y => f a y Q | _ => False) := fun bx T σ H δ Qd Q g en p q =>
  ha bx T σ H δ _ _ g en (fun d x H1 e1 b1 r1 h1 => by
    cases r1 with
    | str a =>
      refine ⟨⟨a, rfl⟩, hb bx T σ H1 δ _ _ (g.on e1 b1) (en.on g e1) (fun d2 y H2 e2 b2 r2 h2 => ?_) h1⟩
      exact hr bx T H2 a y d2 Qd Q ((g.on e1 b1).on e2 b2) r2 (p.on (e1.trans e2)) h2
    | _ => exact False.elim h1) q
def wM1 (f : Str → D → (D → Prop) → Prop) (a b : EW) : EW := fun δ Q => a δ fun x => match x with
  | .str z => b δ fun y => f z y Q
  | _ => False
def fSplit : Str → D → (D → Prop) → Prop := fun a y Q => match y with
  | .str b => (b.length == 0) = false ∧ a.length + 2 ≤ sizeLine ∧ Q (.list ((Txt.split a b).map PyData.str))
  | _ => False
def fJoin : Str → D → (D → Prop) → Prop := fun a y Q => match y with
  | .list ds => ∃ ys, strsD ds = some ys ∧ (ys.map (·.length)).sum + ys.length * a.length ≤ 16777216 ∧ Q (.str (Txt.join a ys))
  | .tuple ds => ∃ ys, strsD ds = some ys ∧ (ys.map (·.length)).sum + ys.length * a.length ≤ 16777216 ∧ Q (.str (Txt.join a ys))
  | _ => False
def rSplit : V → List V → Hp → VK → Prop := fun x xs H Q => ∃ a b, x = .str a ∧ xs = [.str b] ∧ (b.length == 0) = false ∧ a.length + 2 ≤ sizeLine ∧ rNewStrs (Txt.split a b) H Q
def rJoin (K : PySem.W.Frag) : V → List V → Hp → VK → Prop := fun x xs H Q => ∃ a p, ∃ ys : List Str, x = .str a ∧ xs = [.ref p] ∧ (SqL K H p (ys.map V.str) ∨ SqT K H p (ys.map V.str)) ∧
    (ys.map (·.length)).sum + ys.length * a.length ≤ 16777216 ∧ Q (.str (Txt.join a ys)) H
theorem esplit {apos : Pos} (ha : PEW X a ta wa) (hb : PEW X b tb wb) (hs : starEach [b] X.env = [(false, eval b X.env)] := by rfl) (hbase : attributeBase a "split" X.env (eval a X.env) = eval a X.env := by rfl) (hline : (apos.endLine == pos.line) = true := by rfl) :
    PEW X (.Call (.Attribute a "split" apos) [b] [] pos) (tM1 rSplit ta tb) (wM1 fSplit wa wb) := ⟨pe_split ha.pe hb.pe hs hbase hline, snd_m1 (fun bx T H z y dy Qd Q g r p h => by
  cases r with
  | str b => exact ⟨_, _, rfl, rfl, h.1, h.2.1, fun q hq => p.lst g hq (RPs.ofStrs _) h.2.2⟩
  | _ => exact False.elim h) ha.sn hb.sn⟩
theorem ejoin {apos : Pos} (ha : PEW X a ta wa) (hb : PEW X b tb wb) (hs : starEach [b] X.env = [(false, eval b X.env)] := by rfl) (hbase : attributeBase a "join" X.env (eval a X.env) = eval a X.env := by rfl) (hline : (apos.endLine == pos.line) = true := by rfl) :
    PEW X (.Call (.Attribute a "join" apos) [b] [] pos) (tM1 (rJoin X.K) ta tb) (wM1 fJoin wa wb) := ⟨pe_join ha.pe hb.pe hs hbase hline, snd_m1 (fun bx T H z y dy Qd Q g r p h => by
  cases r with
  | lst hx nx rx =>
    obtain ⟨ys, h1, h2, h3⟩ := h
    exact ⟨_, _, ys, rfl, rfl, Or.inl (SqL.of (by rw [← strs_of rx h1]; exact hx)), h2, p.here g (.str _) h3⟩
  | tup hx rx =>
    obtain ⟨ys, h1, h2, h3⟩ := h
    exact ⟨_, _, ys, rfl, rfl, Or.inr (by rw [← strs_of rx h1]; exact hx.sq), h2, p.here g (.str _) h3⟩
  | _ => exact False.elim h) ha.sn hb.sn⟩
/-! x.index(y): a sign's place in a text (found), an item's place in a list -/
def oSIndex : Str → D → (D → Prop) → Prop := fun a y Q => match y with
  | .str b => ∃ i rest, Builtin.Str.occurrences a b 0 a.length 1 = i :: rest ∧ Q (.int (i : Nat))
  | _ => False
def rSIndex : V → List V → Hp → VK → Prop := fun x xs H Q => ∃ a b i rest, x = .str a ∧ xs = [.str b] ∧ Builtin.Str.occurrences a b 0 a.length 1 = i :: rest ∧ Q (.int (i : Nat)) H
theorem esindex {apos : Pos} (ha : PEW X a ta wa) (hb : PEW X b tb wb) (hs : starEach [b] X.env = [(false, eval b X.env)] := by rfl) (hbase : attributeBase a "index" X.env (eval a X.env) = eval a X.env := by rfl) (hline : (apos.endLine == pos.line) = true := by rfl) :
    PEW X (.Call (.Attribute a "index" apos) [b] [] pos) (tM1 rSIndex ta tb) (wM1 oSIndex wa wb) := ⟨pe_m1 PySem.F.slot_str_index PySem.F.type_str_index mt_sindex ha.pe hb.pe hs hbase hline, snd_m1 (fun bx T H z y dy Qd Q g r p h => by
  cases r with
  | str b =>
    obtain ⟨i, rest, h1, h2⟩ := h
    exact ⟨_, _, _, _, rfl, rfl, h1, p.here g (.int _) h2⟩
  | _ => exact False.elim h) ha.sn hb.sn⟩
/-- list.index(x) found -/
def wL1 (f : List D → D → (D → Prop) → Prop) (a b : EW) : EW := fun δ Q => a δ fun x => match x with
  | .list z => b δ fun y => f z y Q
  | _ => False
def oLIndex : List D → D → (D → Prop) → Prop := fun ds y Q => SeqAt.shaped (.list ds) = true ∧ SeqAt.shaped y = true ∧
  ∃ (j : Nat) (z : D), ds[j]? = some z ∧ PyData.eqv z y = true ∧ (∀ (m : Nat) (z' : D), m < j → ds[m]? = some z' → PyData.eqv z' y = false) ∧ Q (.int (j : Nat))
theorem elindex {apos : Pos} (hu : X.A.units + 65 < cLine) (ha : PEW X a ta wa) (hb : PEW X b tb wb)
    (hbase : attributeBase a "index" X.env (eval a X.env) = eval a X.env := by rfl)
    (hfew : ((backTo pos (starEach [b] X.env)).all (fun x => !x.1) && (backToKw pos (keywordEach [] X.env)).all (fun x => x.1.isSome)
      && decide ([b].length + ([] : List Keyword).length + (if ([] : List Keyword).isEmpty then 0 else 1) < 30)) = true := by rfl)
    (hline : (apos.endLine == pos.line) = true := by rfl) (hs : starEach [b] X.env = (false, eval b X.env) :: starEach [] X.env := by rfl) (hplain : (backTo pos (starEach [] X.env)).any (·.1) = false := by rfl) :
    PEW X (.Call (.Attribute a "index" apos) [b] [] pos) (tBM X.K "list" (rIndexD X.K) ta (tCons tb tNil)) (wL1 oLIndex wa wb) :=
  ⟨pe_bm PySem.F.plainAttrs_list PySem.F.slot_list_index PySem.F.type_list_index (mt_indexD hu) ha.pe (pa_cons hb.pe pa_nil hs) hbase hfew hline hs hplain, fun bx T σ H δ Qd Q g en p q =>
  ha.sn bx T σ H δ _ _ g en (fun d x H1 e1 b1 r1 h1 => by
    have g1 := g.on e1 b1
    cases r1 with
    | lst hx nx rx =>
      refine ⟨Or.inl ⟨rfl, _, SqL.of hx⟩, hb.sn bx T σ H1 δ _ _ g1 (en.on g e1) (fun d2 y H2 e2 b2 r2 h2 => ?_) h1⟩
      obtain ⟨s1, s2, j, z, h3, h4, h5, h6⟩ := h2
      have g2 := g1.on e2 b2
      exact ⟨_, _, _, _, j, z, rfl, rfl, ((RP.lst hx nx rx).on g1 e2).dp (SeqAt.canLay_of_shaped s1), r2.dp (SeqAt.canLay_of_shaped s2), s1, s2, h3, h4, h5, (p.on (e1.trans e2)).here g2 (.int _) h6⟩
    | _ => exact False.elim h1) q⟩
/-! -i of an int -/
def oNeg : O1 := fun x Q => match x with
  | .int i => Q (.int (-i))
  | _ => False
theorem eneg (ha : PEW X a ta wa) : PEW X (.UnaryOp .USub a pos) (tUn (rU fun i => .int (-i)) ta) (wUn oNeg wa) := ⟨pe_un un_neg ha.pe, snd_un (fun bx T H x dx Qd Q g r p h => by
  cases r with
  | int i => exact ⟨i, rfl, p.here g (.int _) h⟩
  | _ => exact False.elim h) ha.sn⟩
end
/-! ### the text's own defs -/
/-- a def by its data: f tells, of the arguments' data and a wish, what holds -/
def spW (K : PySem.W.Frag) (n : Nat) (f : OL) : Sp := fun vs H Q _ => ∃ bx T ds Qd, ds.length = n ∧ Good bx T H ∧ RPs K bx T H vs ds ∧ Post K bx T H Qd Q ∧ f ds Qd
theorem spW_len {K : PySem.W.Frag} {n : Nat} {f : OL} {vs : List V} {H : Hp} {Q : VK} {E : XK} (h : spW K n f vs H Q E) : vs.length = n := by
  obtain ⟨bx, T, ds, Qd, e, _, r, _⟩ := h
  rw [r.length, e]
section
variable {X : Cx} {a b c e : Expr} {es : List Expr} {ta tb tc te : TE} {wa wb wc we : EW} {tr : TA} {wr : AW} {pos p2 : Pos}
theorem snd_call {K : PySem.W.Frag} {n : Nat} {f : OL} {E : XK} (hr : SndA K tr wr) : SndE K (tCall (spW K n f) [] E tr) (fun δ Q => wr δ fun ds => ds.length = n ∧ f ds Q) := fun bx T σ H δ Qd Q g e p h =>
  hr bx T σ H δ _ _ g e (fun ds vs H1 e1 b1 r1 h1 => ⟨bx, T, ds, Qd, h1.1, g.on e1 b1, by rw [List.append_nil]; exact r1, p.on e1, h1.2⟩) h
def wFn (n : Nat) (f : OL) (wr : AW) : EW := fun δ Q => wr δ fun ds => ds.length = n ∧ f ds Q
theorem ecall {k n : Nat} {fa : Addr} {fd : FuncData} {ps : List Str} {x : Str} {f : OL} (F : FnOk X.prog X.w X.K X.mg X.base CX0 k fa fd ps (spW X.K n f)) (hr : Room k X.A) (hm : X.mg x = some (.ref fa)) (hk : PySem.W.keepIn X.K (.ref fa) = true) (hb : Binds X.K fd ps [])
    (ha : PAW X (e :: es) tr wr) (hg : Gl X x := by rfl) (hdb : (x == ("__debug__" : Str)) = false := by decide) (he : starEach (e :: es) X.env = (false, eval e X.env) :: starEach es X.env := by rfl) (hpl : (backTo pos (starEach es X.env)).any (·.1) = false := by rfl) :
    PEW X (.Call (.Name x p2) (e :: es) [] pos) (tCall (spW X.K n f) [] E0 tr) (wFn n f wr) := ⟨pe_call F hr hg hm hk hb .nil pass0 ha.pa hdb he hpl, snd_call ha.sn⟩
theorem ecall0 {k n : Nat} {fa : Addr} {fd : FuncData} {ps : List Str} {x : Str} {f : OL} (F : FnOk X.prog X.w X.K X.mg X.base CX0 k fa fd ps (spW X.K n f)) (hr : Room k X.A) (hm : X.mg x = some (.ref fa)) (hk : PySem.W.keepIn X.K (.ref fa) = true) (hb : Binds X.K fd ps [])
    (hg : Gl X x := by rfl) (hdb : (x == ("__debug__" : Str)) = false := by decide) : PEW X (.Call (.Name x p2) [] [] pos) (tCall (spW X.K n f) [] E0 tNil) (wFn n f wNil) := ⟨pe_call0 F hr hg hm hk hb .nil pass0 hdb, snd_call snd_nil⟩
end
end Wy

set_option Elab.async false
set_option linter.all false
set_option maxRecDepth 100000
set_option maxHeartbeats 2000000
/-! W5: what loops walk, targets, list comprehensions. -/
namespace Wy
open PySem L2

/-- all that was known is as it was -/
def Kept (T T' : Addr → Prop) (H H' : Hp) : Prop := ∀ a o, ¬ T a → H a = some o → H' a = some o ∧ ¬ T' a
/-- J yields ds one by one, whatever has been done since to what may change -/
def Drives (K : PySem.W.Frag) (bx : Bx) (T : Addr → Prop) (H : Hp) (J : It) (ds : List D) : Prop := ∀ (T' : Addr → Prop) H', Kept T T' H H' → (∀ p, T' p → ∃ o, H' p = some o) → ∀ i, (ds.length ≤ i → J.stop i H') ∧
  ∀ d, ds[i]? = some d → J.go i H' ∧ ∀ x H2, J.yld i H' x H2 → (∀ a o, H' a = some o → H2 a = some o) ∧ RP K bx T' H2 x d
abbrev IW := DE → (List D → Prop) → Prop
def SndI (K : PySem.W.Frag) (t : TI) (w : IW) : Prop := ∀ bx T σ H δ (Qd : List D → Prop) (R : It → Hp → Prop), Good bx T H → RPe K bx T H σ δ → (∀ ds J H', Ext bx H H' → BoxOk bx H' → Drives K bx T H' J ds → Qd ds → R J H') → w δ Qd → t σ H R
structure PIW (X : Cx) (tg e : Expr) (t : TI) (w : IW) : Prop where
  pi : PI X tg e t
  sn : SndI X.K t w
def itemsD : D → Option (List D)
  | .list xs => some xs
  | .tuple xs => some xs
  | .str z => some (z.cps.toList.map fun c => .str ⟨#[c]⟩)
  | _ => none
def wIter (w : EW) : IW := fun δ Q => w δ fun d => match itemsD d with
  | some ds => Q ds
  | none => False
def iAny (K : PySem.W.Frag) (te : TE) : TI := fun σ H R => te σ H fun x H1 => ((∃ a xs, x = .ref a ∧ SqL K H1 a xs ∧ R (Itl K a) H1) ∨ (∃ a xs, x = .ref a ∧ SqT K H1 a xs ∧ R (Itt K a) H1)) ∨ ∃ z, x = .str z ∧ R (Its z) H1
theorem pi_any {X : Cx} {tg e : Expr} {te : TE} (he : PE X e te) : PI X tg e (iAny X.K te) := by
  refine ⟨fun pins s σ H R I h => ?_⟩
  refine thn (he.run pins s σ H _ I h) fun v s1 ⟨y, H1, I1, r1, q⟩ => ?_
  rcases q with (⟨a, xs, e, hq, q⟩ | ⟨a, xs, e, hq, q⟩) | ⟨x, ex, q⟩
  · subst e
    cases r1
    obtain ⟨its, rv, p, hz⟩ := I1.list hq
    refine wpAny_pyIter_list p.isList ?_
    exact pi_one (tk := s1.toks) I1 _ (turn_list a _) ⟨_, Heap.get?_push_size _ rfl, rfl, rfl⟩ q
  · subst e
    cases r1
    obtain ⟨its, rv, p, hz⟩ := I1.tuple hq
    refine wpAny_pyIter_tuple (show s1.heap.IsTuple a its.toArray from p) ?_
    exact pi_one (tk := s1.toks) I1 _ (turn_tuple a _) ⟨_, Heap.get?_push_size _ rfl, rfl, rfl⟩ q
  · subst ex
    obtain ⟨t, rfl⟩ := r1
    cases ha : x.cps.all (· < 128)
    · exact wpAny_pyIter_wide ha (pi_one (tk := s1.toks) I1 _ (turn_str _ x t "str_iterator" (.inr rfl)) ⟨_, Heap.get?_push_size _ rfl, rfl, rfl⟩ q)
    · exact wpAny_pyIter_ascii ha (pi_one (tk := s1.toks) I1 _ (turn_str _ x t "str_ascii_iterator" (.inl rfl)) ⟨_, Heap.get?_push_size _ rfl, rfl, rfl⟩ q)
section
variable {K : PySem.W.Frag} {bx : Bx} {T T' : Addr → Prop} {H H' : Hp}
theorem drives_list {a : Addr} {xs : List V} {ds : List D} (ha : H a = some (.lst xs)) (na : ¬ T a) (ra : RPs K bx T H xs ds) : Drives K bx T H (Itl K a) ds := fun T' H' k _ i => by
  have h1 := (k _ _ na ha).1
  have r1 := ra.move (fun _ z => z) k
  refine ⟨fun hi => ⟨xs, SqL.of h1, by rw [ra.length]; exact hi⟩, fun d hd => ?_⟩
  obtain ⟨v, hv, rv⟩ := r1.get hd
  refine ⟨⟨xs, v, SqL.of h1, hv⟩, fun x H2 hy => ?_⟩
  obtain ⟨e, hx⟩ := hy
  subst e
  have e2 := hx xs (SqL.of h1)
  rw [hv] at e2
  cases e2
  exact ⟨fun _ _ z => z, rv⟩
theorem drives_tup {a : Addr} {xs : List V} {ds : List D} (ha : TupAt K T H a xs) (ra : RPs K bx T H xs ds) : Drives K bx T H (Itt K a) ds := fun T' H' k _ i => by
  have h1 : TupAt K T' H' a xs := by
    rcases ha with ⟨n, h⟩ | h
    · exact Or.inl ⟨(k _ _ n h).2, (k _ _ n h).1⟩
    · exact Or.inr h
  have r1 := ra.move (fun _ z => z) k
  refine ⟨fun hi => ⟨xs, h1.sq, by rw [ra.length]; exact hi⟩, fun d hd => ?_⟩
  obtain ⟨v, hv, rv⟩ := r1.get hd
  refine ⟨⟨xs, v, h1.sq, hv⟩, fun x H2 hy => ?_⟩
  obtain ⟨e, hx⟩ := hy
  subst e
  have e2 := hx xs h1.sq
  rw [hv] at e2
  cases e2
  exact ⟨fun _ _ z => z, rv⟩
theorem drives_str {z : Str} : Drives K bx T H (Its z) (z.cps.toList.map fun c => .str ⟨#[c]⟩) := fun T' H' k _ i => by
  refine ⟨fun hi => ?_, fun d hd => ?_⟩
  · rw [List.length_map, Array.length_toList] at hi
    exact hi
  · rw [List.getElem?_map] at hd
    cases e : z.cps.toList[i]? with
    | none => rw [e] at hd; cases hd
    | some c =>
      rw [e] at hd
      cases hd
      have e2 : z.cps[i]? = some c := by rw [← Array.getElem?_toList]; exact e
      refine ⟨?_, fun x H2 hy => ?_⟩
      · have := (List.getElem?_eq_some_iff.mp e).1
        rwa [Array.length_toList] at this
      · obtain ⟨e3, c2, hc, ex⟩ := hy
        subst e3
        rw [e2] at hc
        cases hc
        subst ex
        exact ⟨fun _ _ z => z, .str _⟩
def rangeD (lo : Int) (n : Nat) : List D := (List.range n).map fun (i : Nat) => PyData.int (lo + (i : Int))
theorem drives_range {lo : Int} {n : Nat} : Drives K bx T H (Itr lo n) (rangeD lo n) := fun T' H' k _ i => by
  have hl : (rangeD lo n).length = n := by unfold rangeD; rw [List.length_map, List.length_range]
  refine ⟨fun hi => ?_, fun d hd => ?_⟩
  · rw [hl] at hi
    exact hi
  · have hlt : i < n := by
      have := (List.getElem?_eq_some_iff.mp hd).1
      rwa [hl] at this
    have e : (rangeD lo n)[i]? = some (.int (lo + (i : Int))) := by
      unfold rangeD
      rw [List.getElem?_map, List.getElem?_range hlt]
      rfl
    rw [e] at hd
    cases hd
    refine ⟨hlt, fun x H2 hy => ?_⟩
    obtain ⟨e3, ex⟩ := hy
    subst e3
    subst ex
    exact ⟨fun _ _ z => z, .int _⟩
end
section
variable {X : Cx} {tg a b e : Expr} {es : List Expr} {te ta tb : TE} {we wa wb : EW} {pos p2 : Pos}
theorem iter (he : PEW X e te we) : PIW X tg e (iAny X.K te) (wIter we) := ⟨pi_any he.pe, fun bx T σ H δ Qd R g en p q =>
  he.sn bx T σ H δ _ _ g en (fun d x H1 e1 b1 r1 h1 => by
    cases r1 with
    | lst ha na ra => exact Or.inl (Or.inl ⟨_, _, rfl, SqL.of ha, p _ _ H1 e1 b1 (drives_list ha na ra) h1⟩)
    | tup ha ra => exact Or.inl (Or.inr ⟨_, _, rfl, ha.sq, p _ _ H1 e1 b1 (drives_tup ha ra) h1⟩)
    | str z => exact Or.inr ⟨z, rfl, p _ _ H1 e1 b1 drives_str h1⟩
    | _ => exact False.elim h1) q⟩
def wRng1 (w : EW) : IW := fun δ Q => w δ fun d => match d with
  | .int j => (-(2 ^ 62) ≤ j ∧ j < 2 ^ 62) ∧ Q (rangeD 0 j.toNat)
  | _ => False
def wRng2 (a b : EW) : IW := fun δ Q => a δ fun x => b δ fun y => match x, y with
  | .int i, .int j => (-(2 ^ 62) ≤ i ∧ i < 2 ^ 62 ∧ -(2 ^ 62) ≤ j ∧ j < 2 ^ 62) ∧ Q (rangeD i (j - i).toNat)
  | _, _ => False
theorem irng1 (hm : X.mg "range" = none) (ha : PEW X a ta wa) (hg : Gl X "range" := by rfl) (hs : starEach [a] X.env = [(false, eval a X.env)] := by rfl) : PIW X tg (.Call (.Name "range" p2) [a] [] pos) (iRng1 (tCons ta tNil)) (wRng1 wa) :=
  ⟨pi_range1 hg hm (pa_cons ha.pe pa_nil hs) hs, fun bx T σ H δ Qd R g en p q =>
  ha.sn bx T σ H δ _ _ g en (fun d x H1 e1 b1 r1 h1 => by
    cases r1 with
    | int j => exact ⟨j, rfl, h1.1.1, h1.1.2, p _ _ H1 e1 b1 drives_range h1.2⟩
    | _ => exact False.elim h1) q⟩
theorem irng2 (hm : X.mg "range" = none) (ha : PEW X a ta wa) (hb : PEW X b tb wb) (hg : Gl X "range" := by rfl) (hs : starEach [a, b] X.env = [(false, eval a X.env), (false, eval b X.env)] := by rfl) (hs2 : starEach [b] X.env = [(false, eval b X.env)] := by rfl) :
    PIW X tg (.Call (.Name "range" p2) [a, b] [] pos) (iRng2 (tCons ta (tCons tb tNil))) (wRng2 wa wb) :=
  ⟨pi_range2 hg hm (pa_cons ha.pe (pa_cons hb.pe pa_nil hs2) (by rw [hs, hs2])) hs hs2, fun bx T σ H δ Qd R g en p q =>
  ha.sn bx T σ H δ _ _ g en (fun d x H1 e1 b1 r1 h1 => hb.sn bx T σ H1 δ _ _ (g.on e1 b1) (en.on g e1) (fun d2 y H2 e2 b2 r2 h2 => by
    cases r1 with
    | int i =>
      cases r2 with
      | int j => exact ⟨i, j, rfl, h2.1, p _ _ H2 (e1.trans e2) b2 drives_range h2.2⟩
      | _ => exact False.elim h2
    | _ => cases r2 <;> exact False.elim h2) h1) q⟩
/-! enumerate(xs), xs a list -/
def enumD (ds : List D) : List D := (ds.zipIdx).map fun p => .tuple [.int (p.2 : Nat), p.1]
def wEnum (w : EW) : IW := fun δ Q => w δ fun d => match d with
  | .list ds => Q (enumD ds)
  | _ => False
theorem enum_get {ds : List D} {i : Nat} {d : D} (h : (enumD ds)[i]? = some d) : ∃ x, ds[i]? = some x ∧ d = .tuple [.int (i : Nat), x] := by
  unfold enumD at h
  rw [List.getElem?_map, List.getElem?_zipIdx] at h
  cases e : ds[i]? with
  | none => rw [e] at h; cases h
  | some x =>
    rw [e] at h
    cases h
    exact ⟨x, rfl, by simp⟩
theorem drives_enum {K : PySem.W.Frag} {bx : Bx} {T : Addr → Prop} {H : Hp} {a : Addr} {xs : List V} {ds : List D} (ha : H a = some (.lst xs)) (na : ¬ T a) (ra : RPs K bx T H xs ds) : Drives K bx T H (Ite K a) (enumD ds) := fun T' H' k kn i => by
  have h1 := (k _ _ na ha).1
  have r1 := ra.move (fun _ z => z) k
  have hl : (enumD ds).length = ds.length := by unfold enumD; rw [List.length_map, List.length_zipIdx]
  refine ⟨fun hi => ⟨xs, SqL.of h1, by rw [ra.length, ← hl]; exact hi⟩, fun d hd => ?_⟩
  obtain ⟨y, hy, ed⟩ := enum_get hd
  subst ed
  obtain ⟨v, hv, rv⟩ := r1.get hy
  refine ⟨⟨xs, v, SqL.of h1, hv⟩, fun x H2 hq => ?_⟩
  obtain ⟨t, x', ex, ht, e, hx⟩ := hq
  have e2 := hx xs (SqL.of h1)
  rw [hv] at e2
  cases e2
  subst ex
  subst e
  have nt : ¬ T' t := fun z => by
    obtain ⟨o, ho⟩ := kn t z
    rw [ht] at ho
    cases ho
  have kp : ∀ b o, H' b = some o → upd H' t (.tup [.int (i : Nat), v]) b = some o := fun b o hb => by rw [upd_ne (ne_of_none hb ht)]; exact hb
  exact ⟨kp, .tup (.inl ⟨nt, upd_same⟩) (.cons (.int _) (.cons (rv.move (fun _ z => z) fun b o n hb => ⟨kp b o hb, n⟩) .nil))⟩
theorem ienum {elts : List Expr} {kk : Nat} {tpos : Pos} (hm : X.mg "enumerate" = none) (ha : PEW X a ta wa) (hg : Gl X "enumerate" := by rfl) (hs : starEach [a] X.env = [(false, eval a X.env)] := by rfl) :
    PIW X (.Tuple elts kk tpos) (.Call (.Name "enumerate" p2) [a] [] pos) (iEnum X.K (tCons ta tNil)) (wEnum wa) := ⟨pi_enum hg hm (pa_cons ha.pe pa_nil hs) hs, fun bx T σ H δ Qd R g en p q =>
  ha.sn bx T σ H δ _ _ g en (fun d x H1 e1 b1 r1 h1 => by
    cases r1 with
    | lst hx nx rx => exact ⟨_, _, rfl, SqL.of hx, p _ _ H1 e1 b1 (drives_enum hx nx rx) h1⟩
    | _ => exact False.elim h1) q⟩
end
/-! ### targets: u tells what of a datum goes to the slots is -/
def SndG (K : PySem.W.Frag) (g : TG) (is : List Nat) (u : D → Option (List D)) : Prop := ∀ bx T v d ds σ H (Q : L2.St → Hp → Prop), RP K bx T H v d → u d = some ds → (∀ vs, RPs K bx T H vs ds → Q (putV σ is vs) H) → g v σ H Q
structure PGW (X : Cx) (tg : Expr) (g : TG) (is : List Nat) (u : D → Option (List D)) : Prop where
  pg : PG X tg g
  sn : SndG X.K g is u
def uName : D → Option (List D) := fun d => some [d]
def uTup (n : Nat) : D → Option (List D) := fun d => match d with
  | .tuple ds => if ds.length = n then some ds else none
  | _ => none
inductive GsIs : TGs → List Nat → Prop
  | nil : GsIs gNil []
  | cons (i : Nat) {t : TGs} {is : List Nat} : GsIs t is → GsIs (gCons (gName i) t) (i :: is)
theorem GsIs.run {t : TGs} {is : List Nat} (g : GsIs t is) : ∀ {vs : List V} {σ : L2.St} {H : Hp} {Q : L2.St → Hp → Prop}, vs.length = is.length → Q (putV σ is vs) H → t vs σ H Q := by
  induction g with
  | nil => intro vs σ H Q e q; cases vs with
    | nil => exact ⟨rfl, q⟩
    | cons => cases e
  | cons i g ih => intro vs σ H Q e q; cases vs with
    | nil => cases e
    | cons v r => exact ⟨v, r, rfl, ih (by simpa using e) q⟩
section
variable {X : Cx} {tg : Expr} {pos : Pos}
theorem gnm (i : Nat) {x : Str} (hN : X.N.Nodup) (hi : X.N[i]? = some x := by rfl) (hx : Loc X.env.scope x := by first | exact Or.inl rfl | exact Or.inr rfl) (hf : X.fn x = true ∨ X.env.scope.names.lookup x = some .local := by first | exact .inl rfl | exact .inr rfl) :
    PGW X (.Name x pos) (gName i) [i] uName := ⟨pg_name hN hi hx hf, fun bx T v d ds σ H Q r e q => by
  cases e
  exact q [v] (.cons r .nil)⟩
structure PGsW (X : Cx) (es : List Expr) (t : TGs) (is : List Nat) : Prop where
  pg : PGs X es t
  is : GsIs t is
theorem gsn : PGsW X [] gNil [] := ⟨pgs_nil, .nil⟩
theorem gsc {es : List Expr} {t : TGs} {is : List Nat} (i : Nat) {x : Str} (hN : X.N.Nodup) (h : PGsW X es t is) (hi : X.N[i]? = some x := by rfl) (hx : Loc X.env.scope x := by first | exact Or.inl rfl | exact Or.inr rfl) (hf : X.fn x = true ∨ X.env.scope.names.lookup x = some .local := by first | exact .inl rfl | exact .inr rfl)
    (hs : (assignEach (.Name x pos :: es) X.env).map (·.2) = assign (.Name x pos) X.env :: (assignEach es X.env).map (·.2) := by rfl) : PGsW X (.Name x pos :: es) (gCons (gName i) t) (i :: is) := ⟨pgs_cons (pg_name hN hi hx hf) h.pg hs, .cons i h.is⟩
theorem gtup {es : List Expr} {k n : Nat} {t : TGs} {is : List Nat} (hc : X.calm = true) (h : PGsW X es t is) (hn : (assignEach es X.env).length = n := by rfl) (hl : is.length = n := by rfl) (hst : (assignEach es X.env).findIdx? (·.1) = none := by rfl) :
    PGW X (.Tuple es k pos) (gTup X.K n t) is (uTup n) := ⟨pg_tup hc h.pg hn hst, fun bx T v d ds σ H Q r e q => by
  cases r with
  | tup ha ra =>
    have e2 : (if _ = n then some _ else none) = some ds := e
    split at e2
    · rename_i z
      cases e2
      exact ⟨_, _, rfl, ha.sq, by rw [ra.length, z], h.is.run (by rw [ra.length, z, hl]) (q _ ra)⟩
    · cases e2
  | _ => cases e⟩
end
/-! ### list comprehensions -/
def wipeD (δ : DE) : List Nat → DE
  | [] => δ
  | v :: vs => (wipeD δ vs).set v none
theorem RPe.wipes {K : PySem.W.Frag} {bx : Bx} {T : Addr → Prop} {H : Hp} {σ : L2.St} {δ : DE} (r : RPe K bx T H σ δ) : ∀ vs : List Nat, RPe K bx T H (L2.wipe σ vs) (wipeD δ vs)
  | [] => r
  | v :: vs => (RPe.wipes r vs).wipe v none
theorem set_none_set (σ : L2.St) (i j : Nat) (o o' : Option V) (h : i ≠ j) : (σ.set i o).set j o' = (σ.set j o').set i o := List.set_comm _ _ h
theorem wipe_set {i : Nat} {o : Option V} : ∀ {vs : List Nat} {σ : L2.St}, i ∈ vs → L2.wipe (σ.set i o) vs = L2.wipe σ vs
  | v :: vs, σ, h => by
    show (L2.wipe (σ.set i o) vs).set v none = (L2.wipe σ vs).set v none
    by_cases e : i ∈ vs
    · rw [wipe_set e]
    · have e2 : i = v := by
        rcases List.mem_cons.mp h with h | h
        · exact h
        · exact absurd h e
      subst e2
      clear h
      revert e
      induction vs generalizing σ with
      | nil => intro _; show (σ.set i o).set i none = σ.set i none; rw [List.set_set]
      | cons w ws ih =>
        intro e
        have ne : w ≠ i := fun z => e (by rw [z]; exact List.mem_cons_self)
        show ((L2.wipe (σ.set i o) ws).set w none).set i none = ((L2.wipe σ ws).set w none).set i none
        rw [set_none_set _ _ _ _ _ ne, set_none_set (L2.wipe σ ws) _ _ _ _ ne, ih (σ := σ) (fun z => e (List.mem_cons_of_mem _ z))]
theorem wipe_idem (σ : L2.St) {vs : List Nat} : ∀ ws : List Nat, (∀ i ∈ ws, i ∈ vs) → L2.wipe (L2.wipe σ ws) vs = L2.wipe σ vs
  | [], _ => rfl
  | w :: ws, h => by
    show L2.wipe ((L2.wipe σ ws).set w none) vs = _
    rw [wipe_set (h w List.mem_cons_self), wipe_idem σ ws fun i hi => h i (List.mem_cons_of_mem _ hi)]
theorem wipe_put {ws : List Nat} {is : List Nat} : ∀ {σ : L2.St} {vs : List V}, (∀ i ∈ is, i ∈ ws) → L2.wipe (putV σ is vs) ws = L2.wipe σ ws := by
  induction is with
  | nil => intro σ vs _; cases vs <;> rfl
  | cons i is ih =>
    intro σ vs h
    cases vs with
    | nil => rfl
    | cons v vs =>
      show L2.wipe (putV (σ.set i (some v)) is vs) ws = _
      rw [ih fun j hj => h j (List.mem_cons_of_mem _ hj), wipe_set (h i List.mem_cons_self)]
/-- an expression that gives a new list -/
abbrev NW := DE → (List D → Prop) → Prop
def SndN (K : PySem.W.Frag) (t : TE) (w : NW) : Prop := ∀ bx T σ H δ (Qd : List D → Prop) (Q : VK), Good bx T H → RPe K bx T H σ δ →
  (∀ ds vs a H', Ext bx H H' → BoxOk bx H' → H a = none → H' a = some (.lst vs) → RPs K bx (fun b => T b ∨ b = a) H' vs ds → Qd ds → Q (.ref a) H') → w δ Qd → t σ H Q
def wN (w : NW) : EW := fun δ Q => w δ fun ds => Q (.list ds)
theorem SndN.e {K : PySem.W.Frag} {t : TE} {w : NW} (h : SndN K t w) : SndE K t (wN w) := fun bx T σ H δ Qd Q g en p q =>
  h bx T σ H δ _ _ g en (fun ds vs a H' e b n hn r hq => p _ _ H' e b (.lst hn (g.new n) (r.move (fun _ z => z) fun x o nx hx => ⟨hx, fun z => nx (Or.inl z)⟩)) hq) q
def lcN (δ : DE) (is : List Nat) (u : D → Option (List D)) (wt : TW) (we : EW) : List D → List D → (List D → Prop) → Prop
  | [], acc, Q => Q acc
  | d :: r, acc, Q => ∃ ds, u d = some ds ∧ wt (putD δ is ds) fun b => if b = true then we (putD δ is ds) fun y => acc.length < sizeLine ∧ lcN δ is u wt we r (acc ++ [y]) Q else lcN δ is u wt we r acc Q
def wLcN (wi : IW) (is : List Nat) (u : D → Option (List D)) (wt : TW) (we : EW) (vs : List Nat) : NW := fun δ Q => wi δ fun ds => lcN (wipeD δ vs) is u wt we ds [] Q
theorem snd_lcN {K : PySem.W.Frag} {wi : TI} {g : TG} {tt : TT} {te : TE} {vs is : List Nat} {u : D → Option (List D)} {ww : IW} {wt : TW} {we : EW} (hi : SndI K wi ww) (hg : SndG K g is u) (ht : SndT K tt wt) (he : SndE K te we) (hsub : ∀ i ∈ is, i ∈ vs) :
    SndN K (tLc wi g tt te vs) (wLcN ww is u wt we vs) := fun bx T σ H δ Qd Q gd en p q => by
  refine hi bx T σ H δ _ _ gd en (fun ds J H1 e1 b1 dr h1 => ?_) q
  intro Dn nD
  have g1 := gd.on e1 b1
  have nT : ¬ T Dn := g1.new nD
  have nB : ¬ isB bx Dn := fun ⟨a, z⟩ => by
    obtain ⟨_, ds', c, h, _⟩ := b1 Dn a z
    rw [nD] at h; cases h
  have n0 : H Dn = none := by
    cases z : H Dn with
    | none => rfl
    | some o =>
      have := e1 Dn o nB z
      rw [nD] at this; cases this
  let T1 : Addr → Prop := fun a => T a ∨ a = Dn
  have kT : Kept T T1 H1 H1 := fun a o n h => ⟨h, fun z => by
    rcases z with z | z
    · exact n z
    · rw [z, nD] at h; cases h⟩
  have en1 : RPe K bx T1 H1 (L2.wipe σ vs) (wipeD δ vs) := ((en.on gd e1).move kT).wipes vs
  let Inv' : Nat → Hp → Prop := fun i H2 => i ≤ ds.length ∧ Ext bx H1 H2 ∧ BoxOk bx H2 ∧ ∃ xs acc, H2 Dn = some (.lst xs) ∧ RPs K bx T1 H2 xs acc ∧ lcN (wipeD δ vs) is u wt we (ds.drop i) acc Qd
  refine ⟨fun i m H2 => m = ds.length - i ∧ Inv' i H2, ⟨_, rfl, Nat.zero_le _, ext_new nD, box_new nD b1, [], [], upd_same, .nil, h1⟩, ?_⟩
  rintro i m H2 ⟨rfl, hi2, e2, b2, xs, acc, hD, ra, hl⟩
  have g2 : Good bx T H2 := g1.on e2 b2
  have gT1 : Good bx T1 H2 := ⟨b2, fun b a e => Or.inl (g2.bxT b a e), fun a z => by
    rcases z with z | z
    · exact g2.kn a z
    · exact ⟨_, by rw [z]; exact hD⟩⟩
  have k2 : Kept T T1 H1 H2 := fun a o n h => ⟨(g1.ext e2 a o n h).1, (kT a o n h).2⟩
  obtain ⟨hs, hn⟩ := dr T1 H2 k2 gT1.kn i
  by_cases hlt : i < ds.length
  · obtain ⟨d, hd⟩ : ∃ d, ds[i]? = some d := ⟨ds[i], List.getElem?_eq_getElem hlt⟩
    have hdr : ds.drop i = d :: ds.drop (i + 1) := by
      rw [List.drop_eq_getElem_cons hlt]
      rw [List.getElem?_eq_getElem hlt] at hd
      cases hd; rfl
    obtain ⟨hgo, hy⟩ := hn d hd
    refine Or.inr ⟨hgo, fun H' => Inv' (i + 1) H', fun H' z => ⟨_, by omega, rfl, z⟩, fun x H3 hyl => ?_⟩
    obtain ⟨kp3, rx⟩ := hy x H3 hyl
    have e3 : Ext bx H2 H3 := fun a o _ h => kp3 a o h
    have b3 : BoxOk bx H3 := fun b a e => by
      obtain ⟨n, ds', c, z1, z2, z3⟩ := b2 b a e
      exact ⟨n, ds', c, kp3 _ _ z1, kp3 _ _ z2, z3⟩
    have g3 : Good bx T1 H3 := gT1.on e3 b3
    rw [hdr] at hl
    obtain ⟨us, hu, hw⟩ := hl
    refine hg bx T1 x d us _ H3 _ rx hu fun ws rw_ => ⟨(wipe_put hsub).trans (wipe_idem σ vs fun _ z => z), ?_⟩
    have en3 : RPe K bx T1 H3 (putV (L2.wipe σ vs) is ws) (putD (wipeD δ vs) is us) := (((en1.move fun a o n h => ⟨(g1.ext e2 a o (fun z => n (Or.inl z)) h).1, n⟩).on gT1 e3)).put rw_
    refine ht bx T1 _ H3 _ _ _ g3 en3 (fun b H4 e4 b4 h4 => ?_) hw
    have g4 : Good bx T1 H4 := g3.on e4 b4
    have hD4 : H4 Dn = some (.lst xs) := e4 _ _ nB (kp3 _ _ hD)
    have ra4 : RPs K bx T1 H4 xs acc := (ra.on gT1 e3).on g3 e4
    cases b with
    | true =>
      refine he bx T1 _ H4 _ _ _ g4 (en3.on g3 e4) (fun y v H5 e5 b5 r5 h5 => ?_) h4
      have hD5 : H5 Dn = some (.lst xs) := e5 _ _ nB hD4
      refine ⟨xs, hD5, by rw [ra.length]; exact h5.1, by omega, ?_, ?_, xs ++ [v], acc ++ [y], upd_same, ?_, h5.2⟩
      · intro a o n h
        by_cases z : a = Dn
        · rw [z, nD] at h; cases h
        · rw [upd_ne z]
          exact e5 a o n (e4 a o n (kp3 a o (e2 a o n h)))
      · intro b a e
        obtain ⟨n, ds', c, z1, z2, z3⟩ := b5 b a e
        obtain ⟨_, ds1, c1, y1, y2, _⟩ := b1 b a e
        refine ⟨n, ds', c, ?_, ?_, z3⟩
        · rw [upd_ne (ne_of_none y1 nD)]; exact z1
        · rw [upd_ne (ne_of_none y2 nD)]; exact z2
      · have kk : ∀ a o, ¬ T1 a → H5 a = some o → upd H5 Dn (.lst (xs ++ [v])) a = some o ∧ ¬ T1 a := fun a o n h => ⟨by
          rw [upd_ne (fun z => n (Or.inr z))]; exact h, n⟩
        exact (((ra4.on g4 e5).move (fun _ z => z) kk)).append (.cons (r5.move (fun _ z => z) kk) .nil)
    | false => exact ⟨by omega, (e2.trans e3).trans e4, b4, xs, acc, hD4, ra4, h4⟩
  · have hi3 : i = ds.length := by omega
    subst hi3
    refine Or.inl ⟨hs (Nat.le_refl _), ?_⟩
    rw [List.drop_length] at hl
    exact p _ _ _ H2 (e1.trans e2) b2 n0 hD ra hl
def wLc (wi : IW) (is : List Nat) (u : D → Option (List D)) (wt : TW) (we : EW) (vs : List Nat) : EW := wN (wLcN wi is u wt we vs)
theorem snd_lc {K : PySem.W.Frag} {wi : TI} {g : TG} {tt : TT} {te : TE} {vs is : List Nat} {u : D → Option (List D)} {ww : IW} {wt : TW} {we : EW} (hi : SndI K wi ww) (hg : SndG K g is u) (ht : SndT K tt wt) (he : SndE K te we) (hsub : ∀ i ∈ is, i ∈ vs) :
    SndE K (tLc wi g tt te vs) (wLc ww is u wt we vs) := (snd_lcN hi hg ht he hsub).e
section
variable {X : Cx} {elt tg it : Expr} {ifs : List Expr} {scope : Scope} {own : List (Str × Nat)} {pos : Pos} {ti : TI} {wi : IW} {g : TG} {is : List Nat} {u : D → Option (List D)} {tt : TT} {wt : TW} {te : TE} {we : EW}
structure PTsW (X : Cx) (ifs : List Expr) (t : TT) (w : TW) : Prop where
  pt : PTs X ifs t
  sn : SndT X.K t w
def wYes : TW := fun _ Q => Q true
theorem ts0 : PTsW X [] tYes wYes := ⟨pts_nil, fun bx T σ H δ Qd Q g e p q => p true H (Ext.refl _ _) g.box q⟩
theorem ts1 {c : Expr} (h : PTW X c tt wt) : PTsW X [c] tt wt := ⟨pts_one h.pt, h.sn⟩
theorem elc (hc : X.calm = true) (hN : X.N.Nodup) (hi : PIW X tg it ti wi) (ok : BlkOk X.N X.env.scope scope own)
    (hg : ∀ (s : Shared) (H : Hp) (C : Addr) (cl : List (Str × Addr)) (fp : List Addr), PGW (X.blk s H scope (compEnvC scope cl C X.env) fp) tg g is u) (ht : ∀ (s : Shared) (H : Hp) (C : Addr) (cl : List (Str × Addr)) (fp : List Addr), PTsW (X.blk s H scope (compEnvC scope cl C X.env) fp) ifs tt wt)
    (he : ∀ (s : Shared) (H : Hp) (C : Addr) (cl : List (Str × Addr)) (fp : List Addr), PEW (X.blk s H scope (compEnvC scope cl C X.env) fp) elt te we) (hsub : ∀ i ∈ is, i ∈ own.map (·.2) := by decide) (hs : ∀ x, foldedSetIterable it X.env x = pure x := by intro _; rfl) :
    PEW X (.ListComp elt [⟨tg, it, ifs, 0⟩] scope pos) (tLc ti g tt te (own.map (·.2))) (wLc wi is u wt we (own.map (·.2))) :=
  ⟨pe_lc hc hN hi.pi ok (fun s H C cl fp => (hg s H C cl fp).pg) (fun s H C cl fp => (ht s H C cl fp).pt) (fun s H C cl fp => (he s H C cl fp).pe) hs, by
    have z : Shared := {}
    exact snd_lc hi.sn (hg z (fun _ => none) 0 [] []).sn (ht z (fun _ => none) 0 [] []).sn (he z (fun _ => none) 0 [] []).sn hsub⟩
structure PNW (X : Cx) (e : Expr) (t : TE) (w : NW) : Prop where
  pe : PE X e t
  sn : SndN X.K t w
theorem nlc (hc : X.calm = true) (hN : X.N.Nodup) (hi : PIW X tg it ti wi) (ok : BlkOk X.N X.env.scope scope own)
    (hg : ∀ (s : Shared) (H : Hp) (C : Addr) (cl : List (Str × Addr)) (fp : List Addr), PGW (X.blk s H scope (compEnvC scope cl C X.env) fp) tg g is u) (ht : ∀ (s : Shared) (H : Hp) (C : Addr) (cl : List (Str × Addr)) (fp : List Addr), PTsW (X.blk s H scope (compEnvC scope cl C X.env) fp) ifs tt wt)
    (he : ∀ (s : Shared) (H : Hp) (C : Addr) (cl : List (Str × Addr)) (fp : List Addr), PEW (X.blk s H scope (compEnvC scope cl C X.env) fp) elt te we) (hsub : ∀ i ∈ is, i ∈ own.map (·.2) := by decide) (hs : ∀ x, foldedSetIterable it X.env x = pure x := by intro _; rfl) :
    PNW X (.ListComp elt [⟨tg, it, ifs, 0⟩] scope pos) (tLc ti g tt te (own.map (·.2))) (wLcN wi is u wt we (own.map (·.2))) :=
  ⟨pe_lc hc hN hi.pi ok (fun s H C cl fp => (hg s H C cl fp).pg) (fun s H C cl fp => (ht s H C cl fp).pt) (fun s H C cl fp => (he s H C cl fp).pe) hs, by
    have z : Shared := {}
    exact snd_lcN hi.sn (hg z (fun _ => none) 0 [] []).sn (ht z (fun _ => none) 0 [] []).sn (he z (fun _ => none) 0 [] []).sn hsub⟩
/-! a new list by other ways -/
theorem nlst {es : List Expr} {tr : TA} {wr : AW} (h : PAW X es tr wr) : PNW X (.List es pos) (tLst tr) (fun δ Q => wr δ fun xs => xs.length ≤ sizeLine ∧ Q xs) := ⟨pe_lst h.pa, fun bx T σ H δ Qd Q g e p q =>
  h.sn bx T σ H δ _ _ g e (fun ds vs H1 e1 b1 r1 h1 => ⟨by rw [r1.length]; exact h1.1, fun a na => by
    have g1 := g.on e1 b1
    have n0 : H a = none := by
      cases z : H a with
      | none => rfl
      | some o =>
        by_cases nb : isB bx a
        · obtain ⟨x, hx⟩ := nb
          obtain ⟨_, ds', c, h2, _⟩ := b1 a x hx
          rw [na] at h2; cases h2
        · have := e1 a o nb z
          rw [na] at this; cases this
    exact p ds vs a _ (e1.trans (ext_new na)) (box_new na b1) n0 upd_same (r1.move (fun _ z => z) fun x o nx hx => ⟨by rw [upd_ne (ne_of_none hx na)]; exact hx, fun z => by
      rcases z with z | z
      · exact nx z
      · rw [z, na] at hx; cases hx⟩) h1.2⟩) q⟩
end
end Wy

set_option Elab.async false
set_option linter.all false
set_option maxRecDepth 100000
set_option maxHeartbeats 2000000
/-! W6: statements, loops, own lists. -/
namespace Wy
open PySem L2

/-- a slot: data, or a list of the def's own that it may change -/
inductive Sl where
  | dat (d : D)
  | own (l : List D)
abbrev SE := List (Option Sl)
def slH : Option Sl → Option D
  | some (.dat d) => some d
  | _ => none
def slF : Option Sl → Option D
  | some (.dat d) => some d
  | some (.own l) => some (.list l)
  | none => none
/-- the slots as data: own lists hidden; own lists among them -/
def vH (ρ : SE) : DE := ρ.map slH
def vF (ρ : SE) : DE := ρ.map slF
def UM (M W : Addr → Prop) : Addr → Prop := fun a => M a ∨ W a
structure Gd (bx : Bx) (M W : Addr → Prop) (H : Hp) : Prop where
  box : BoxOk bx H
  bxM : ∀ b a, bx = some (b, a) → M b ∧ ¬ W a
  kn : ∀ p, M p ∨ W p → ∃ o, H p = some o
  dis : ∀ p, W p → ¬ M p
structure RS (K : PySem.W.Frag) (bx : Bx) (M W : Addr → Prop) (H : Hp) (σ : L2.St) (ρ : SE) : Prop where
  len : ρ.length ≤ σ.length
  dat : ∀ (i : Nat) d, ρ[i]? = some (some (.dat d)) → ∃ v, σ[i]? = some (some v) ∧ RP K bx (UM M W) H v d
  own : ∀ (i : Nat) l, ρ[i]? = some (some (.own l)) → ∃ p vs, σ[i]? = some (some (.ref p)) ∧ H p = some (.lst vs) ∧ RPs K bx (UM M W) H vs l ∧ W p
  ne : ∀ (i j : Nat) l l' p, i ≠ j → ρ[i]? = some (some (.own l)) → ρ[j]? = some (some (.own l')) → σ[i]? = some (some (.ref p)) → σ[j]? = some (some (.ref p)) → False
/-- what a statement may change -/
def Stp (bx : Bx) (W : Addr → Prop) (H : Hp) (W' : Addr → Prop) (H' : Hp) : Prop := ∀ p o, H p = some o → ¬ W p → ¬ isB bx p → H' p = some o ∧ ¬ W' p
theorem Stp.refl (bx : Bx) (W : Addr → Prop) (H : Hp) : Stp bx W H W H := fun _ _ h n _ => ⟨h, n⟩
theorem Stp.trans {bx : Bx} {W W1 W2 : Addr → Prop} {H H1 H2 : Hp} (a : Stp bx W H W1 H1) (b : Stp bx W1 H1 W2 H2) : Stp bx W H W2 H2 := fun p o h n m => b p o (a p o h n m).1 (a p o h n m).2 m
structure PsW where
  nx : SE → Prop
  rt : D → Prop
  bk : SE → Prop := fun _ => False
  ct : SE → Prop := fun _ => False
abbrev SW := SE → PsW → Prop
section
variable {K : PySem.W.Frag} {bx : Bx} {M W W' W1 : Addr → Prop} {H H1 H' : Hp} {σ : L2.St} {ρ : SE}
theorem Gd.good (g : Gd bx M W H) : Good bx (UM M W) H := ⟨g.box, fun b a e => Or.inl (g.bxM b a e).1, g.kn⟩
theorem Gd.goodM (g : Gd bx M W H) : Good bx M H := ⟨g.box, fun b a e => (g.bxM b a e).1, fun p h => g.kn p (Or.inl h)⟩
theorem Gd.nb (g : Gd bx M W H) {p : Addr} (h : W p) : ¬ isB bx p := fun ⟨a, e⟩ => g.dis p h (g.bxM p a e).1
theorem Gd.on (g : Gd bx M W H) (e : Ext bx H H1) (b : BoxOk bx H1) : Gd bx M W H1 := ⟨b, g.bxM, (g.good.on e b).kn, g.dis⟩
theorem Stp.of (e : Ext bx H H1) : Stp bx W H W H1 := fun p o h n m => ⟨e p o m h, n⟩
theorem Stp.kept (g : Gd bx M W H) (s : Stp bx W H W1 H1) : Kept (UM M W) (UM M W1) H H1 := fun a o n h => by
  have nb : ¬ isB bx a := fun ⟨x, e⟩ => n (Or.inl (g.bxM a x e).1)
  have z := s a o h (fun q => n (Or.inr q)) nb
  exact ⟨z.1, fun q => by
    rcases q with q | q
    · exact n (Or.inl q)
    · exact z.2 q⟩
theorem RS.on (g : Gd bx M W H) (e : Ext bx H H1) (r : RS K bx M W H σ ρ) : RS K bx M W H1 σ ρ := ⟨r.len, fun i d h =>
    let ⟨v, h1, h2⟩ := r.dat i d h
    ⟨v, h1, h2.on g.good e⟩, fun i l h =>
    let ⟨p, vs, h1, h2, h3, h4⟩ := r.own i l h
    ⟨p, vs, h1, e p _ (g.nb h4) h2, h3.on g.good e, h4⟩, r.ne⟩
theorem getH {i : Nat} {d : D} (h : (vH ρ)[i]? = some (some d)) : ρ[i]? = some (some (.dat d)) := by
  unfold vH at h
  rw [List.getElem?_map] at h
  cases e : ρ[i]? with
  | none => rw [e] at h; cases h
  | some o =>
    rw [e] at h
    cases o with
    | none => cases h
    | some s =>
      cases s with
      | dat x => cases h; rfl
      | own l => cases h
theorem getF {i : Nat} {d : D} (h : (vF ρ)[i]? = some (some d)) : ρ[i]? = some (some (.dat d)) ∨ ∃ l, ρ[i]? = some (some (.own l)) ∧ d = .list l := by
  unfold vF at h
  rw [List.getElem?_map] at h
  cases e : ρ[i]? with
  | none => rw [e] at h; cases h
  | some o =>
    rw [e] at h
    cases o with
    | none => cases h
    | some s =>
      cases s with
      | dat x => cases h; exact Or.inl rfl
      | own l => cases h; exact Or.inr ⟨l, rfl, rfl⟩
theorem RS.eH (r : RS K bx M W H σ ρ) : RPe K bx (UM M W) H σ (vH ρ) := ⟨by unfold vH; rw [List.length_map]; exact r.len, fun i d h => r.dat i d (getH h)⟩
theorem toM {a : Addr} {o : HO} : ¬ UM M W a → H a = some o → H a = some o ∧ ¬ M a := fun n h => ⟨h, fun z => n (Or.inl z)⟩
theorem RS.eF (g : Gd bx M W H) (r : RS K bx M W H σ ρ) : RPe K bx M H σ (vF ρ) := ⟨by unfold vF; rw [List.length_map]; exact r.len, fun i d h => by
  rcases getF h with hh | ⟨l, hh, e⟩
  · obtain ⟨v, h1, h2⟩ := r.dat i d hh
    exact ⟨v, h1, h2.move (fun _ z => z) fun a o => toM⟩
  · subst e
    obtain ⟨p, vs, h1, h2, h3, h4⟩ := r.own i l hh
    exact ⟨_, h1, .lst h2 (g.dis p h4) (h3.move (fun _ z => z) fun a o => toM)⟩⟩
/-- a slot gets data -/
theorem RS.set (r : RS K bx M W H σ ρ) (i : Nat) {v : V} {d : D} (h : RP K bx (UM M W) H v d) : RS K bx M W H (σ.set i (some v)) (ρ.set i (some (.dat d))) := ⟨by
    rw [List.length_set, List.length_set]; exact r.len, fun j e hj => by
    by_cases q : i = j
    · subst q
      have hl : i < ρ.length := by
        have := (List.getElem?_eq_some_iff.mp hj).1
        rwa [List.length_set] at this
      rw [List.getElem?_set_self hl] at hj
      cases hj
      exact ⟨v, List.getElem?_set_self (Nat.lt_of_lt_of_le hl r.len), h⟩
    · rw [List.getElem?_set_ne q] at hj ⊢
      exact r.dat j e hj, fun j e hj => by
    by_cases q : i = j
    · subst q
      have hl : i < ρ.length := by
        have := (List.getElem?_eq_some_iff.mp hj).1
        rwa [List.length_set] at this
      rw [List.getElem?_set_self hl] at hj
      cases hj
    · rw [List.getElem?_set_ne q] at hj ⊢
      exact r.own j e hj, fun a b l l' p nab ha hb sa sb => by
    have f : ∀ (j : Nat) l, (ρ.set i (some (.dat d)))[j]? = some (some (.own l)) → i ≠ j := fun j l hj q => by
      subst q
      have hl : i < ρ.length := by
        have := (List.getElem?_eq_some_iff.mp hj).1
        rwa [List.length_set] at this
      rw [List.getElem?_set_self hl] at hj
      cases hj
    have ia := f a l ha
    have ib := f b l' hb
    rw [List.getElem?_set_ne ia] at ha sa
    rw [List.getElem?_set_ne ib] at hb sb
    exact r.ne a b l l' p nab ha hb sa sb⟩
def putS : SE → List Nat → List D → SE
  | ρ, i :: is, d :: ds => putS (ρ.set i (some (.dat d))) is ds
  | ρ, _, _ => ρ
theorem RS.put {is : List Nat} : ∀ {σ : L2.St} {ρ : SE} {vs : List V} {ds : List D}, RS K bx M W H σ ρ → RPs K bx (UM M W) H vs ds → RS K bx M W H (putV σ is vs) (putS ρ is ds) := by
  induction is with
  | nil => intro σ ρ vs ds r q; cases q <;> exact r
  | cons i is ih =>
    intro σ ρ vs ds r q
    cases q with
    | nil => exact r
    | cons h q => exact ih (r.set i h) q
end
/-- what is wanted, by data and by heaps -/
structure Imp (K : PySem.W.Frag) (bx : Bx) (M W : Addr → Prop) (H : Hp) (P : PsW) (Dn : Ends) : Prop where
  nx : ∀ W' σ' H' ρ', Stp bx W H W' H' → Gd bx M W' H' → RS K bx M W' H' σ' ρ' → P.nx ρ' → Dn.nx σ' H'
  bk : ∀ W' σ' H' ρ', Stp bx W H W' H' → Gd bx M W' H' → RS K bx M W' H' σ' ρ' → P.bk ρ' → Dn.bk σ' H'
  ct : ∀ W' σ' H' ρ', Stp bx W H W' H' → Gd bx M W' H' → RS K bx M W' H' σ' ρ' → P.ct ρ' → Dn.ct σ' H'
  rt : ∀ W' v d H', Stp bx W H W' H' → BoxOk bx H' → RP K bx M H' v d → P.rt d → Dn.rt v H'
theorem Imp.on {K : PySem.W.Frag} {bx : Bx} {M W W1 : Addr → Prop} {H H1 : Hp} {P : PsW} {Dn : Ends} (p : Imp K bx M W H P Dn) (s : Stp bx W H W1 H1) : Imp K bx M W1 H1 P Dn :=
  ⟨fun W' σ' H' ρ' t => p.nx W' σ' H' ρ' (s.trans t), fun W' σ' H' ρ' t => p.bk W' σ' H' ρ' (s.trans t), fun W' σ' H' ρ' t => p.ct W' σ' H' ρ' (s.trans t), fun W' v d H' t => p.rt W' v d H' (s.trans t)⟩
def SndS (K : PySem.W.Frag) (t : TS) (w : SW) : Prop := ∀ bx M W σ H ρ (P : PsW) (Dn : Ends), Gd bx M W H → RS K bx M W H σ ρ → Imp K bx M W H P Dn → w ρ P → t Dn σ H
structure PSW (X : Cx) (st : Stmt) (t : TS) (w : SW) : Prop where
  ps : PS X st t
  sn : SndS X.K t w
structure PSsW (X : Cx) (st : List Stmt) (t : TS) (w : SW) : Prop where
  ps : PSs X st t
  sn : SndS X.K t w
/-! ### blocks -/
def wNext : SW := fun ρ P => P.nx ρ
def wSeq (w u : SW) : SW := fun ρ P => w ρ { P with nx := fun ρ' => u ρ' P }
def wAsg (i : Nat) (e : EW) : SW := fun ρ P => e (vH ρ) fun d => P.nx (ρ.set i (some (.dat d)))
def scal1 : D → Bool
  | .none => true
  | .bool _ => true
  | .int _ => true
  | .str _ => true
  | _ => false
def wAsgS (i : Nat) (e : EW) : SW := fun ρ P => e (vF ρ) fun d => scal1 d = true ∧ P.nx (ρ.set i (some (.dat d)))
def wGs (is : List Nat) (u : D → Option (List D)) (e : EW) : SW := fun ρ P => e (vH ρ) fun d => ∃ ds, u d = some ds ∧ P.nx (putS ρ is ds)
def wRet (e : EW) : SW := fun ρ P => e (vF ρ) P.rt
def wRetN : SW := fun _ P => P.rt .none
def wIfS (t : TW) (a b : SW) : SW := fun ρ P => t (vF ρ) fun c => if c = true then a ρ P else b ρ P
def wDrop (e : EW) : SW := fun ρ P => e (vF ρ) fun _ => P.nx ρ
def wBreak : SW := fun ρ P => P.bk ρ
def wCont : SW := fun ρ P => P.ct ρ
def wNever : SW := fun _ _ => False
def frz (i : Nat) (ρ : SE) : SE := match ρ[i]? with
  | some (some (.own l)) => ρ.set i (some (.dat (.list l)))
  | _ => ρ
def wFrz (i : Nat) (w : SW) : SW := fun ρ P => w (frz i ρ) P
section
variable {K : PySem.W.Frag} {t u : TS} {w w' : SW} {te : TE} {we : EW} {tt : TT} {wt : TW}
theorem snd_next : SndS K tNext wNext := fun bx M W σ H ρ P Dn g r p h => p.nx W σ H ρ (Stp.refl bx W H) g r h
theorem snd_seq (h1 : SndS K t w) (h2 : SndS K u w') : SndS K (tSeq t u) (wSeq w w') := fun bx M W σ H ρ P Dn g r p h =>
  h1 bx M W σ H ρ { P with nx := fun ρ' => w' ρ' P } _ g r ⟨fun W' σ' H' ρ' s g' r' q => h2 bx M W' σ' H' ρ' P Dn g' r' (p.on s) q, p.bk, p.ct, p.rt⟩ h
theorem scal_move {bx bx' : Bx} {T T' : Addr → Prop} {H H' : Hp} {v : V} {d : D} (r : RP K bx T H v d) (s : scal1 d = true) : RP K bx' T' H' v d := by
  cases r with
  | non => exact .non
  | bl b => exact .bl b
  | int i => exact .int i
  | str x => exact .str x
  | _ => cases s
theorem snd_asg {i : Nat} (h : SndE K te we) : SndS K (tAsg te (gName i)) (wAsg i we) := fun bx M W σ H ρ P Dn g r p q =>
  h bx (UM M W) σ H (vH ρ) _ _ g.good r.eH (fun d v H1 e b rv hq => p.nx W _ H1 _ (Stp.of e) (g.on e b) ((r.on g e).set i rv) hq) q
theorem snd_asgS {i : Nat} (h : SndE K te we) : SndS K (tAsg te (gName i)) (wAsgS i we) := fun bx M W σ H ρ P Dn g r p q =>
  h bx M σ H (vF ρ) _ _ g.goodM (r.eF g) (fun d v H1 e b rv hq => p.nx W _ H1 _ (Stp.of e) (g.on e b) ((r.on g e).set i (scal_move rv hq.1)) hq.2) q
theorem snd_gs {gt : TG} {is : List Nat} {un : D → Option (List D)} (h : SndE K te we) (hg : SndG K gt is un) : SndS K (tAsg te gt) (wGs is un we) := fun bx M W σ H ρ P Dn g r p q =>
  h bx (UM M W) σ H (vH ρ) _ _ g.good r.eH (fun d v H1 e b rv hq => by
    obtain ⟨ds, hu, hn⟩ := hq
    exact hg bx (UM M W) v d ds σ H1 _ rv hu fun vs rvs => p.nx W _ H1 _ (Stp.of e) (g.on e b) ((r.on g e).put rvs) hn) q
theorem snd_ret (h : SndE K te we) : SndS K (tRet te) (wRet we) := fun bx M W σ H ρ P Dn g r p q =>
  h bx M σ H (vF ρ) _ _ g.goodM (r.eF g) (fun d v H1 e b rv hq => p.rt W v d H1 (Stp.of e) b rv hq) q
theorem snd_retN : SndS K tRetN wRetN := fun bx M W σ H ρ P Dn g r p q => p.rt W .non .none H (Stp.refl bx W H) g.box .non q
theorem snd_ifS (h : SndT K tt wt) (h1 : SndS K t w) (h2 : SndS K u w') : SndS K (tIfS tt t u) (wIfS wt w w') := fun bx M W σ H ρ P Dn g r p q =>
  h bx M σ H (vF ρ) _ _ g.goodM (r.eF g) (fun c H1 e b hq => by
    cases c with
    | true => exact h1 bx M W σ H1 ρ P Dn (g.on e b) (r.on g e) (p.on (Stp.of e)) hq
    | false => exact h2 bx M W σ H1 ρ P Dn (g.on e b) (r.on g e) (p.on (Stp.of e)) hq) q
theorem snd_drop (h : SndE K te we) : SndS K (tDrop te) (wDrop we) := fun bx M W σ H ρ P Dn g r p q =>
  h bx M σ H (vF ρ) _ _ g.goodM (r.eF g) (fun d v H1 e b rv hq => p.nx W σ H1 ρ (Stp.of e) (g.on e b) (r.on g e) hq) q
theorem snd_break : SndS K tBreak wBreak := fun bx M W σ H ρ P Dn g r p h => p.bk W σ H ρ (Stp.refl bx W H) g r h
theorem snd_cont : SndS K tCont wCont := fun bx M W σ H ρ P Dn g r p h => p.ct W σ H ρ (Stp.refl bx W H) g r h
theorem snd_never : SndS K tNever wNever := fun bx M W σ H ρ P Dn g r p h => h.elim
/-- an own list is from here on data -/
theorem snd_frz {i : Nat} (h : SndS K t w) : SndS K t (wFrz i w) := fun bx M W σ H ρ P Dn g r p q => by
  unfold wFrz frz at q
  split at q
  · rename_i l e
    obtain ⟨a, vs, h1, h2, h3, h4⟩ := r.own i l e
    let W1 : Addr → Prop := fun b => W b ∧ b ≠ a
    have kk : ∀ b o, ¬ UM M W b → H b = some o → H b = some o ∧ ¬ UM M W1 b := fun b o n hb => ⟨hb, fun z => by
      rcases z with z | z
      · exact n (Or.inl z)
      · exact n (Or.inr z.1)⟩
    have g1 : Gd bx M W1 H := ⟨g.box, fun b c e => ⟨(g.bxM b c e).1, fun z => (g.bxM b c e).2 z.1⟩, fun b z => g.kn b (by
      rcases z with z | z
      · exact Or.inl z
      · exact Or.inr z.1), fun b z => g.dis b z.1⟩
    have hl : i < ρ.length := (List.getElem?_eq_some_iff.mp e).1
    refine h bx M W1 σ H _ P Dn g1 ⟨by rw [List.length_set]; exact r.len, fun j d hj => ?_, fun j l' hj => ?_, fun j k l1 l2 b njk hj hk sj sk => ?_⟩ (p.on fun b o hb n m => ⟨hb, fun z => n z.1⟩) q
    · by_cases q : i = j
      · subst q
        rw [List.getElem?_set_self hl] at hj
        cases hj
        exact ⟨_, h1, .lst h2 (fun z => by
          rcases z with z | z
          · exact g.dis a h4 z
          · exact z.2 rfl) (h3.move (fun _ z => z) kk)⟩
      · rw [List.getElem?_set_ne q] at hj
        obtain ⟨v, z1, z2⟩ := r.dat j d hj
        exact ⟨v, z1, z2.move (fun _ z => z) kk⟩
    · by_cases q : i = j
      · subst q
        rw [List.getElem?_set_self hl] at hj
        cases hj
      · rw [List.getElem?_set_ne q] at hj
        obtain ⟨b, ws, z1, z2, z3, z4⟩ := r.own j l' hj
        exact ⟨b, ws, z1, z2, z3.move (fun _ z => z) kk, z4, fun z => r.ne i j l l' a q e hj h1 (by rw [← z]; exact z1)⟩
    · have f : ∀ (x : Nat) m, (ρ.set i (some (.dat (.list l))))[x]? = some (some (.own m)) → ρ[x]? = some (some (.own m)) := fun x m hx => by
        by_cases q : i = x
        · subst q
          rw [List.getElem?_set_self hl] at hx
          cases hx
        · rw [List.getElem?_set_ne q] at hx; exact hx
      exact r.ne j k l1 l2 b njk (f j l1 hj) (f k l2 hk) sj sk
  · exact h bx M W σ H ρ P Dn g r p q
end
section
variable {X : Cx} {st : Stmt} {rest : List Stmt} {t u : TS} {w w' : SW} {e c tg : Expr} {te : TE} {we : EW} {tt : TT} {wt : TW} {pos pos' : Pos}
theorem sn : PSsW X [] tNext wNext := ⟨pss_nil, snd_next⟩
theorem sc (h1 : PSW X st t w) (h2 : PSsW X rest u w') : PSsW X (st :: rest) (tSeq t u) (wSeq w w') := ⟨pss_cons h1.ps h2.ps, snd_seq h1.sn h2.sn⟩
theorem s1 (h1 : PSW X st t w) : PSsW X [st] t w := ⟨pss_one h1.ps, h1.sn⟩
theorem sf (i : Nat) (h : PSsW X rest t w) : PSsW X rest t (wFrz i w) := ⟨h.ps, snd_frz h.sn⟩
theorem sset (i : Nat) {x : Str} (hN : X.N.Nodup) (he : PEW X e te we) (hi : X.N[i]? = some x := by rfl) (hx : Loc X.env.scope x := by first | exact Or.inl rfl | exact Or.inr rfl) (hs : swapsWith e (some (.Name x pos')) pos.line X.env = pure false := by rfl)
    (hf : X.fn x = true ∨ X.env.scope.names.lookup x = some .local := by first | exact .inl rfl | exact .inr rfl) : PSW X (.Assign [.Name x pos'] e pos) (tAsg te (gName i)) (wAsg i we) := ⟨ps_set hN hi hx he.pe hs hf, snd_asg he.sn⟩
theorem ssetS (i : Nat) {x : Str} (hN : X.N.Nodup) (he : PEW X e te we) (hi : X.N[i]? = some x := by rfl) (hx : Loc X.env.scope x := by first | exact Or.inl rfl | exact Or.inr rfl) (hs : swapsWith e (some (.Name x pos')) pos.line X.env = pure false := by rfl)
    (hf : X.fn x = true ∨ X.env.scope.names.lookup x = some .local := by first | exact .inl rfl | exact .inr rfl) : PSW X (.Assign [.Name x pos'] e pos) (tAsg te (gName i)) (wAsgS i we) := ⟨ps_set hN hi hx he.pe hs hf, snd_asgS he.sn⟩
theorem sasg {g : TG} {is : List Nat} {un : D → Option (List D)} (he : PEW X e te we) (hg : PGW X tg g is un) (hs : swapsWithSole [tg] e pos.line X.env = pure false := by rfl) (hw : swappedStores [tg] e X.env = pure none := by rfl)
    (h1 : (assignEach [tg] X.env).map (·.2) = [assign tg X.env] := by rfl) : PSW X (.Assign [tg] e pos) (tAsg te g) (wGs is un we) := ⟨ps_asg he.pe hg.pg hs hw h1, snd_gs he.sn hg.sn⟩
theorem sret (he : PEW X e te we) : PSW X (.Return (some e) pos) (tRet te) (wRet we) := ⟨ps_ret he.pe, snd_ret he.sn⟩
theorem sretN : PSW X (.Return none pos) tRetN wRetN := ⟨ps_retN, snd_retN⟩
theorem sif {a b : List Stmt} (hc : PTW X c tt wt) (ha : PSsW X a t w) (hb : PSsW X b u w') : PSW X (.If c a b pos) (tIfS tt t u) (wIfS wt w w') := ⟨ps_if hc.pt ha.ps hb.ps, snd_ifS hc.sn ha.sn hb.sn⟩
theorem sexp (he : PEW X e te we) (hs : swapsWith e none pos.line X.env = pure false := by rfl) : PSW X (.Expr e pos) (tDrop te) (wDrop we) := ⟨ps_expr he.pe hs, snd_drop he.sn⟩
theorem spass : PSW X (.Pass pos) tNext wNext := ⟨ps_pass, snd_next⟩
theorem sbrk : PSW X (.Break pos) tBreak wBreak := ⟨ps_break, snd_break⟩
theorem scnt : PSW X (.Continue pos) tCont wCont := ⟨ps_continue, snd_cont⟩
theorem snever : PSW X st tNever wNever := ⟨ps_never, snd_never⟩
/-! ### a, b = x, y -/
def wPar (i j : Nat) (a : AW) : SW := fun ρ P => a (vH ρ) fun ds => match ds with
  | [x, y] => P.nx ((ρ.set i (some (.dat x))).set j (some (.dat y)))
  | _ => False
theorem spar {i j : Nat} {x y : Str} {a b : Expr} {ta : TA} {wa : AW} {px py pt : Pos} {kt k2 pt2} (hc : X.calm = true) (hN : X.N.Nodup) (ha : PAW X [a, b] ta wa) (hi : X.N[i]? = some x := by rfl) (hj : X.N[j]? = some y := by rfl) (hij : i ≠ j := by decide)
    (hx : X.env.scope.names.lookup x = some .local := by rfl) (hy : X.env.scope.names.lookup y = some .local := by rfl)
    (hw : swappedStores [.Tuple [.Name x px, .Name y py] kt pt] (.Tuple [a, b] k2 pt2) X.env = pure (some [x, y]) := by rfl)
    (hs : swapsWithSole [.Tuple [.Name x px, .Name y py] kt pt] (.Tuple [a, b] k2 pt2) pos.line X.env = pure false := by rfl) :
    PSW X (.Assign [.Tuple [.Name x px, .Name y py] kt pt] (.Tuple [a, b] k2 pt2) pos) (tPar i j ta) (wPar i j wa) := ⟨ps_par hc hN hi hj hij hx hy ha.pa hw hs, fun bx M W σ H ρ P Dn g r p q =>
  ha.sn bx (UM M W) σ H (vH ρ) _ _ g.good r.eH (fun ds vs H1 e b rv hq => by
    cases rv with
    | nil => exact False.elim hq
    | cons r1 rv =>
      cases rv with
      | nil => exact False.elim hq
      | cons r2 rv =>
        cases rv with
        | nil => exact ⟨_, _, rfl, p.nx W _ H1 _ (Stp.of e) (g.on e b) (((r.on g e).set i r1).set j r2) hq⟩
        | cons => exact False.elim hq) q⟩
/-! ### x op= e of a number or a text -/
def wAug (i : Nat) (o : O2) (e : EW) : SW := fun ρ P => match ρ[i]? with
  | some (some (.dat x)) => e (vF ρ) fun y => o x y fun z => scal1 z = true ∧ P.nx (ρ.set i (some (.dat z)))
  | _ => False
theorem saug (i : Nat) {x : Str} {op : Operator} {rr : R2} {o : O2} (hN : X.N.Nodup) (ho : OpW X (inplaceOp op) rr o) (he : PEW X e te we) (hi : X.N[i]? = some x := by rfl) (hx : Loc X.env.scope x := by first | exact Or.inl rfl | exact Or.inr rfl)
    (hf : X.fn x = true ∨ X.env.scope.names.lookup x = some .local := by first | exact .inl rfl | exact .inr rfl) : PSW X (.AugAssign (.Name x pos') op e pos) (tAug i te rr) (wAug i o we) := ⟨ps_aug hN hi hx he.pe ho.op hf, fun bx M W σ H ρ P Dn g r p q => by
  unfold wAug at q
  split at q
  · rename_i d ed
    obtain ⟨v, hv, rv⟩ := r.dat i d ed
    refine ⟨v, hv, he.sn bx M σ H (vF ρ) _ _ g.goodM (r.eF g) (fun y vy H1 e1 b1 r1 h1 => ?_) q⟩
    have g1 := g.on e1 b1
    refine ho.sn bx M H1 v vy d y _ _ g1.goodM ((rv.on g.good e1).move (fun _ z => z) fun a o => toM) r1 (fun z vz H2 e2 b2 r2 h2 => ?_) h1
    exact p.nx W _ H2 _ ((Stp.of e1).trans (Stp.of e2)) (g1.on e2 b2) (((r.on g e1).on g1 e2).set i (scal_move r2 h2.1)) h2.2
  · exact q.elim⟩
/-! ### while -/
def wWhile (t : TW) (b : SW) : SW := fun ρ P => ∃ I : Nat → SE → Prop, (∃ m, I m ρ) ∧ ∀ m ρ, I m ρ → t (vF ρ) fun c => if c = true then b ρ { nx := fun ρ' => ∃ m', m' < m ∧ I m' ρ', ct := fun ρ' => ∃ m', m' < m ∧ I m' ρ', bk := P.nx, rt := P.rt } else P.nx ρ
theorem snd_while {K : PySem.W.Frag} (h : SndT K tt wt) (h1 : SndS K t w) : SndS K (tWhile tt t) (wWhile wt w) := fun bx M W σ H ρ P Dn g r p q => by
  obtain ⟨I, ⟨m0, i0⟩, hI⟩ := q
  refine ⟨fun m σ' H' => ∃ W' ρ', Stp bx W H W' H' ∧ Gd bx M W' H' ∧ RS K bx M W' H' σ' ρ' ∧ I m ρ', ⟨m0, W, ρ, Stp.refl bx W H, g, r, i0⟩, ?_⟩
  rintro m σ' H' ⟨W', ρ', s', g', r', i'⟩
  refine h bx M σ' H' (vF ρ') _ _ g'.goodM (r'.eF g') (fun c H1 e b hq => ?_) (hI m ρ' i')
  cases c with
  | true =>
    refine ⟨fun σ2 H2 => ∃ m', m' < m ∧ ∃ W2 ρ2, Stp bx W H W2 H2 ∧ Gd bx M W2 H2 ∧ RS K bx M W2 H2 σ2 ρ2 ∧ I m' ρ2, fun σ2 H2 z => z, ?_⟩
    have s1 : Stp bx W H W' H1 := s'.trans (Stp.of e)
    refine h1 bx M W' σ' H1 ρ' _ _ (g'.on e b) (r'.on g' e) ⟨fun W2 σ2 H2 ρ2 s2 g2 r2 z => ?_, fun W2 σ2 H2 ρ2 s2 g2 r2 z => ?_, fun W2 σ2 H2 ρ2 s2 g2 r2 z => ?_, fun W2 v d H2 s2 b2 r2 z => ?_⟩ hq
    · obtain ⟨m', lt, im⟩ := z
      exact ⟨m', lt, W2, ρ2, s1.trans s2, g2, r2, im⟩
    · exact p.nx W2 σ2 H2 ρ2 (s1.trans s2) g2 r2 z
    · obtain ⟨m', lt, im⟩ := z
      exact ⟨m', lt, W2, ρ2, s1.trans s2, g2, r2, im⟩
    · exact p.rt W2 v d H2 (s1.trans s2) b2 r2 z
  | false => exact p.nx W' σ' H1 ρ' (s'.trans (Stp.of e)) (g'.on e b) (r'.on g' e) hq
theorem swhile {body : List Stmt} (hp : PassesOwn (model X.prog X.w) X.A X.env X.xe) (hc : PTW X c tt wt) (hb : PSsW X body t w) : PSW X (.While c body [] pos) (tWhile tt t) (wWhile wt w) := ⟨ps_while hp hc.pt hb.ps, snd_while hc.sn hb.sn⟩
/-! ### for -/
def forD (is : List Nat) (un : D → Option (List D)) (b : SW) : List D → SW
  | [], ρ, P => P.nx ρ
  | d :: r, ρ, P => ∃ ds, un d = some ds ∧ b (putS ρ is ds) { nx := fun ρ' => forD is un b r ρ' P, ct := fun ρ' => forD is un b r ρ' P, bk := P.nx, rt := P.rt }
def wFor (wi : IW) (is : List Nat) (un : D → Option (List D)) (b : SW) : SW := fun ρ P => wi (vH ρ) fun ds => forD is un b ds ρ P
theorem snd_for {K : PySem.W.Frag} {ti : TI} {wi : IW} {g : TG} {is : List Nat} {un : D → Option (List D)} (hi : SndI K ti wi) (hg : SndG K g is un) (h1 : SndS K t w) : SndS K (tFor ti g t) (wFor wi is un w) := fun bx M W σ H ρ P Dn gd r p q => by
  refine hi bx (UM M W) σ H (vH ρ) _ _ gd.good r.eH (fun ds J H1 e1 b1 dr hq => ?_) q
  have gd1 := gd.on e1 b1
  refine ⟨fun i m σ' H' => m = ds.length - i ∧ i ≤ ds.length ∧ ∃ W' ρ', Stp bx W H1 W' H' ∧ Gd bx M W' H' ∧ RS K bx M W' H' σ' ρ' ∧ forD is un w (ds.drop i) ρ' P, ⟨_, rfl, Nat.zero_le _, W, ρ, Stp.refl bx W H1, gd1, r.on gd e1, hq⟩, ?_⟩
  rintro i m σ' H' ⟨rfl, hle, W', ρ', s', g', r', hf⟩
  obtain ⟨hs, hn⟩ := dr (UM M W') H' (s'.kept gd1) g'.kn i
  have s0 : Stp bx W H W' H' := (Stp.of e1).trans s'
  by_cases hlt : i < ds.length
  · obtain ⟨d, hd⟩ : ∃ d, ds[i]? = some d := ⟨ds[i], List.getElem?_eq_getElem hlt⟩
    have hdr : ds.drop i = d :: ds.drop (i + 1) := by
      rw [List.drop_eq_getElem_cons hlt]
      rw [List.getElem?_eq_getElem hlt] at hd
      cases hd; rfl
    obtain ⟨hgo, hy⟩ := hn d hd
    refine Or.inr ⟨hgo, fun σ2 H2 => i + 1 ≤ ds.length ∧ ∃ W2 ρ2, Stp bx W H1 W2 H2 ∧ Gd bx M W2 H2 ∧ RS K bx M W2 H2 σ2 ρ2 ∧ forD is un w (ds.drop (i + 1)) ρ2 P, fun σ2 H2 z => ⟨_, by omega, rfl, z⟩, fun x H2 hyl => ?_⟩
    obtain ⟨kp, rx⟩ := hy x H2 hyl
    have e2 : Ext bx H' H2 := fun a o _ h => kp a o h
    have b2 : BoxOk bx H2 := fun b a e => by
      obtain ⟨n, ds', c, z1, z2, z3⟩ := g'.box b a e
      exact ⟨n, ds', c, kp _ _ z1, kp _ _ z2, z3⟩
    have g2 := g'.on e2 b2
    rw [hdr] at hf
    obtain ⟨us, hu, hw⟩ := hf
    refine hg bx (UM M W') x d us σ' H2 _ rx hu fun vs rvs => ?_
    have s2 : Stp bx W H1 W' H2 := s'.trans (Stp.of e2)
    refine h1 bx M W' _ H2 _ { nx := fun ρ' => forD is un w (ds.drop (i + 1)) ρ' P, rt := P.rt, bk := P.nx, ct := fun ρ' => forD is un w (ds.drop (i + 1)) ρ' P } _ g2 ((r'.on g' e2).put rvs) ⟨fun W3 σ3 H3 ρ3 s3 g3 r3 z => ⟨by omega, W3, ρ3, s2.trans s3, g3, r3, z⟩, fun W3 σ3 H3 ρ3 s3 g3 r3 z => p.nx W3 σ3 H3 ρ3 ((Stp.of e1).trans (s2.trans s3)) g3 r3 z,
      fun W3 σ3 H3 ρ3 s3 g3 r3 z => ⟨by omega, W3, ρ3, s2.trans s3, g3, r3, z⟩, fun W3 v d' H3 s3 b3 r3 z => p.rt W3 v d' H3 ((Stp.of e1).trans (s2.trans s3)) b3 r3 z⟩ hw
  · have hi3 : i = ds.length := by omega
    subst hi3
    rw [List.drop_length] at hf
    exact Or.inl ⟨hs (Nat.le_refl _), p.nx W' σ' H' ρ' s0 g' r' hf⟩
theorem sfor {it : Expr} {body : List Stmt} {ti : TI} {wi : IW} {g : TG} {is : List Nat} {un : D → Option (List D)} (hp : PassesOwn (model X.prog X.w) X.A X.env X.xe) (hc : X.calm = true) (hi : PIW X tg it ti wi) (hg : PGW X tg g is un) (hb : PSsW X body t w)
    (hs : ∀ x, foldedSetIterable it X.env x = pure x := by intro _; rfl) : PSW X (.For tg it body [] pos) (tFor ti g t) (wFor wi is un w) := ⟨ps_for hp hc hi.pi hg.pg hb.ps hs, snd_for hi.sn hg.sn hb.sn⟩
end
end Wy

set_option Elab.async false
set_option linter.all false
set_option maxRecDepth 100000
set_option maxHeartbeats 2000000
/-! W7: own lists made and changed, a def by its body, the law's box. -/
namespace Wy
open PySem PyProof.Rows L2
section
variable {K : PySem.W.Frag} {bx : Bx} {M W : Addr → Prop} {H H1 : Hp} {σ : L2.St} {ρ : SE}
/-- a slot gets a new list -/
theorem own_new (g : Gd bx M W H) (r : RS K bx M W H σ ρ) (e : Ext bx H H1) (b : BoxOk bx H1) {a : Addr} {vs : List V} {ds : List D} (na : H a = none) (ha : H1 a = some (.lst vs)) (rv : RPs K bx (fun x => UM M W x ∨ x = a) H1 vs ds) (i : Nat) :
    Gd bx M (fun x => W x ∨ x = a) H1 ∧ RS K bx M (fun x => W x ∨ x = a) H1 (σ.set i (some (.ref a))) (ρ.set i (some (.own ds))) ∧ Stp bx W H (fun x => W x ∨ x = a) H1 := by
  have g1 := g.on e b
  have r1 := r.on g e
  have ne : ∀ x o, H x = some o → x ≠ a := fun x o h z => by rw [z, na] at h; cases h
  have nM : ¬ M a := fun z => by
    obtain ⟨o, ho⟩ := g.kn a (Or.inl z)
    rw [na] at ho; cases ho
  have nb : ∀ b c, bx = some (b, c) → b ≠ a ∧ c ≠ a := fun b c e => by
    obtain ⟨_, ds', k, h1, h2, _⟩ := g.box b c e
    exact ⟨ne _ _ h1, ne _ _ h2⟩
  have kk : ∀ x o, ¬ UM M W x → H x = some o → H1 x = some o ∧ ¬ UM M (fun y => W y ∨ y = a) x := fun x o n h => ⟨(g.good.ext e x o n h).1, fun z => by
    rcases z with z | z | z
    · exact n (Or.inl z)
    · exact n (Or.inr z)
    · exact ne x o h z⟩
  refine ⟨⟨b, fun p c e => ⟨(g.bxM p c e).1, fun z => ?_⟩, fun p z => ?_, fun p z => ?_⟩, ⟨?_, fun j d hj => ?_, fun j l hj => ?_, fun j k l l' p njk hj hk sj sk => ?_⟩, fun p o hp n m => ⟨e p o m hp, fun z => ?_⟩⟩
  · rcases z with z | z
    · exact (g.bxM p c e).2 z
    · exact (nb p c e).2 z
  · rcases z with z | z | z
    · exact g1.kn p (Or.inl z)
    · exact g1.kn p (Or.inr z)
    · exact ⟨_, by rw [z]; exact ha⟩
  · rcases z with z | z
    · exact g.dis p z
    · rw [z]; exact nM
  · rw [List.length_set, List.length_set]; exact r.len
  · by_cases q : i = j
    · subst q
      have hl : i < ρ.length := by
        have := (List.getElem?_eq_some_iff.mp hj).1
        rwa [List.length_set] at this
      rw [List.getElem?_set_self hl] at hj
      cases hj
    · rw [List.getElem?_set_ne q] at hj ⊢
      obtain ⟨v, h1, h2⟩ := r.dat j d hj
      exact ⟨v, h1, h2.move (fun _ z => z) kk⟩
  · by_cases q : i = j
    · subst q
      have hl : i < ρ.length := by
        have := (List.getElem?_eq_some_iff.mp hj).1
        rwa [List.length_set] at this
      rw [List.getElem?_set_self hl] at hj
      cases hj
      refine ⟨a, vs, List.getElem?_set_self (Nat.lt_of_lt_of_le hl r.len), ha, rv.move (fun _ z => z) fun x o n h => ⟨h, fun z => ?_⟩, Or.inr rfl⟩
      rcases z with z | z | z
      · exact n (Or.inl (Or.inl z))
      · exact n (Or.inl (Or.inr z))
      · exact n (Or.inr z)
    · rw [List.getElem?_set_ne q] at hj ⊢
      obtain ⟨p, ws, h1, h2, h3, h4⟩ := r.own j l hj
      exact ⟨p, ws, h1, e p _ (g.nb h4) h2, h3.move (fun _ z => z) kk, Or.inl h4⟩
  · have f : ∀ (x : Nat) m p, (ρ.set i (some (.own ds)))[x]? = some (some (.own m)) → (σ.set i (some (.ref a)))[x]? = some (some (.ref p)) → (i = x ∧ p = a) ∨ (i ≠ x ∧ ρ[x]? = some (some (.own m)) ∧ σ[x]? = some (some (.ref p)) ∧ p ≠ a) := fun x m p hx sx => by
      by_cases q : i = x
      · subst q
        have hl : i < ρ.length := by
          have := (List.getElem?_eq_some_iff.mp hx).1
          rwa [List.length_set] at this
        rw [List.getElem?_set_self (Nat.lt_of_lt_of_le hl r.len)] at sx
        cases sx
        exact Or.inl ⟨rfl, rfl⟩
      · rw [List.getElem?_set_ne q] at hx sx
        obtain ⟨p', ws, h1, h2, _, _⟩ := r.own x m hx
        rw [sx] at h1
        cases h1
        exact Or.inr ⟨q, hx, sx, ne _ _ h2⟩
    rcases f j l p hj sj with ⟨e1, e2⟩ | ⟨n1, a1, a2, a3⟩
    · rcases f k l' p hk sk with ⟨e3, e4⟩ | ⟨n3, b1, b2, b3⟩
      · exact njk (e1.symm.trans e3)
      · exact b3 e2
    · rcases f k l' p hk sk with ⟨e3, e4⟩ | ⟨n3, b1, b2, b3⟩
      · exact a3 e4
      · exact r.ne j k l l' p njk a1 b1 a2 b2
  · rcases z with z | z
    · exact n z
    · exact ne p o hp z
/-- the own list of a slot is changed -/
theorem own_upd (g : Gd bx M W H) (r : RS K bx M W H σ ρ) {i : Nat} {l : List D} {a : Addr} {vs ws : List V} {ds : List D} (hi : ρ[i]? = some (some (.own l))) (si : σ[i]? = some (some (.ref a))) (wa : W a) (rv : RPs K bx (UM M W) H ws ds) :
    Gd bx M W (upd H a (.lst ws)) ∧ RS K bx M W (upd H a (.lst ws)) σ (ρ.set i (some (.own ds))) ∧ Stp bx W H W (upd H a (.lst ws)) := by
  have hl : i < ρ.length := (List.getElem?_eq_some_iff.mp hi).1
  have kk : ∀ x o, ¬ UM M W x → H x = some o → upd H a (.lst ws) x = some o ∧ ¬ UM M W x := fun x o n h => ⟨by
    rw [upd_ne (fun z => n (Or.inr (by rw [z]; exact wa)))]; exact h, n⟩
  have nba := g.nb wa
  refine ⟨⟨fun b c e => ?_, g.bxM, fun p z => ?_, g.dis⟩, ⟨by rw [List.length_set]; exact r.len, fun j d hj => ?_, fun j m hj => ?_, fun j k m m' p njk hj hk sj sk => ?_⟩, fun p o hp n m => ⟨?_, n⟩⟩
  · obtain ⟨n, ds', c', h1, h2, h3⟩ := g.box b c e
    have ba : b ≠ a := fun z => nba ⟨c, by rw [← z]; exact e⟩
    have ca : c ≠ a := fun z => (g.bxM b c e).2 (by rw [z]; exact wa)
    exact ⟨n, ds', c', by rw [upd_ne ba]; exact h1, by rw [upd_ne ca]; exact h2, h3⟩
  · by_cases q : p = a
    · exact ⟨_, by rw [q]; exact upd_same⟩
    · obtain ⟨o, ho⟩ := g.kn p z
      exact ⟨o, by rw [upd_ne q]; exact ho⟩
  · by_cases q : i = j
    · subst q
      rw [List.getElem?_set_self hl] at hj
      cases hj
    · rw [List.getElem?_set_ne q] at hj
      obtain ⟨v, h1, h2⟩ := r.dat j d hj
      exact ⟨v, h1, h2.move (fun _ z => z) kk⟩
  · by_cases q : i = j
    · subst q
      rw [List.getElem?_set_self hl] at hj
      cases hj
      exact ⟨a, ws, si, upd_same, rv.move (fun _ z => z) kk, wa⟩
    · rw [List.getElem?_set_ne q] at hj
      obtain ⟨p, us, h1, h2, h3, h4⟩ := r.own j m hj
      have pa : p ≠ a := fun z => r.ne i j l m a q hi hj si (by rw [← z]; exact h1)
      exact ⟨p, us, h1, by rw [upd_ne pa]; exact h2, h3.move (fun _ z => z) kk, h4⟩
  · have f : ∀ (x : Nat) m, (ρ.set i (some (.own ds)))[x]? = some (some (.own m)) → ∃ m', ρ[x]? = some (some (.own m')) := fun x m hx => by
      by_cases q : i = x
      · subst q; exact ⟨l, hi⟩
      · rw [List.getElem?_set_ne q] at hx; exact ⟨m, hx⟩
    obtain ⟨m1, h1⟩ := f j m hj
    obtain ⟨m2, h2⟩ := f k m' hk
    exact r.ne j k m1 m2 p njk h1 h2 sj sk
  · rw [upd_ne (fun z => n (by rw [z]; exact wa))]; exact hp
end
/-! ### x = a new list of the def's own -/
def wOwn (i : Nat) (e : NW) : SW := fun ρ P => e (vH ρ) fun l => P.nx (ρ.set i (some (.own l)))
theorem snd_own {K : PySem.W.Frag} {te : TE} {we : NW} {i : Nat} (h : SndN K te we) : SndS K (tAsg te (gName i)) (wOwn i we) := fun bx M W σ H ρ P Dn g r p q =>
  h bx (UM M W) σ H (vH ρ) _ _ g.good r.eH (fun ds vs a H1 e b na ha rv hq => by
    obtain ⟨g1, r1, s1⟩ := own_new g r e b na ha rv i
    exact p.nx _ _ H1 _ s1 g1 r1 hq) q
/-- x.append(e) -/
def wApp (i : Nat) (e : EW) : SW := fun ρ P => match ρ[i]? with
  | some (some (.own l)) => e (vH ρ) fun d => l.length < sizeLine ∧ P.nx (ρ.set i (some (.own (l ++ [d]))))
  | _ => False
theorem snd_app {K : PySem.W.Frag} {te : TE} {we : EW} {i : Nat} (h : SndE K te we) : SndS K (tDrop (tBM K "list" rAppend (tVar i) (tCons te tNil))) (wApp i we) := fun bx M W σ H ρ P Dn g r p q => by
  unfold wApp at q
  split at q
  · rename_i l e
    obtain ⟨a, vs, h1, h2, h3, h4⟩ := r.own i l e
    refine ⟨_, h1, Or.inl ⟨rfl, _, SqL.of h2⟩, h bx (UM M W) σ H (vH ρ) _ _ g.good r.eH (fun d v H1 e1 b1 rv hq => ?_) q⟩
    have g1 := g.on e1 b1
    have r1 := r.on g e1
    have h2' : H1 a = some (.lst vs) := e1 a _ (g.nb h4) h2
    have h3' := h3.on g.good e1
    obtain ⟨g2, r2, s2⟩ := own_upd g1 r1 (ws := vs ++ [v]) (ds := l ++ [d]) e h1 h4 (h3'.append (.cons rv .nil)) (vs := vs)
    exact ⟨a, vs, v, rfl, rfl, h2', by rw [h3.length]; exact hq.1, p.nx W _ _ _ ((Stp.of e1).trans s2) g2 r2 hq.2⟩
  · exact q.elim
/-- x[k] = e -/
def wSetI (i : Nat) (ek e : EW) : SW := fun ρ P => match ρ[i]? with
  | some (some (.own l)) => e (vH ρ) fun d => ek (vF ρ) fun k => match k with
    | .int z => ∃ j, ixN l.length z = some j ∧ P.nx (ρ.set i (some (.own (l.set j d))))
    | _ => False
  | _ => False
theorem snd_setI {K : PySem.W.Frag} {te tk : TE} {we wk : EW} {i : Nat} (h : SndE K te we) (hk : SndE K tk wk) : SndS K (tAsg te (gSub (tVar i) tk rSetL)) (wSetI i wk we) := fun bx M W σ H ρ P Dn g r p q => by
  unfold wSetI at q
  split at q
  · rename_i l e
    obtain ⟨a, vs, h1, h2, h3, h4⟩ := r.own i l e
    refine h bx (UM M W) σ H (vH ρ) _ _ g.good r.eH (fun d v H1 e1 b1 rv hq => ?_) q
    have g1 := g.on e1 b1
    have r1 := r.on g e1
    refine ⟨_, h1, hk bx M σ H1 (vF ρ) _ _ g1.goodM (r1.eF g1) (fun k vk H2 e2 b2 rk hq2 => ?_) hq⟩
    cases rk with
    | int z =>
      obtain ⟨j, hj, hn⟩ := hq2
      have g2 := g1.on e2 b2
      have r2 := r1.on g1 e2
      have h2' : H2 a = some (.lst vs) := e2 a _ (g.nb h4) (e1 a _ (g.nb h4) h2)
      have h3' := (h3.on g.good e1).on g1.good e2
      obtain ⟨g3, r3, s3⟩ := own_upd g2 r2 (ws := vs.set j v) (ds := l.set j d) e h1 h4 (h3'.setAt j (rv.on g1.good e2)) (vs := vs)
      exact ⟨a, vs, z, j, rfl, rfl, h2', by rw [h3.length]; exact hj, p.nx W _ _ _ (((Stp.of e1).trans (Stp.of e2)).trans s3) g3 r3 hn⟩
    | _ => exact False.elim hq2
  · exact q.elim
section
variable {X : Cx} {e k : Expr} {te tk : TE} {we wk : EW} {wn : NW} {pos pos' p1 p2 : Pos}
theorem sown (i : Nat) {x : Str} (hN : X.N.Nodup) (he : PNW X e te wn) (hi : X.N[i]? = some x := by rfl) (hx : Loc X.env.scope x := by first | exact Or.inl rfl | exact Or.inr rfl) (hs : swapsWith e (some (.Name x pos')) pos.line X.env = pure false := by rfl)
    (hf : X.fn x = true ∨ X.env.scope.names.lookup x = some .local := by first | exact .inl rfl | exact .inr rfl) : PSW X (.Assign [.Name x pos'] e pos) (tAsg te (gName i)) (wOwn i wn) := ⟨ps_set hN hi hx he.pe hs hf, snd_own he.sn⟩
theorem sapp (i : Nat) {x : Str} {apos : Pos} (he : PEW X e te we) (hN : X.N[i]? = some x := by rfl) (hv : Vis X.env.scope x := by first | exact Or.inl rfl | exact Or.inr (Or.inl rfl) | exact Or.inr (Or.inr rfl)) (hd : (x == ("__debug__" : Str)) = false := by decide)
    (hcd : (x == ("__classdict__" : Str)) = false := by decide)
    (hbase : attributeBase (.Name x p1) "append" X.env (eval (.Name x p1) X.env) = eval (.Name x p1) X.env := by rfl)
    (hfew : ((backTo p2 (starEach [e] X.env)).all (fun x => !x.1) && (backToKw p2 (keywordEach [] X.env)).all (fun x => x.1.isSome)
      && decide ([e].length + ([] : List Keyword).length + (if ([] : List Keyword).isEmpty then 0 else 1) < 30)) = true := by rfl)
    (hline : (apos.endLine == p2.line) = true := by rfl) (hst : starEach [e] X.env = (false, eval e X.env) :: starEach [] X.env := by rfl) (hplain : (backTo p2 (starEach [] X.env)).any (·.1) = false := by rfl)
    (hs : swapsWith (.Call (.Attribute (.Name x p1) "append" apos) [e] [] p2) none pos.line X.env = pure false := by rfl) :
    PSW X (.Expr (.Call (.Attribute (.Name x p1) "append" apos) [e] [] p2) pos) (tDrop (tBM X.K "list" rAppend (tVar i) (tCons te tNil))) (wApp i we) :=
  ⟨ps_expr (pe_bm PySem.F.plainAttrs_list PySem.F.slot_list_append PySem.F.type_list_append mt_append (pv i hN hv hd hcd) (pa_cons he.pe pa_nil hst) hbase hfew hline hst hplain) hs, snd_app he.sn⟩
theorem sseti (i : Nat) {x : Str} (hk : PEW X k tk wk) (he : PEW X e te we) (hN : X.N[i]? = some x := by rfl) (hv : Vis X.env.scope x := by first | exact Or.inl rfl | exact Or.inr (Or.inl rfl) | exact Or.inr (Or.inr rfl)) (hd : (x == ("__debug__" : Str)) = false := by decide)
    (hcd : (x == ("__classdict__" : Str)) = false := by decide) (hs : swapsWithSole [.Subscript (.Name x p1) k p2] e pos.line X.env = pure false := by rfl) (hw : swappedStores [.Subscript (.Name x p1) k p2] e X.env = pure none := by rfl)
    (h1 : (assignEach [.Subscript (.Name x p1) k p2] X.env).map (·.2) = [assign (.Subscript (.Name x p1) k p2) X.env] := by rfl)
    (hg : PG X (.Subscript (.Name x p1) k p2) (gSub (tVar i) tk rSetL)) : PSW X (.Assign [.Subscript (.Name x p1) k p2] e pos) (tAsg te (gSub (tVar i) tk rSetL)) (wSetI i wk we) := ⟨ps_asg he.pe hg hs hw h1, snd_setI he.sn hk.sn⟩
/-- y = [.. for ..] on one line -/
theorem ssetC (i : Nat) {y : Str} {py : Pos} {elt tg it : Expr} {ifs : List Expr} {scope : Scope} {own : List (Str × Nat)} {ti : TI} {wi : IW} {g : TG} {is : List Nat} {u : D → Option (List D)} {tt : TT} {wt : TW} (hc : X.calm = true) (hN : X.N.Nodup)
    (hi : PIW X tg it ti wi) (ok : BlkOk X.N X.env.scope scope own)
    (hg : ∀ (s : Shared) (H : Hp) (C : Addr) (cl : List (Str × Addr)) (fp : List Addr), PGW (X.blk s H scope (compEnvC scope cl C X.env) fp) tg g is u) (ht : ∀ (s : Shared) (H : Hp) (C : Addr) (cl : List (Str × Addr)) (fp : List Addr), PTsW (X.blk s H scope (compEnvC scope cl C X.env) fp) ifs tt wt)
    (he : ∀ (s : Shared) (H : Hp) (C : Addr) (cl : List (Str × Addr)) (fp : List Addr), PEW (X.blk s H scope (compEnvC scope cl C X.env) fp) elt te we) (hy : X.N[i]? = some y := by rfl) (hyl : X.env.scope.names.lookup y = some .local := by rfl)
    (hsw : swapsWith (.ListComp elt [⟨tg, it, ifs, 0⟩] scope pos) (some (.Name y py)) pos'.line X.env = pure true := by exact sw_true rfl rfl rfl (by decide +kernel)) (hsub : ∀ i ∈ is, i ∈ own.map (·.2) := by decide) (hs : ∀ x, foldedSetIterable it X.env x = pure x := by intro _; rfl) :
    PSW X (.Assign [.Name y py] (.ListComp elt [⟨tg, it, ifs, 0⟩] scope pos) pos') (tAsg (tLc ti g tt te (own.map (·.2))) (gName i)) (wAsg i (wLc wi is u wt we (own.map (·.2)))) :=
  ⟨ps_setLc hc hN hy hyl hsw hi.pi ok (fun s H C cl fp => (hg s H C cl fp).pg) (fun s H C cl fp => (ht s H C cl fp).pt) (fun s H C cl fp => (he s H C cl fp).pe) hs, by
    have z : Shared := {}
    exact snd_asg (snd_lc hi.sn (hg z (fun _ => none) 0 [] []).sn (ht z (fun _ => none) 0 [] []).sn (he z (fun _ => none) 0 [] []).sn hsub)⟩
theorem sownC (i : Nat) {y : Str} {py : Pos} {elt tg it : Expr} {ifs : List Expr} {scope : Scope} {own : List (Str × Nat)} {ti : TI} {wi : IW} {g : TG} {is : List Nat} {u : D → Option (List D)} {tt : TT} {wt : TW} (hc : X.calm = true) (hN : X.N.Nodup)
    (hi : PIW X tg it ti wi) (ok : BlkOk X.N X.env.scope scope own)
    (hg : ∀ (s : Shared) (H : Hp) (C : Addr) (cl : List (Str × Addr)) (fp : List Addr), PGW (X.blk s H scope (compEnvC scope cl C X.env) fp) tg g is u) (ht : ∀ (s : Shared) (H : Hp) (C : Addr) (cl : List (Str × Addr)) (fp : List Addr), PTsW (X.blk s H scope (compEnvC scope cl C X.env) fp) ifs tt wt)
    (he : ∀ (s : Shared) (H : Hp) (C : Addr) (cl : List (Str × Addr)) (fp : List Addr), PEW (X.blk s H scope (compEnvC scope cl C X.env) fp) elt te we) (hy : X.N[i]? = some y := by rfl) (hyl : X.env.scope.names.lookup y = some .local := by rfl)
    (hsw : swapsWith (.ListComp elt [⟨tg, it, ifs, 0⟩] scope pos) (some (.Name y py)) pos'.line X.env = pure true := by exact sw_true rfl rfl rfl (by decide +kernel)) (hsub : ∀ i ∈ is, i ∈ own.map (·.2) := by decide) (hs : ∀ x, foldedSetIterable it X.env x = pure x := by intro _; rfl) :
    PSW X (.Assign [.Name y py] (.ListComp elt [⟨tg, it, ifs, 0⟩] scope pos) pos') (tAsg (tLc ti g tt te (own.map (·.2))) (gName i)) (wOwn i (wLcN wi is u wt we (own.map (·.2)))) :=
  ⟨ps_setLc hc hN hy hyl hsw hi.pi ok (fun s H C cl fp => (hg s H C cl fp).pg) (fun s H C cl fp => (ht s H C cl fp).pt) (fun s H C cl fp => (he s H C cl fp).pe) hs, by
    have z : Shared := {}
    exact snd_own (snd_lcN hi.sn (hg z (fun _ => none) 0 [] []).sn (ht z (fun _ => none) 0 [] []).sn (he z (fun _ => none) 0 [] []).sn hsub)⟩
end
/-! ### a def by its body -/
def startS (n : Nat) (ds : List D) : SE := ds.map (fun d => some (.dat d)) ++ List.replicate (n - ds.length) none
def fnW (n : Nat) (w : SW) : OL := fun ds Q => w (startS n ds) { nx := fun _ => Q .none, rt := Q }
theorem start_get {K : PySem.W.Frag} {bx : Bx} {T T' : Addr → Prop} {H : Hp} (kk : ∀ x o, ¬ T x → H x = some o → H x = some o ∧ ¬ T' x) {vs : List V} {ds : List D} (r : RPs K bx T H vs ds) (N : List Str) :
    (∀ (i : Nat) d, (startS N.length ds)[i]? = some (some (.dat d)) → ∃ v, (L2.start N vs)[i]? = some (some v) ∧ RP K bx T' H v d) ∧ ∀ (i : Nat) l, (startS N.length ds)[i]? ≠ some (some (.own l)) := by
  have hl := r.length
  refine ⟨fun i d h => ?_, fun i l h => ?_⟩
  · unfold startS at h
    by_cases q : i < ds.length
    · rw [List.getElem?_append_left (by rw [List.length_map]; exact q), List.getElem?_map] at h
      cases e : ds[i]? with
      | none => rw [e] at h; cases h
      | some d' =>
        rw [e] at h
        cases h
        obtain ⟨v, hv, rv⟩ := r.get e
        refine ⟨v, ?_, rv.move (fun _ z => z) kk⟩
        unfold L2.start
        rw [List.getElem?_append_left (by rw [List.length_map, hl]; exact q), List.getElem?_map, hv]
        rfl
    · rw [List.getElem?_append_right (by rw [List.length_map]; omega)] at h
      rw [List.getElem?_replicate] at h
      split at h <;> cases h
  · unfold startS at h
    by_cases q : i < ds.length
    · rw [List.getElem?_append_left (by rw [List.length_map]; exact q), List.getElem?_map] at h
      cases e : ds[i]? with
      | none => rw [e] at h; cases h
      | some d' => rw [e] at h; cases h
    · rw [List.getElem?_append_right (by rw [List.length_map]; omega)] at h
      rw [List.getElem?_replicate] at h
      split at h <;> cases h
theorem fn_sound {K : PySem.W.Frag} {scope : Scope} {N ps : List Str} {w : SW} {t : TS} (S : FnScope N ps scope) (ht : SndS K t w) {vs : List V} {H : Hp} {Q : VK} {E : XK} (hsp : spW K ps.length (fnW N.length w) vs H Q E) :
    t { nx := fun _ H' => Q .non H', rt := Q } (L2.start N vs) H := by
  obtain ⟨bx, T, ds, Qd, hl, g, r, p, hw⟩ := hsp
  have kk : ∀ x o, ¬ T x → H x = some o → H x = some o ∧ ¬ UM T (fun _ => False) x := fun x o n h => ⟨h, fun z => by
    rcases z with z | z
    · exact n z
    · exact z⟩
  obtain ⟨s1, s2⟩ := start_get kk r N
  have hpl : ps.length ≤ N.length := by
    have := congrArg List.length S.pre
    rw [List.length_take] at this
    omega
  refine ht bx T (fun _ => False) _ H _ _ _ ⟨g.box, fun b a e => ⟨g.bxT b a e, fun z => z⟩, fun p z => ?_, fun p z => z.elim⟩ ⟨?_, s1, fun i l h => (s2 i l h).elim, fun i j l l' p nij hi => (s2 i l hi).elim⟩ ⟨?_, ?_, ?_, ?_⟩ hw
  · rcases z with z | z
    · exact g.kn p z
    · exact z.elim
  · unfold startS L2.start
    rw [List.length_append, List.length_append, List.length_map, List.length_map, List.length_replicate, List.length_replicate, r.length]
    omega
  · intro W' σ' H' ρ' st g' r' q
    exact p .none .non H' (fun a o n h => (st a o h (fun z => z) n).1) g'.box .non q
  · intro W' σ' H' ρ' st g' r' q
    exact q.elim
  · intro W' σ' H' ρ' st g' r' q
    exact q.elim
  · intro W' v d H' st b' rv q
    exact p d v H' (fun a o n h => (st a o h (fun z => z) n).1) b' rv q
theorem okW {P : Program} {wd : World} {K : PySem.W.Frag} {mg : Str → Option Value} {base : Heap} {x qual : Str} {params : Arguments} {body : List Stmt} {scope : Scope} {f : Addr} {fd : FuncData} {N ps : List Str} {k n m : Nat} {w : SW}
    (F : FunD K x qual params body scope [] [] f fd) (S : FnScope N ps scope) (hn : ps.length = n) (hm : N.length = m)
    (h : ∀ (cdv : Value) (A : Around) (outer : List Env) (s : Shared) (H : Hp) (E : XK), Room k (A.deeper (envOfC qual scope s.heap.objs.size f cdv)) → ∃ t, PSsW (cxOf CX0 P wd K mg base N qual scope f cdv A outer s H E).nox body t w) :
    FnOk P wd K mg base CX0 (k + 1) f fd ps (spW K n (fnW m w)) := by
  subst hn hm
  refine F.ok S (fun vs H Q E h => spW_len h) (fun cdv A outer s H vs Q E hr hsp => ?_)
  obtain ⟨t, ht⟩ := h cdv A outer s H E hr
  exact ⟨t, PSs.nox ht.ps, fn_sound S ht.sn hsp⟩
end Wy

set_option Elab.async false
set_option linter.all false
set_option maxRecDepth 100000
set_option maxHeartbeats 2000000
/-! W8: the words that all laws share: a cell of the script, a draw; the law's own beginning. -/
namespace Wy
open PySem PyProof.Rows L2
section
variable {K : PySem.W.Frag}
abbrev tLen1 (K : PySem.W.Frag) (t : TE) : TE := tCB (fun xs H Q => ∃ x n, xs = [x] ∧ LenV K x H n ∧ Q (.int n) H) (tCons t tNil)
abbrev tInt1 (t : TE) : TE := tCB (fun xs H Q => (∃ i, xs = [.int i] ∧ Q (.int i) H) ∨ ∃ k, xs = [.bl k] ∧ Q (.int (if k then 1 else 0)) H) (tCons t tNil)
/-- if k < len(script): return script[k]; return 0 -/
def tCell (K : PySem.W.Frag) : TS := tSeq (tIfS (tTest (tOp (rI0 fun i j => .bl (decide (i < j))) (tVar 1) (tLen1 K (tVar 0)))) (tRet (tOp (rIxL K) (tVar 0) (tVar 1))) tNext) (tRet (tC (.int 0)))
def cellW : OL := fun ds Q => match ds with
  | [s, .int k] => s = scD ∧ 0 ≤ k ∧ ∀ z : Int, Q (.int z)
  | _ => False
theorem scr_of {bx : Bx} {T : Addr → Prop} {H : Hp} {v : V} (r : RP K bx T H v scD) : ∃ a ns, v = .ref a ∧ ScrAt K T H a ns := by
  generalize e : scD = d at r
  cases r with
  | scr h => exact ⟨_, _, rfl, h⟩
  | box h => cases e
  | dic h n q =>
    cases e
    generalize e2 : ([(PyData.bool true, PyData.none)] : List (D × D)) = l at q
    cases q with
    | nil => cases e2
    | cons h1 h2 =>
      rename_i k v0 vs d0 ds0
      cases k <;> cases e2
  | _ => cases e
theorem box_of {bx : Bx} {T : Addr → Prop} {H : Hp} {v : V} (r : RP K bx T H v bxD) : ∃ b a, v = .ref b ∧ bx = some (b, a) := by
  generalize e : bxD = d at r
  cases r with
  | scr h => cases e
  | box h => exact ⟨_, _, rfl, h⟩
  | dic h n q =>
    cases e
    generalize e2 : ([(PyData.none, PyData.none)] : List (D × D)) = l at q
    cases q with
    | nil => cases e2
    | cons h1 h2 =>
      rename_i k v0 vs d0 ds0
      cases k <;> cases e2
  | _ => cases e
theorem cell_ok {vs : List V} {H : Hp} {Q : VK} {E : XK} (h : spW K 2 cellW vs H Q E) {N : List Str} : tCell K { nx := fun _ H' => Q .non H', rt := Q } (L2.start N vs) H := by
  obtain ⟨bx, T, ds, Qd, hl, g, r, p, hw⟩ := h
  cases r with
  | nil => cases hl
  | cons r1 r =>
    cases r with
    | nil => cases hl
    | cons r2 r =>
      cases r with
      | cons _ _ => cases hl
      | nil =>
        cases r2 with
        | int k =>
          obtain ⟨e, hk, hz⟩ := hw
          subst e
          obtain ⟨a, ns, rfl, hs⟩ := scr_of r1
          refine ⟨_, rfl, _, rfl, _, ns.length, rfl, Or.inl ⟨_, hs.sq, by rw [List.length_map]⟩, k, (ns.length : Int), rfl, rfl, _, rfl, ?_⟩
          by_cases q : k < (ns.length : Int)
          · have q2 : decide (k < (ns.length : Int)) = true := decide_eq_true q
            show if decide (k < (ns.length : Int)) = true then _ else _
            rw [if_pos q2]
            have hlt : k.toNat < ns.length := by omega
            obtain ⟨y, hy⟩ : ∃ y, ns[k.toNat]? = some y := ⟨_, List.getElem?_eq_getElem hlt⟩
            refine ⟨_, rfl, _, rfl, a, _, k, .int y, rfl, rfl, hs.sq, ?_, p.here g (.int _) (hz _)⟩
            have e : k = ((k.toNat : Nat) : Int) := by omega
            rw [e]
            refine atI_nat ?_
            rw [List.getElem?_map, hy]
            rfl
          · have q2 : decide (k < (ns.length : Int)) = false := decide_eq_false q
            show if decide (k < (ns.length : Int)) = true then _ else _
            rw [q2]
            exact p.here g (.int _) (hz 0)
        | _ => exact hw.elim
/-- box[1] = box[1] + 1; .. -/
def tDraw (K : PySem.W.Frag) : TS := tSeq (tAsg (tOp (rI0 fun i j => .int (i + j)) (tOp (rIxL K) (tVar 0) (tC (.int 1))) (tC (.int 1))) (gSub (tVar 0) (tC (.int 1)) rSetL))
  (tSeq (tIfS (tTest (tOp (rI0 fun i j => .bl (decide (j < i))) (tOp (rIxL K) (tVar 0) (tC (.int 1))) (tLen1 K (tOp (rIxL K) (tVar 0) (tC (.int 0))))))
    (tRet (tOp (rI (fun _ j => 0 < j) fun i j => .int (i % j)) (tInt1 (tOp (rI0 fun i j => .int (i + j)) (tOp (rI CMul fun i j => .int (i * j)) (tOp (rIxL K) (tVar 0) (tC (.int 1))) (tC (.int 7))) (tC (.int 3)))) (tVar 1))) tNext)
  (tRet (tOp (rI (fun _ j => 0 < j) fun i j => .int (i % j)) (tInt1 (tOp (rIxL K) (tOp (rIxL K) (tVar 0) (tC (.int 0))) (tOp (rI0 fun i j => .int (i - j)) (tOp (rIxL K) (tVar 0) (tC (.int 1))) (tC (.int 1))))) (tVar 1))))
def drawW : OL := fun ds Q => match ds with
  | [b, .int m] => b = bxD ∧ 0 < m ∧ ∀ r : Int, 0 ≤ r → r < m → Q (.int r)
  | _ => False
theorem draw_ok {vs : List V} {H : Hp} {Q : VK} {E : XK} (h : spW K 2 drawW vs H Q E) {N : List Str} : tDraw K { nx := fun _ H' => Q .non H', rt := Q } (L2.start N vs) H := by
  obtain ⟨bx, T, ds, Qd, hl, g, r, p, hw⟩ := h
  cases r with
  | nil => cases hl
  | cons r1 r =>
    cases r with
    | nil => cases hl
    | cons r2 r =>
      cases r with
      | cons _ _ => cases hl
      | nil =>
        cases r2 with
        | int m =>
          obtain ⟨e, hm, hz⟩ := hw
          subst e
          obtain ⟨b, a, rfl, eb⟩ := box_of r1
          obtain ⟨nab, ds, c, hb, ha, hc⟩ := g.box b a eb
          have hb1 : upd H b (.lst [.ref a, .int (c + 1)]) b = some (.lst [.ref a, .int (c + 1)]) := upd_same
          have ha1 : upd H b (.lst [.ref a, .int (c + 1)]) a = some (.lst (ds.map V.int)) := by rw [upd_ne nab]; exact ha
          have ee : Ext bx H (upd H b (.lst [.ref a, .int (c + 1)])) := fun q o n hq => by
            rw [upd_ne (fun z => n ⟨a, by rw [z]; exact eb⟩)]; exact hq
          have bb : BoxOk bx (upd H b (.lst [.ref a, .int (c + 1)])) := fun b' a' e' => by
            rw [eb] at e'
            cases e'
            exact ⟨nab, ds, c + 1, hb1, ha1, by omega⟩
          have fin : ∀ z : Int, Q (.int (z % m)) (upd H b (.lst [.ref a, .int (c + 1)])) := fun z =>
            p _ _ _ ee bb (.int _) (hz _ (Int.emod_nonneg _ (by omega)) (Int.emod_lt_of_pos _ hm))
          refine ⟨_, rfl, _, _, _, _, rfl, rfl, SqL.of hb, rfl, _, _, rfl, rfl, _, rfl, b, _, _, 1, rfl, rfl, hb, rfl, ?_⟩
          show tSeq _ _ _ _ (upd H b (.lst [.ref a, .int (c + 1)]))
          refine ⟨_, rfl, _, _, _, _, rfl, rfl, SqL.of hb1, rfl, _, rfl, _, _, _, _, rfl, rfl, SqL.of hb1, rfl, _, ds.length, rfl, Or.inl ⟨_, SqL.of ha1, by rw [List.length_map]⟩, _, _, rfl, rfl, _, rfl, ?_⟩
          by_cases q : (ds.length : Int) < c + 1
          · have q2 : decide ((ds.length : Int) < c + 1) = true := decide_eq_true q
            show if decide ((ds.length : Int) < c + 1) = true then _ else _
            rw [if_pos q2]
            refine ⟨_, rfl, _, _, _, _, rfl, rfl, SqL.of hb1, rfl, _, _, rfl, rfl, .inr ⟨by decide, by decide⟩, _, _, rfl, rfl, Or.inl ⟨_, rfl, _, rfl, _, _, rfl, rfl, hm, fin _⟩⟩
          · have q2 : decide ((ds.length : Int) < c + 1) = false := decide_eq_false q
            show if decide ((ds.length : Int) < c + 1) = true then _ else _
            rw [q2]
            have hlt : c.toNat < ds.length := by omega
            refine ⟨_, rfl, _, _, _, _, rfl, rfl, SqL.of hb1, rfl, _, rfl, _, _, _, _, rfl, rfl, SqL.of hb1, rfl, _, _, rfl, rfl, _, _, _, .int ds[c.toNat], rfl, rfl, SqL.of ha1, ?_, Or.inl ⟨_, rfl, _, rfl, _, _, rfl, rfl, hm, fin _⟩⟩
            have e : c + 1 - 1 = ((c.toNat : Nat) : Int) := by omega
            rw [e]
            refine atI_nat ?_
            rw [List.getElem?_map, List.getElem?_eq_getElem hlt]
            rfl
        | _ => exact hw.elim
end
/-! ### the law: box = [digits, 0], then the rest -/
def spLaw (K : PySem.W.Frag) : Sp := fun vs H Q _ => ∃ (a : Addr) (ns : List Int), vs = [.ref a] ∧ Only H ∧ SqL K H a (ns.map V.int) ∧ ∀ H', Q (.bl true) H'
def intsD (ds : List D) : Option (List Int) := match ds with
  | [] => some []
  | .int i :: r => (intsD r).map (i :: ·)
  | _ :: _ => none
theorem ints_of {K : PySem.W.Frag} {bx : Bx} {T : Addr → Prop} {H : Hp} : ∀ {xs : List V} {ds : List D} {bs : List Int}, RPs K bx T H xs ds → intsD ds = some bs → xs = bs.map V.int
  | _, _, _, .nil, e => by cases e; rfl
  | _, _, _, .cons (d := d) (ds := ds) h r, e => by
    cases h with
    | int b =>
      unfold intsD at e
      cases e2 : intsD ds with
      | none => rw [e2] at e; cases e
      | some bs =>
        rw [e2] at e
        cases e
        rw [ints_of r e2]; rfl
    | _ => cases e
/-- what of a law's body is to be shown: its first statement makes the box at slot i, the rest runs to True -/
def lawW (m i : Nat) (dig : EW) (w : SW) : Prop := (dig (some scD :: List.replicate (m - 1) none) fun d => ∃ ds bs, d = .list ds ∧ intsD ds = some bs) ∧
  w ((some (.dat scD) :: List.replicate (m - 1) none).set i (some (.dat bxD))) { nx := fun _ => False, rt := fun d => d = .bool true }
theorem law_ok {K : PySem.W.Frag} {N : List Str} {i : Nat} {td : TE} {dig : EW} {t : TS} {w : SW} (hi : 0 < i) (hN : 1 ≤ N.length) (hd : SndE K td dig) (hr : SndS K t w) (hw : lawW N.length i dig w) {vs : List V} {H : Hp} {Q : VK} {E : XK} (h : spLaw K vs H Q E) :
    tSeq (tAsg (tLst (tCons td (tCons (tC (.int 0)) tNil))) (gName i)) t { nx := fun _ H' => Q .non H', rt := Q } (L2.start N vs) H := by
  obtain ⟨s, ns, rfl, ho, hs, hq⟩ := h
  obtain ⟨hdig, hrest⟩ := hw
  have scr : ∀ (T : Addr → Prop) (H' : Hp), (∀ a o, H a = some o → H' a = some o ∧ ¬ T a) → ScrAt K T H' s ns := fun T H' k => by
    rcases hs with (h | ⟨o, h⟩) | h
    · rcases ho s with e | ⟨o, xs, e⟩
      · rw [e] at h; cases h
      · rw [e] at h; cases h
    · exact Or.inl ⟨(k _ _ h).2, o, (k _ _ h).1⟩
    · exact Or.inr h
  have hst : L2.start N [.ref s] = some (.ref s) :: List.replicate (N.length - 1) none := rfl
  rw [hst]
  have emp : ∀ (j : Nat) (d : D), ((some scD : Option D) :: List.replicate (N.length - 1) none)[j]? = some (some d) → j = 0 ∧ d = scD := fun j d h => by
    cases j with
    | zero => cases h; exact ⟨rfl, rfl⟩
    | succ j =>
      rw [List.getElem?_cons_succ, List.getElem?_replicate] at h
      split at h <;> cases h
  have g0 : Good none (fun _ => False) H := ⟨fun b a e => (nomatch e), fun b a e => (nomatch e), fun p z => z.elim⟩
  refine hd none (fun _ => False) _ H _ _ _ g0 ⟨by simp, fun j d h => ?_⟩ (fun d v H1 e1 b1 r1 h1 => ?_) hdig
  · obtain ⟨rfl, rfl⟩ := emp j d h
    exact ⟨_, rfl, .scr (scr _ _ fun a o h => ⟨h, fun z => z⟩)⟩
  · obtain ⟨ds, bs, rfl, hb⟩ := h1
    cases r1 with
    | lst ha na ra =>
      rename_i a vs
      have hv := ints_of ra hb
      subst hv
      refine ⟨by show 2 ≤ sizeLine; decide, fun p hp => ?_⟩
      have nap : a ≠ p := ne_of_none ha hp
      have ne1 : ∀ x o, H1 x = some o → upd H1 p (.lst [.ref a, .int 0]) x = some o := fun x o h => by rw [upd_ne (ne_of_none h hp)]; exact h
      have k1 : ∀ x o, H x = some o → H1 x = some o := fun x o h => e1 x o (fun ⟨y, z⟩ => (nomatch z)) h
      have nT : ∀ x o, H x = some o → ¬ UM (fun b => b = p) (fun _ => False) x := fun x o h z => by
        rcases z with z | z
        · rw [z] at h
          rw [k1 _ _ h] at hp; cases hp
        · exact z
      refine hr (some (p, a)) (fun b => b = p) (fun _ => False) _ _ ((some (.dat scD) :: List.replicate (N.length - 1) none).set i (some (.dat bxD))) { nx := fun _ => False, rt := fun d => d = .bool true } _ ?_ ?_ ?_ hrest
      · refine ⟨fun b c e => ?_, fun b c e => ?_, fun x z => ?_, fun x z => z.elim⟩
        · cases e
          exact ⟨nap, bs, 0, upd_same, ne1 _ _ ha, by omega⟩
        · cases e
          exact ⟨rfl, fun z => z⟩
        · rcases z with z | z
          · exact ⟨_, by rw [z]; exact upd_same⟩
          · exact z.elim
      · refine ⟨by simp, fun j d h => ?_, fun j l h => ?_, fun j k l l' q _ h => ?_⟩
        · by_cases z : i = j
          · subst z
            by_cases q : i < (some (Sl.dat scD) :: List.replicate (N.length - 1) none).length
            · rw [List.getElem?_set_self q] at h
              cases h
              exact ⟨_, List.getElem?_set_self (by simpa using q), .box rfl⟩
            · rw [List.getElem?_eq_none (by rw [List.length_set]; omega)] at h
              cases h
          · rw [List.getElem?_set_ne z] at h ⊢
            cases j with
            | zero =>
              cases h
              exact ⟨_, rfl, .scr (scr _ _ fun x o hx => ⟨ne1 x o (k1 x o hx), nT x o hx⟩)⟩
            | succ j =>
              rw [List.getElem?_cons_succ, List.getElem?_replicate] at h
              split at h <;> cases h
        · by_cases z : i = j
          · subst z
            by_cases q : i < (some (Sl.dat scD) :: List.replicate (N.length - 1) none).length
            · rw [List.getElem?_set_self q] at h
              cases h
            · rw [List.getElem?_eq_none (by rw [List.length_set]; omega)] at h
              cases h
          · rw [List.getElem?_set_ne z] at h
            cases j with
            | zero => cases h
            | succ j =>
              rw [List.getElem?_cons_succ, List.getElem?_replicate] at h
              split at h <;> cases h
        · by_cases z : i = j
          · subst z
            by_cases q : i < (some (Sl.dat scD) :: List.replicate (N.length - 1) none).length
            · rw [List.getElem?_set_self q] at h
              cases h
            · rw [List.getElem?_eq_none (by rw [List.length_set]; omega)] at h
              cases h
          · rw [List.getElem?_set_ne z] at h
            cases j with
            | zero => cases h
            | succ j =>
              rw [List.getElem?_cons_succ, List.getElem?_replicate] at h
              split at h <;> cases h
      · refine ⟨fun W' σ' H' ρ' st g' r' q => q.elim, fun W' σ' H' ρ' st g' r' q => q.elim, fun W' σ' H' ρ' st g' r' q => q.elim, fun W' v d H' st b' rv q => ?_⟩
        subst q
        cases rv
        exact hq H'
/-- a def that is never called -/
theorem ok_false {P : Program} {wd : World} {K : PySem.W.Frag} {mg : Str → Option Value} {base : Heap} {f : Addr} {fd : FuncData} {ps : List Str} {k n : Nat} : FnOk P wd K mg base CX0 k f fd ps (spW K n fun _ _ => False) :=
  ⟨fun vs H Q E h => by obtain ⟨_, _, _, _, _, _, _, _, z⟩ := h; exact z.elim, fun A outer s H args us vs Q E _ _ _ _ h => by obtain ⟨_, _, _, _, _, _, _, _, z⟩ := h; exact z.elim⟩
end Wy

set_option Elab.async false
set_option linter.all false
set_option maxRecDepth 100000
set_option maxHeartbeats 2000000
/-! W9: more ways to a new list, insert, stored items that are scalars, small words for printed proofs. -/
namespace Wy
open PySem PyProof.Rows L2
theorem hu64 {A : Around} {k : Nat} (hr : Room k A) : A.units + 64 < cLine := hr.units
theorem hu65 {A : Around} {k : Nat} (hr : Room k A) : A.units + 65 < cLine := by have := hr.un; omega
/-- a def of the top as it stands -/
structure Df (K : PySem.W.Frag) (mg : Str → Option Value) (x : Str) (st : Stmt) where
  f : Addr
  fd : FuncData
  F : FunD K x x (defArgs st) (defBody st) (defScope st) [] [] f fd
  g : mg x = some (.ref f)
section
variable {K : PySem.W.Frag} {bx : Bx} {T : Addr → Prop} {H H1 : Hp}
theorem none_back (e : Ext bx H H1) (b : BoxOk bx H1) {a : Addr} (na : H1 a = none) : H a = none := by
  cases z : H a with
  | none => rfl
  | some o =>
    by_cases nb : isB bx a
    · obtain ⟨x, hx⟩ := nb
      obtain ⟨_, ds', c, h2, _⟩ := b a x hx
      rw [na] at h2; cases h2
    · have := e a o nb z
      rw [na] at this; cases this
theorem RPs.fresh {a : Addr} {o : HO} {vs : List V} {ds : List D} (na : H a = none) (r : RPs K bx T H vs ds) : RPs K bx (fun b => T b ∨ b = a) (upd H a o) vs ds := r.move (fun _ z => z) fun x o' nx hx => ⟨by rw [upd_ne (ne_of_none hx na)]; exact hx, fun z => by
  rcases z with z | z
  · exact nx z
  · rw [z, na] at hx; cases hx⟩
end
section
variable {X : Cx} {a b e k : Expr} {ta tb te tk : TE} {wa wb we wk : EW} {pos p1 p2 pos' : Pos}
/-- list + list -/
def wCatN (a b : EW) : NW := fun δ Q => a δ fun x => b δ fun y => match x, y with
  | .list xs, .list ys => xs.length + ys.length ≤ sizeLine ∧ Q (xs ++ ys)
  | _, _ => False
theorem ncat (ha : PEW X a ta wa) (hb : PEW X b tb wb) : PNW X (.BinOp a .Add b pos) (tOp rCat ta tb) (wCatN wa wb) := ⟨pe_op op_cat ha.pe hb.pe, fun bx T σ H δ Qd Q g en p q =>
  ha.sn bx T σ H δ _ _ g en (fun dx x H1 e1 b1 r1 h1 => hb.sn bx T σ H1 δ _ _ (g.on e1 b1) (en.on g e1) (fun dy y H2 e2 b2 r2 h2 => by
    have g1 := g.on e1 b1
    have g2 := g1.on e2 b2
    have r1' := r1.on g1 e2
    cases r1' with
    | lst hx nx rx =>
      cases r2 with
      | lst hy ny ry => exact ⟨_, _, _, _, rfl, rfl, hx, hy, by rw [rx.length, ry.length]; exact h2.1, fun l hl => p _ _ l _ ((e1.trans e2).trans (ext_new hl)) (box_new hl b2) (none_back (e1.trans e2) b2 hl) upd_same ((rx.append ry).fresh hl) h2.2⟩
      | _ => exact False.elim h2
    | _ => cases r2 <;> exact False.elim h2) h1) q⟩
/-- text.split(sep) -/
def wSplitN (a b : EW) : NW := fun δ Q => a δ fun x => match x with
  | .str z => b δ fun y => match y with
    | .str s => (s.length == 0) = false ∧ z.length + 2 ≤ sizeLine ∧ Q ((Txt.split z s).map PyData.str)
    | _ => False
  | _ => False
theorem nsplit {apos : Pos} (ha : PEW X a ta wa) (hb : PEW X b tb wb) (hs : starEach [b] X.env = [(false, eval b X.env)] := by rfl) (hbase : attributeBase a "split" X.env (eval a X.env) = eval a X.env := by rfl) (hline : (apos.endLine == pos.line) = true := by rfl) :
    PNW X (.Call (.Attribute a "split" apos) [b] [] pos) (tM1 rSplit ta tb) (wSplitN wa wb) := ⟨pe_split ha.pe hb.pe hs hbase hline, fun bx T σ H δ Qd Q g en p q =>
  ha.sn bx T σ H δ _ _ g en (fun dx x H1 e1 b1 r1 h1 => by
    cases r1 with
    | str z =>
      refine ⟨⟨z, rfl⟩, hb.sn bx T σ H1 δ _ _ (g.on e1 b1) (en.on g e1) (fun dy y H2 e2 b2 r2 h2 => ?_) h1⟩
      cases r2 with
      | str s => exact ⟨_, _, rfl, rfl, h2.1, h2.2.1, fun l hl => p _ _ l _ ((e1.trans e2).trans (ext_new hl)) (box_new hl b2) (none_back (e1.trans e2) b2 hl) upd_same ((RPs.ofStrs _).fresh hl) h2.2.2⟩
      | _ => exact False.elim h2
    | _ => exact False.elim h1) q⟩
/-- list(x) -/
def wListN (a : EW) : NW := fun δ Q => a δ fun x => match x with
  | .list xs => Q xs
  | .tuple xs => Q xs
  | _ => False
theorem nlistof (hm : X.mg "list" = none) (ha : PEW X a ta wa) (hg : Gl X "list" := by rfl) (he : starEach [a] X.env = (false, eval a X.env) :: starEach [] X.env := by rfl) (hpl : (backTo pos (starEach [] X.env)).any (·.1) = false := by rfl) :
    PNW X (.Call (.Name "list" p2) [a] [] pos) (tCB (fun xs H Q => ∃ p ys, xs = [.ref p] ∧ (SqL X.K H p ys ∨ SqT X.K H p ys) ∧ ∀ l, H l = none → Q (.ref l) (upd H l (.lst ys))) (tCons ta tNil)) (wListN wa) :=
  ⟨pe_callTy call_list_of hg hm (by decide +kernel) (pa_cons ha.pe pa_nil he) (by decide) (by decide) he hpl, fun bx T σ H δ Qd Q g en p q =>
  ha.sn bx T σ H δ _ _ g en (fun dx x H1 e1 b1 r1 h1 => by
    cases r1 with
    | lst hx nx rx => exact ⟨_, _, rfl, Or.inl (SqL.of hx), fun l hl => p _ _ l _ (e1.trans (ext_new hl)) (box_new hl b1) (none_back e1 b1 hl) upd_same (rx.fresh hl) h1⟩
    | tup hx rx => exact ⟨_, _, rfl, Or.inr hx.sq, fun l hl => p _ _ l _ (e1.trans (ext_new hl)) (box_new hl b1) (none_back e1 b1 hl) upd_same (rx.fresh hl) h1⟩
    | _ => exact False.elim h1) q⟩
/-- x[k] = e, e no list or tuple, of own lists too -/
def wSetIS (i : Nat) (ek e : EW) : SW := fun ρ P => match ρ[i]? with
  | some (some (.own l)) => e (vF ρ) fun d => scal1 d = true ∧ ek (vF ρ) fun k => match k with
    | .int z => ∃ j, ixN l.length z = some j ∧ P.nx (ρ.set i (some (.own (l.set j d))))
    | _ => False
  | _ => False
theorem snd_setIS {K : PySem.W.Frag} {i : Nat} (h : SndE K te we) (hk : SndE K tk wk) : SndS K (tAsg te (gSub (tVar i) tk rSetL)) (wSetIS i wk we) := fun bx M W σ H ρ P Dn g r p q => by
  unfold wSetIS at q
  split at q
  · rename_i l e
    obtain ⟨a, vs, h1, h2, h3, h4⟩ := r.own i l e
    refine h bx M σ H (vF ρ) _ _ g.goodM (r.eF g) (fun d v H1 e1 b1 rv hq => ?_) q
    obtain ⟨hs, hq⟩ := hq
    have g1 := g.on e1 b1
    have r1 := r.on g e1
    refine ⟨_, h1, hk bx M σ H1 (vF ρ) _ _ g1.goodM (r1.eF g1) (fun k vk H2 e2 b2 rk hq2 => ?_) hq⟩
    cases rk with
    | int z =>
      obtain ⟨j, hj, hn⟩ := hq2
      have g2 := g1.on e2 b2
      have r2 := r1.on g1 e2
      have h2' : H2 a = some (.lst vs) := e2 a _ (g.nb h4) (e1 a _ (g.nb h4) h2)
      have h3' := (h3.on g.good e1).on g1.good e2
      obtain ⟨g3, r3, s3⟩ := own_upd g2 r2 (ws := vs.set j v) (ds := l.set j d) e h1 h4 (h3'.setAt j (scal_move rv hs)) (vs := vs)
      exact ⟨a, vs, z, j, rfl, rfl, h2', by rw [h3.length]; exact hj, p.nx W _ _ _ (((Stp.of e1).trans (Stp.of e2)).trans s3) g3 r3 hn⟩
    | _ => exact False.elim hq2
  · exact q.elim
theorem ssetiS (i : Nat) {x : Str} (hk : PEW X k tk wk) (he : PEW X e te we) (hg : PG X (.Subscript (.Name x p1) k p2) (gSub (tVar i) tk rSetL)) (hs : swapsWithSole [.Subscript (.Name x p1) k p2] e pos.line X.env = pure false := by rfl) (hw : swappedStores [.Subscript (.Name x p1) k p2] e X.env = pure none := by rfl)
    (h1 : (assignEach [.Subscript (.Name x p1) k p2] X.env).map (·.2) = [assign (.Subscript (.Name x p1) k p2) X.env] := by rfl) : PSW X (.Assign [.Subscript (.Name x p1) k p2] e pos) (tAsg te (gSub (tVar i) tk rSetL)) (wSetIS i wk we) := ⟨ps_asg he.pe hg hs hw h1, snd_setIS he.sn hk.sn⟩
/-- x.insert(k, e) -/
abbrev rIns : V → List V → Hp → VK → Prop := fun x vs H Q => ∃ (l : Addr) (xs : List V) (i : Int) (y : V), x = .ref l ∧ vs = [.int i, y] ∧ H l = some (.lst xs) ∧ xs.length < sizeLine ∧ 0 ≤ i ∧ i < 2 ^ 63 ∧
    Q .non (upd H l (.lst (xs.take i.toNat ++ [y] ++ xs.drop i.toNat)))
def wIns (i : Nat) (ek e : EW) : SW := fun ρ P => match ρ[i]? with
  | some (some (.own l)) => ek (vF ρ) fun k => match k with
    | .int z => e (vH ρ) fun d => (l.length < sizeLine ∧ 0 ≤ z ∧ z < 2 ^ 63) ∧ P.nx (ρ.set i (some (.own (l.take z.toNat ++ [d] ++ l.drop z.toNat))))
    | _ => False
  | _ => False
theorem snd_ins {K : PySem.W.Frag} {i : Nat} (hk : SndE K tk wk) (h : SndE K te we) : SndS K (tDrop (tBM K "list" rIns (tVar i) (tCons tk (tCons te tNil)))) (wIns i wk we) := fun bx M W σ H ρ P Dn g r p q => by
  unfold wIns at q
  split at q
  · rename_i l e
    obtain ⟨a, vs, h1, h2, h3, h4⟩ := r.own i l e
    refine ⟨_, h1, Or.inl ⟨rfl, _, SqL.of h2⟩, hk bx M σ H (vF ρ) _ _ g.goodM (r.eF g) (fun k vk H1 e1 b1 rk hq => ?_) q⟩
    have g1 := g.on e1 b1
    have r1 := r.on g e1
    cases rk with
    | int z =>
      refine h bx (UM M W) σ H1 (vH ρ) _ _ g1.good r1.eH (fun d v H2 e2 b2 rv hq2 => ?_) hq
      have g2 := g1.on e2 b2
      have r2 := r1.on g1 e2
      have h2' : H2 a = some (.lst vs) := e2 a _ (g.nb h4) (e1 a _ (g.nb h4) h2)
      have h3' := (h3.on g.good e1).on g1.good e2
      obtain ⟨g3, r3, s3⟩ := own_upd g2 r2 (ws := vs.take z.toNat ++ [v] ++ vs.drop z.toNat) (ds := l.take z.toNat ++ [d] ++ l.drop z.toNat) e h1 h4 (((h3'.take _).append (.cons rv .nil)).append (h3'.drop _)) (vs := vs)
      exact ⟨a, vs, z, v, rfl, rfl, h2', by rw [h3.length]; exact hq2.1.1, hq2.1.2.1, hq2.1.2.2, p.nx W _ _ _ (((Stp.of e1).trans (Stp.of e2)).trans s3) g3 r3 hq2.2⟩
    | _ => exact False.elim hq
  · exact q.elim
theorem sins (i : Nat) {x : Str} {apos : Pos} (hk : PEW X k tk wk) (he : PEW X e te we) (hN : X.N[i]? = some x := by rfl) (hv : Vis X.env.scope x := by first | exact Or.inl rfl | exact Or.inr (Or.inl rfl) | exact Or.inr (Or.inr rfl)) (hd : (x == ("__debug__" : Str)) = false := by decide)
    (hcd : (x == ("__classdict__" : Str)) = false := by decide)
    (hbase : attributeBase (.Name x p1) "insert" X.env (eval (.Name x p1) X.env) = eval (.Name x p1) X.env := by rfl)
    (hfew : ((backTo p2 (starEach [k, e] X.env)).all (fun x => !x.1) && (backToKw p2 (keywordEach [] X.env)).all (fun x => x.1.isSome)
      && decide ([k, e].length + ([] : List Keyword).length + (if ([] : List Keyword).isEmpty then 0 else 1) < 30)) = true := by rfl)
    (hline : (apos.endLine == p2.line) = true := by rfl) (hst : starEach [k, e] X.env = (false, eval k X.env) :: starEach [e] X.env := by rfl) (hst2 : starEach [e] X.env = (false, eval e X.env) :: starEach [] X.env := by rfl) (hplain : (backTo p2 (starEach [e] X.env)).any (·.1) = false := by rfl)
    (hs : swapsWith (.Call (.Attribute (.Name x p1) "insert" apos) [k, e] [] p2) none pos.line X.env = pure false := by rfl) :
    PSW X (.Expr (.Call (.Attribute (.Name x p1) "insert" apos) [k, e] [] p2) pos) (tDrop (tBM X.K "list" rIns (tVar i) (tCons tk (tCons te tNil)))) (wIns i wk we) :=
  ⟨ps_expr (pe_bm PySem.F.plainAttrs_list PySem.F.slot_list_insert PySem.F.type_list_insert mt_insert (pv i hN hv hd hcd) (pa_cons hk.pe (pa_cons he.pe pa_nil hst2) hst) hbase hfew hline hst hplain) hs, snd_ins hk.sn he.sn⟩
end
end Wy

set_option Elab.async false
set_option linter.all false
set_option maxRecDepth 100000
set_option maxHeartbeats 2000000
/-! W10: the rules with the written part named (within a comprehension's block the reading must not lean on the block). -/
namespace Wy
open PySem PyProof.Rows L2
section
variable {X : Cx} (K : PySem.W.Frag) {a b c e : Expr} {es : List Expr} {ta tb tc te : TE} {wa wb wc we : EW} {tr : TA} {wr : AW} {pos p2 : Pos} {lo hi : Option Expr} {tl th : TO} {wl wh : OW}
theorem ka_add (hK : X.K = K := by rfl) : OpW X (binaryOp .Add) (rAddW K) oAdd := by subst hK; exact ow_add
theorem ka_eq (hu : X.A.units + 64 < cLine) (hK : X.K = K := by rfl) : OpW X (compareOp .Eq) (rEqW K) oEq := by subst hK; exact ow_eq hu
theorem ka_ne (hu : X.A.units + 64 < cLine) (hK : X.K = K := by rfl) : OpW X (compareOp .NotEq) (rNeW K) oNe := by subst hK; exact ow_ne hu
theorem ka_in (hu : X.A.units + 65 < cLine) (hK : X.K = K := by rfl) : OpW X (compareOp .In) (rInW K) (oInB false) := by subst hK; exact ow_in hu
theorem ka_notin (hu : X.A.units + 65 < cLine) (hK : X.K = K := by rfl) : OpW X (compareOp .NotIn) (rNotInW K) (oInB true) := by subst hK; exact ow_notin hu
theorem kix (ha : PEW X a ta wa) (hb : PEW X b tb wb) (hK : X.K = K := by rfl) (hs : PlainIx b := by exact fun _ _ => rfl) : PEW X (.Subscript a b pos) (tOp (rIx K) ta tb) (wOp oIx wa wb) := by subst hK; exact eix ha hb hs
theorem ksl (ha : PEW X a ta wa) (hl : POW X lo tl wl) (hh : POW X hi th wh) (hK : X.K = K := by rfl) : PEW X (.Subscript a (.Slice lo hi none p2) pos) (tSl (rSlW K) ta tl th) (wSl wa wl wh) := by subst hK; exact esl ha hl hh
theorem ktru (ha : PEW X a ta wa) (hK : X.K = K := by rfl) (he : ∀ whole, isTrue a X.env whole = (do let v ← whole; standAt a.pos; holding [v] (truthy v)) := by intro _; rfl) :
    PTW X a (fun σ H Q => ta σ H fun x H' => ∃ k, TruV K x H' k ∧ Q k H') (wTru wa) := by subst hK; exact ttru ha he
theorem kb_len (hK : X.K = K := by rfl) : CbW X (.builtin "len") (fun xs H Q => ∃ x n, xs = [x] ∧ LenV K x H n ∧ Q (.int n) H) (on1 oLen) := by subst hK; exact cb_len
theorem kb_all (hc : X.calm = true) (hK : X.K = K := by rfl) : CbW X (.builtin "all") (rAll K) (on1 oAll) := by subst hK; exact cb_all hc
theorem kb_any (hc : X.calm = true) (hK : X.K = K := by rfl) : CbW X (.builtin "any") (rAny K) (on1 oAny) := by subst hK; exact cb_any hc
theorem kb_list (hK : X.K = K := by rfl) : CbW X (.type "list") (fun xs H Q => ∃ p ys, xs = [.ref p] ∧ (SqL K H p ys ∨ SqT K H p ys) ∧ ∀ l, H l = none → Q (.ref l) (upd H l (.lst ys))) (on1 oListOf) := by subst hK; exact cb_list
theorem kb_tuple (hK : X.K = K := by rfl) : CbW X (.type "tuple") (fun xs H Q => ∃ p ys, xs = [.ref p] ∧ ((SqL K H p ys ∧ ∀ l, H l = none → Q (.ref l) (upd H l (.tup ys))) ∨ (SqT K H p ys ∧ Q (.ref p) H))) (on1 oTupleOf) := by subst hK; exact cb_tuple
theorem kisi {x : Str} {T : String} {q1 : Pos} (hT : IsT T) (hm : X.mg "isinstance" = none) (hx : X.mg x = none) (hvx : bootBuiltins x = some (.type T)) (ha : PEW X a ta wa) (hK : X.K = K := by rfl) (hg : Gl X "isinstance" := by rfl) (hgx : Gl X x := by rfl) (hnx : x ≠ "__name__" := by decide) (hdx : (x == ("__debug__" : Str)) = false := by decide)
    (he : starEach [a, .Name x q1] X.env = (false, eval a X.env) :: starEach [.Name x q1] X.env := by rfl) (he2 : starEach [.Name x q1] X.env = (false, eval (.Name x q1) X.env) :: starEach [] X.env := by rfl) (hpl : (backTo pos (starEach [.Name x q1] X.env)).any (·.1) = false := by rfl) :
    PEW X (.Call (.Name "isinstance" p2) [a, .Name x q1] [] pos) (tCB (rIsi K) (tCons ta (tCons (tC (.ty T)) tNil))) (wUn (oIsi T) wa) := by subst hK; exact eisi hT hm hx hvx ha hg hgx hnx hdx he he2 hpl
theorem kjoin {apos : Pos} (ha : PEW X a ta wa) (hb : PEW X b tb wb) (hK : X.K = K := by rfl) (hs : starEach [b] X.env = [(false, eval b X.env)] := by rfl) (hbase : attributeBase a "join" X.env (eval a X.env) = eval a X.env := by rfl) (hline : (apos.endLine == pos.line) = true := by rfl) :
    PEW X (.Call (.Attribute a "join" apos) [b] [] pos) (tM1 (rJoin K) ta tb) (wM1 fJoin wa wb) := by subst hK; exact ejoin ha hb hs hbase hline
theorem klindex {apos : Pos} (hu : X.A.units + 65 < cLine) (ha : PEW X a ta wa) (hb : PEW X b tb wb) (hK : X.K = K := by rfl)
    (hbase : attributeBase a "index" X.env (eval a X.env) = eval a X.env := by rfl)
    (hfew : ((backTo pos (starEach [b] X.env)).all (fun x => !x.1) && (backToKw pos (keywordEach [] X.env)).all (fun x => x.1.isSome)
      && decide ([b].length + ([] : List Keyword).length + (if ([] : List Keyword).isEmpty then 0 else 1) < 30)) = true := by rfl)
    (hline : (apos.endLine == pos.line) = true := by rfl) (hs : starEach [b] X.env = (false, eval b X.env) :: starEach [] X.env := by rfl) (hplain : (backTo pos (starEach [] X.env)).any (·.1) = false := by rfl) :
    PEW X (.Call (.Attribute a "index" apos) [b] [] pos) (tBM K "list" (rIndexD K) ta (tCons tb tNil)) (wL1 oLIndex wa wb) := by subst hK; exact elindex hu ha hb hbase hfew hline hs hplain
theorem kcall {k n : Nat} {fa : Addr} {fd : FuncData} {ps : List Str} {x : Str} {f : OL} (F : FnOk X.prog X.w X.K X.mg X.base CX0 k fa fd ps (spW K n f)) (hr : Room k X.A) (hm : X.mg x = some (.ref fa)) (hk : PySem.W.keepIn K (.ref fa) = true) (hb : Binds K fd ps [])
    (ha : PAW X (e :: es) tr wr) (hK : X.K = K := by rfl) (hg : Gl X x := by rfl) (hdb : (x == ("__debug__" : Str)) = false := by decide) (he : starEach (e :: es) X.env = (false, eval e X.env) :: starEach es X.env := by rfl) (hpl : (backTo pos (starEach es X.env)).any (·.1) = false := by rfl) :
    PEW X (.Call (.Name x p2) (e :: es) [] pos) (tCall (spW K n f) [] E0 tr) (wFn n f wr) := by subst hK; exact ecall F hr hm hk hb ha hg hdb he hpl
theorem kcall0 {k n : Nat} {fa : Addr} {fd : FuncData} {ps : List Str} {x : Str} {f : OL} (F : FnOk X.prog X.w X.K X.mg X.base CX0 k fa fd ps (spW K n f)) (hr : Room k X.A) (hm : X.mg x = some (.ref fa)) (hk : PySem.W.keepIn K (.ref fa) = true) (hb : Binds K fd ps [])
    (hK : X.K = K := by rfl) (hg : Gl X x := by rfl) (hdb : (x == ("__debug__" : Str)) = false := by decide) : PEW X (.Call (.Name x p2) [] [] pos) (tCall (spW K n f) [] E0 tNil) (wFn n f wNil) := by subst hK; exact ecall0 F hr hm hk hb hg hdb
theorem kiter {tg : Expr} (he : PEW X e te we) (hK : X.K = K := by rfl) : PIW X tg e (iAny K te) (wIter we) := by subst hK; exact iter he
theorem kenum {elts : List Expr} {kk : Nat} {tpos : Pos} (hm : X.mg "enumerate" = none) (ha : PEW X a ta wa) (hK : X.K = K := by rfl) (hg : Gl X "enumerate" := by rfl) (hs : starEach [a] X.env = [(false, eval a X.env)] := by rfl) :
    PIW X (.Tuple elts kk tpos) (.Call (.Name "enumerate" p2) [a] [] pos) (iEnum K (tCons ta tNil)) (wEnum wa) := by subst hK; exact ienum hm ha hg hs
theorem ktup {k n : Nat} {t : TGs} {is : List Nat} (hc : X.calm = true) (h : PGsW X es t is) (hK : X.K = K := by rfl) (hn : (assignEach es X.env).length = n := by rfl) (hl : is.length = n := by rfl) (hst : (assignEach es X.env).findIdx? (·.1) = none := by rfl) :
    PGW X (.Tuple es k pos) (gTup K n t) is (uTup n) := by subst hK; exact gtup hc h hn hl hst
theorem kg {x : Str} {v : V} {u : Value} {d : D} (hm : X.mg x = some u) (rv : RelV v u) (hc : ∀ bx T H, RP K bx T H v d) (hK : X.K = K := by rfl) (hg : Gl X x := by rfl) (hd : (x == ("__debug__" : Str)) = false := by decide) : PEW X (.Name x pos) (tC v) (wC d) := by subst hK; exact eg hm rv hc hg hd
end
end Wy

set_option Elab.async false
set_option linter.all false
set_option maxRecDepth 100000
set_option maxHeartbeats 2000000
/-! W11: where a token must have been given out (str.replace). -/
namespace Wy
open PySem PyProof.Rows L2
section
variable {X : Cx} {a b c e : Expr} {ta tb te : TE} {tt tu : TT} {pos : Pos}
def PTT (X : Cx) (e : Expr) (t : TT) : Prop := ∀ (pins : List (Addr × Obj)) (s : Shared) (σ : L2.St) (H : Hp) (Q : Bool → Hp → Prop), 1 ≤ s.toks → Inv X pins σ H s → t σ H Q → wpAny (model X.prog X.w) X.A (isTrue e X.env (eval e X.env)) (TP X pins σ Q) X.xe s
def PWT (X : Cx) (e : Expr) (t : TT) : Prop := ∀ (wh : Sem Value) (pins : List (Addr × Obj)) (s : Shared) (σ : L2.St) (H : Hp) (Q : Bool → Hp → Prop), 1 ≤ s.toks → Inv X pins σ H s → t σ H Q → wpAny (model X.prog X.w) X.A (isTrue e X.env wh) (TP X pins σ Q) X.xe s
theorem PTT.of (h : PT X e tt) : PTT X e tt := fun pins s σ H Q _ I q => h.run pins s σ H Q I q
theorem PWT.t (h : PWT X e tt) : PTT X e tt := fun pins s σ H Q k I q => h _ pins s σ H Q k I q
theorem ptt_not (ha : PTT X a tt) : PTT X (.UnaryOp .Not a pos) (tNot tt) := fun pins s σ H Q k I h => isTrue_not (ha pins s σ H (fun z H1 => Q (!z) H1) k I h)
theorem pwt_or1 (ha : PTT X a tt) : PWT X (.BoolOp .Or [a] pos) tt := fun wh pins s σ H Q k I h => by
  refine isTrue_or (thn (ha pins s σ H Q k I h) fun z s2 hz => ?_)
  cases z
  · exact isTrue_or_nil hz
  · exact hz
theorem pwt_or {rest : List Expr} (ha : PTT X a tt) (hb : PWT X (.BoolOp .Or (b :: rest) pos) tu) : PWT X (.BoolOp .Or (a :: b :: rest) pos) (tOr tt tu) := fun wh pins s σ H Q k I h => by
  refine isTrue_or (wpAny_mono (PySem.wpAny_toks (ha pins s σ H _ k I h)) (fun z s2 hz => ?_) fun _ _ z => z.2)
  obtain ⟨hk, H2, I2, hq⟩ := hz
  cases z
  · exact hb wh pins s2 σ H2 Q (Nat.le_trans k hk) I2 hq
  · exact ⟨H2, I2, hq⟩
theorem ptt_truth (ha : PET X a ta) (he : ∀ whole, isTrue a X.env whole = (do let v ← whole; standAt a.pos; holding [v] (truthy v)) := by intro _; rfl) : PTT X a (fun σ H Q => ta σ H fun x H' => ∃ k, TruV X.K x H' k ∧ Q k H') := fun pins s σ H Q k I h =>
  isTrue_plain (thn (ha pins s σ H _ k I h) fun v s2 hz => by
    obtain ⟨x, H2, I2, r2, hq⟩ := hz
    exact tru_ok pins s2 σ H2 x v Q I2 r2 hq) (he _)
theorem pet_ifE (hc : PT X c tt) (ha : PET X a ta) (hb : PET X b tb) : PET X (.IfExp c a b pos) (tIf tt ta tb) := fun pins s σ H Q k I h => by
  refine wpAny_IfExp (wpAny_mono (PySem.wpAny_toks (hc.run pins s σ H _ I h)) (fun z s2 hz => ?_) fun _ _ z => z.2)
  obtain ⟨hk, H2, I2, hq⟩ := hz
  cases z
  · exact hb pins s2 σ H2 Q (Nat.le_trans k hk) I2 hq
  · exact ha pins s2 σ H2 Q (Nat.le_trans k hk) I2 hq
theorem pet_and {rest : List Expr} (ha : PET X a ta) (hb : PET X (.BoolOp .And (b :: rest) pos) tb) : PET X (.BoolOp .And (a :: b :: rest) pos) (tAndV ta tb) := fun pins s σ H Q k I h => by
  refine BoolOp_and (wpAny_mono (PySem.wpAny_toks (ha pins s σ H _ k I h)) (fun v s2 hz => ?_) fun _ _ z => z.2)
  obtain ⟨hk, x, H2, I2, r2, d, ed, hq⟩ := hz
  subst ed
  cases r2
  refine wpAny_truthy_bool ?_
  cases d
  · exact ⟨.bl false, H2, I2, rfl, hq⟩
  · exact hb pins s2 σ H2 Q (Nat.le_trans k hk) I2 hq
theorem pet_one {op} (h : PET X a ta) : PET X (.BoolOp op [a] pos) ta := fun pins s σ H Q k I q => BoolOp_one (h pins s σ H Q k I q)
end
/-! ### a def that wants a token out -/
structure FnT (P : Program) (w : World) (K : PySem.W.Frag) (mg : Str → Option Value) (base : Heap) (k : Nat) (f : Addr) (fd : FuncData) (ps : List Str) (sp : Sp) : Prop where
  len : ∀ vs H Q E, sp vs H Q E → vs.length = ps.length
  run : ∀ (A : Around) (outer : List Env) (s : Shared) (H : Hp) (args : Args) (us : List Value) (vs : List V) (Q : VK) (E : XK), 1 ≤ s.toks → Room k A → Env0 P w K mg base A outer s H → BindsTo s fd args (ps.zip us) → Vals vs us → sp vs H Q E →
    codeAny (model P w) A (.call (.ref f) args) (CR CX0 outer P w H s Q E) s
section
variable {X : Cx} {k n : Nat} {fa : Addr} {fd : FuncData} {ps : List Str} {sp : Sp} {x : Str} {e : Expr} {es : List Expr} {t : TA} {pos p2 : Pos}
theorem run_t {pins : List (Addr × Obj)} {σ : L2.St} {H : Hp} {s : Shared} {Q : VK} {us : List Value} {vs : List V} (F : FnT X.prog X.w X.K X.mg X.base k fa fd ps sp) (hr : Room k X.A) (hb : Binds X.K fd ps []) (h1 : 1 ≤ s.toks)
    (I : Inv X pins σ H s) (r : Vals vs us) (h : sp vs H Q E0) : wpAny (model X.prog X.w) X.A (call (.ref fa) us) (EP X pins σ Q) X.xe s := by
  have hl : (us ++ []).length = ps.length := by rw [List.append_nil, ← r.length]; exact F.len _ _ _ _ h
  have bt := hb s us I.kIn hl
  rw [List.append_nil] at bt
  refine wpAny_call (codeAny_mono (F.run X.A X.stack s H ⟨us, []⟩ us vs Q E0 h1 hr I.env0 bt r h) fun res s' hq => ?_)
  rcases res with er | fl
  · exact False.elim hq
  · cases fl with
    | ret u => exact I.after hq
    | _ => exact False.elim hq
theorem pet_call (F : FnT X.prog X.w X.K X.mg X.base k fa fd ps sp) (hr : Room k X.A) (hm : X.mg x = some (.ref fa)) (hk : PySem.W.keepIn X.K (.ref fa) = true) (hb : Binds X.K fd ps []) (ha : PAT X (e :: es) t) (hg : Gl X x := by rfl) (hdb : (x == ("__debug__" : Str)) = false := by decide)
    (he : starEach (e :: es) X.env = (false, eval e X.env) :: starEach es X.env := by rfl) (hpl : (backTo pos (starEach es X.env)).any (·.1) = false := by rfl) : PET X (.Call (.Name x p2) (e :: es) [] pos) (tCall sp [] E0 t) := fun pins s σ H Q k1 I h => by
  refine wpAny_Call_Name_kw (ld_glob I hg hm ?_ hdb)
  refine PySem.W.callWith_K (h₀ := X.base) I.ok.mod.kin hk (wpAny_mono (PySem.wpAny_toks (ha pos pins s σ H _ k1 I h)) (fun us s2 hz => ?_) fun _ _ z => z.2) he hpl
  obtain ⟨hk2, vs, H2, I2, r2, hq⟩ := hz
  rw [List.append_nil] at hq
  exact ⟨I2.kIn, run_t F hr hb (Nat.le_trans k1 hk2) I2 r2 hq⟩
end
section
variable {X : Cx} {c e tg it : Expr} {te : TE} {tt : TT} {t u : TS} {sts sts2 : List Stmt} {pos pos' : Pos}
theorem pst_set {i : Nat} {x : Str} (hN : X.N.Nodup) (he : PET X e te) (hi : X.N[i]? = some x := by rfl) (hx : Loc X.env.scope x := by first | exact Or.inl rfl | exact Or.inr rfl) (hs : swapsWith e (some (.Name x pos')) pos.line X.env = pure false := by rfl)
    (hf : X.fn x = true ∨ X.env.scope.names.lookup x = some .local := by first | exact .inl rfl | exact .inr rfl) : PST X (.Assign [.Name x pos'] e pos) (tAsg te (gName i)) := fun pins s σ H D k I h => by
  refine wpAny_Assign_Name (thn (he pins s σ H _ k I h) fun v s2 hz => ?_) hs
  obtain ⟨y, H2, I2, r2, hq⟩ := hz
  exact store_ok I2 hN hi hx r2 (fun s3 I3 => ⟨_, H2, I3, hq⟩) hf
theorem pst_ifT (hc : PTT X c tt) (ha : PSsT X sts t) (hb : PSsT X sts2 u) : PST X (.If c sts sts2 pos) (tIfS tt t u) := fun pins s σ H D k I h => by
  refine wpAny_If (wpAny_mono (PySem.wpAny_toks (hc pins s σ H _ k I h)) (fun z s2 hz => ?_) fun _ _ z => z.2)
  obtain ⟨hk, H2, I2, hq⟩ := hz
  cases z
  · exact hb pins s2 σ H2 D (Nat.le_trans k hk) I2 hq
  · exact ha pins s2 σ H2 D (Nat.le_trans k hk) I2 hq
/-- a for loop whose body wants a token out -/
theorem pst_forT {wi : TI} {g : TG} (hp : PassesOwn (model X.prog X.w) X.A X.env X.xe) (hc : X.calm = true) (hi : PI X tg it wi) (hg : PG X tg g) (hb : PSsT X sts t) (hs : ∀ x, foldedSetIterable it X.env x = pure x := by intro _; rfl) :
    PST X (.For tg it sts [] pos) (tFor wi g t) := fun pins s σ H D k I h => by
  refine wpAny_For (wpAny_mono (PySem.wpAny_toks (hi.run pins s σ H _ I h)) (fun v s1 q1 => wpAny_mono (PySem.wpAny_toks q1.2) (fun itv s2 q2 => ?_) fun _ _ z => z.2) fun _ _ z => z.2) hs
  have k2 : 1 ≤ s2.toks := Nat.le_trans k (Nat.le_trans q1.1 q2.1)
  obtain ⟨ad, fp, tn, J, H2, ea, I2, Tn, st2, f2, W, ⟨m0, w0⟩, go⟩ := q2.2
  subst ea
  have fpk : ∀ {Hx : Hp}, (∀ b ∈ fp, Hx b = none) → ∀ b ∈ fp, FpOk X pins Hx b := fun hn b hb => ⟨hn b hb, (f2 b hb).2⟩
  refine codeAny_forLoop_any (fun n sx => 1 ≤ sx.toks ∧ ∃ i σx Hx, Inv X pins σx Hx sx ∧ tn i sx.heap ∧ (∀ b ∈ fp, Hx b = none) ∧ W i n σx Hx) ?_ m0 ⟨k2, 0, σ, H2, I2, st2, fun b hb => (f2 b hb).1, w0⟩
  rintro n s3 ⟨k3, i, σ3, H3, I3, st3, fr3, w3⟩
  rcases go i n σ3 H3 w3 with ⟨hstop, hnx⟩ | ⟨hgo, Nn, hNn, hstep⟩
  · refine wpAny_passesOwn hp (thn (Tn.done X rfl rfl rfl hc i pins s3 σ3 H3 X.xe I3 (fpk fr3) st3 hstop) fun r s4 hr4 => ?_)
    obtain ⟨er, I4⟩ := hr4
    subst er
    exact wpAny_execs_nil ⟨σ3, H3, I4, hnx⟩
  · refine wpAny_passesOwn hp (wpAny_mono (PySem.wpAny_toks (Tn.item X rfl rfl rfl hc i pins s3 σ3 H3 X.xe I3 (fpk fr3) st3 hgo)) (fun r s4 hr4 => ?_) fun _ _ z => z.2)
    obtain ⟨k4, u4, er, h4⟩ := hr4
    subst er
    refine wpAny_passesOwn hp (wpAny_mono (PySem.wpAny_toks h4) (fun _ s5 hr5 => ?_) fun _ _ z => z.2)
    obtain ⟨k5, x5, H5, I5, r5, y5, st5, fr5⟩ := hr5
    have Ip := I5.pinned (fpk fr5) (Tn.obj _ _ st5)
    refine wpAny_passesOwn hp (wpAny_mono (PySem.wpAny_toks (hg.run _ s5 σ3 H5 x5 u4 _ Ip r5 (hstep x5 H5 y5))) (fun _ s6 hr6 => ?_) fun _ _ z => z.2)
    obtain ⟨k6, σ6, H6, I6, q6⟩ := hr6
    have kk : 1 ≤ s6.toks := Nat.le_trans k3 (Nat.le_trans k4 (Nat.le_trans k5 k6))
    refine wpAny_passesOwn hp (wpAny_mono (PySem.wpAny_toks (hb _ s6 σ6 H6 _ kk I6 q6)) (fun fl s7 hr7 => ?_) fun _ _ z => z.2)
    obtain ⟨k7, q7⟩ := hr7
    have nxt : ∀ {σ7 : L2.St} {H7 : Hp}, Inv X (pins ++ pinsAt fp s5.heap) σ7 H7 s7 → Nn σ7 H7 → ∃ m, m < n ∧ 1 ≤ s7.toks ∧ ∃ i σx Hx, Inv X pins σx Hx s7 ∧ tn i s7.heap ∧ (∀ b ∈ fp, Hx b = none) ∧ W i m σx Hx := fun {σ7 H7} I7 n7 => by
      obtain ⟨m7, lt7, w7⟩ := hNn σ7 H7 n7
      have pn : ∀ b ∈ fp, ∀ o, s5.heap.get? b = some o → s7.heap.get? b = some o ∧ H7 b = none := fun b hb o ho => by
        have z := I7.pin (b, o) (List.mem_append_right _ (List.mem_append_right _ (mem_pinsAt hb ho)))
        exact ⟨z.1, z.2.1⟩
      refine ⟨m7, lt7, Nat.le_trans kk k7, i + 1, σ7, H7, I7.unpinned, Tn.keep _ _ _ st5 fun b hb o ho => (pn b hb o ho).1, fun b hb => ?_, w7⟩
      obtain ⟨o, ho, _⟩ := Tn.obj _ _ st5 b hb
      exact (pn b hb o ho).2
    cases fl with
    | next => obtain ⟨σ7, H7, I7, n7⟩ := q7; exact nxt I7 n7
    | cont => obtain ⟨σ7, H7, I7, n7⟩ := q7; exact nxt I7 n7
    | brk => obtain ⟨σ7, H7, I7, z7⟩ := q7; exact ⟨σ7, H7, I7.unpinned, z7⟩
    | ret v => obtain ⟨x7, σ7, H7, I7, r7, z7⟩ := q7; exact ⟨x7, σ7, H7, I7.unpinned, r7, z7⟩
end
theorem okT {P : Program} {w : World} {K : PySem.W.Frag} {mg : Str → Option Value} {base : Heap} {x qual : Str} {params : Arguments} {body : List Stmt} {scope : Scope} {f : Addr} {fd : FuncData} {N ps : List Str} {k : Nat} {sp : Sp}
    (F : FunD K x qual params body scope [] [] f fd) (S : FnScope N ps scope) (len : ∀ vs H Q E, sp vs H Q E → vs.length = ps.length)
    (hbody : ∀ (cdv : Value) (A : Around) (outer : List Env) (s : Shared) (H : Hp) (vs : List V) (Q : VK) (E : XK), Room k (A.deeper (envOfC qual scope s.heap.objs.size f cdv)) → sp vs H Q E →
      ∃ t, PSsT (cxOf CX0 P w K mg base N qual scope f cdv A outer s H E).nox body t ∧ t { nx := fun _ H' => Q .non H', rt := Q } (L2.start N vs) H) : FnT P w K mg base (k + 1) f fd ps sp := by
  obtain ⟨oc, od, dV, kV, doc, pm, an, cdv, ct, osl, rfl, lk, hcd, _, _⟩ := F.ex
  refine ⟨len, fun A outer s H args us vs Q E k1 hr e0 hb rv hsp => ?_⟩
  have KH : K.In s.heap := e0.mod.kin.keeps fun b o z => (e0.bs b o z).1
  have nl : s.heap.NoLimit := e0.mod.nolimit.keeps fun b o z => (e0.bs b o z).1
  have hk : ∀ y ∈ ps.zip us, scope.names.lookup y.1 = some .local ∨ (scope.names.lookup y.1 = some .cell ∧ ((cellsFrom (s.heap.objs.size + 1) scope.names []).lookup y.1).isSome = true) := by
    rintro ⟨n, v⟩ hy
    rcases S.par n (List.of_mem_zip hy).1 with z | z
    · exact Or.inl z
    · exact Or.inr ⟨z, PySem.W.cellsFrom_some _ _ _ (Or.inl z)⟩
  refine codeAny_call_function hr.depth (KH _ _ lk) rfl S.co S.gen rfl (PySem.W.codeRec_of KH hcd) (hb _ _ _ _ ?_)
  refine PySem.wpAny_with_toks k1 ?_
  refine wpAny_newFunctionEnv_cells S.kind hk fun env he s1 x => ?_
  intro k2
  subst he
  refine ⟨nl.keeps x.toInCall.keep, codeAny_func ?_⟩
  obtain ⟨t, ht, hq⟩ := hbody cdv A outer s H vs Q E (hr.deeper _) hsp
  have I0 : Inv (cxOf CX0 P w K mg base N qual scope f cdv A outer s H E) [] (L2.start N vs) H s1 := inv_start S hr.hd e0 (len _ _ _ _ hsp) rv x
  refine wpAny_mono (ht [] s1 (L2.start N vs) H _ k2 (I0.wish _) hq) (fun fl s' hs => ?_) fun e s' hs => False.elim hs
  cases fl with
  | ret u =>
    obtain ⟨v, σ', H', J, r2, q⟩ := hs
    exact ⟨v, H', J.os, J.bare, J.base, J.hok, r2, q⟩
  | next =>
    obtain ⟨σ', H', J, q⟩ := hs
    exact ⟨.non, H', J.os, J.bare, J.base, J.hok, rfl, q⟩
  | brk => obtain ⟨_, _, _, z⟩ := hs; exact False.elim z
  | cont => obtain ⟨_, _, _, z⟩ := hs; exact False.elim z
/-! ### with their data -/
structure PEWT (X : Cx) (e : Expr) (t : TE) (w : EW) : Prop where
  pe : PET X e t
  sn : SndE X.K t w
structure PTWT (X : Cx) (e : Expr) (t : TT) (w : TW) : Prop where
  pt : PTT X e t
  sn : SndT X.K t w
structure PWWT (X : Cx) (e : Expr) (t : TT) (w : TW) : Prop where
  pw : PWT X e t
  sn : SndT X.K t w
structure PAWT (X : Cx) (es : List Expr) (t : TA) (w : AW) : Prop where
  pa : PAT X es t
  sn : SndA X.K t w
structure PSWT (X : Cx) (st : Stmt) (t : TS) (w : SW) : Prop where
  ps : PST X st t
  sn : SndS X.K t w
structure PSsWT (X : Cx) (st : List Stmt) (t : TS) (w : SW) : Prop where
  ps : PSsT X st t
  sn : SndS X.K t w
section
variable {X : Cx} {a b c e tg it : Expr} {es : List Expr} {ta tb te : TE} {wa wb we : EW} {tt tu : TT} {wt wu : TW} {t u : TS} {w w' : SW} {tr : TA} {wr : AW} {sts sts2 rest : List Stmt} {st : Stmt} {pos pos' p2 : Pos}
theorem PEW.T (h : PEW X e te we) : PEWT X e te we := ⟨CwR.PET.of h.pe, h.sn⟩
theorem PTW.T (h : PTW X e tt wt) : PTWT X e tt wt := ⟨PTT.of h.pt, h.sn⟩
theorem PSW.T (h : PSW X st t w) : PSWT X st t w := ⟨PST.of h.ps, h.sn⟩
theorem PSsW.T (h : PSsW X sts t w) : PSsWT X sts t w := ⟨PSsT.of h.ps, h.sn⟩
theorem Tan : PAWT X [] tNil wNil := ⟨pat_nil, snd_nil⟩
theorem Tac (ha : PEWT X e te we) (hr : PAWT X es tr wr) (hs : starEach (e :: es) X.env = (false, eval e X.env) :: starEach es X.env := by rfl) : PAWT X (e :: es) (tCons te tr) (wCons we wr) := ⟨pat_cons ha.pe hr.pa hs, snd_cons ha.sn hr.sn⟩
theorem Tbin {op : Operator} {r : R2} {o : O2} (h : OpW X (binaryOp op) r o) (ha : PEWT X a ta wa) (hb : PEWT X b tb wb) : PEWT X (.BinOp a op b pos) (tOp r ta tb) (wOp o wa wb) := ⟨CwR.pet_op h.op ha.pe hb.pe, snd_op h.sn ha.sn hb.sn⟩
theorem Tif (hc : PTW X c tt wt) (ha : PEWT X a ta wa) (hb : PEWT X b tb wb) : PEWT X (.IfExp c a b pos) (tIf tt ta tb) (wIf wt wa wb) := ⟨pet_ifE hc.pt ha.pe hb.pe, snd_if hc.sn ha.sn hb.sn⟩
theorem Tand {rs : List Expr} (ha : PEWT X a ta wa) (hb : PEWT X (.BoolOp .And (b :: rs) pos) tb wb) : PEWT X (.BoolOp .And (a :: b :: rs) pos) (tAndV ta tb) (wAndV wa wb) := ⟨pet_and ha.pe hb.pe, snd_andV ha.sn hb.sn⟩
theorem Tone {op} (h : PEWT X a ta wa) : PEWT X (.BoolOp op [a] pos) ta wa := ⟨pet_one h.pe, h.sn⟩
theorem Tnot (ha : PTWT X a tt wt) : PTWT X (.UnaryOp .Not a pos) (tNot tt) (wNot wt) := ⟨ptt_not ha.pt, snd_not ha.sn⟩
theorem Tor1 (ha : PTWT X a tt wt) : PWWT X (.BoolOp .Or [a] pos) tt wt := ⟨pwt_or1 ha.pt, ha.sn⟩
theorem Tor {rs : List Expr} (ha : PTWT X a tt wt) (hb : PWWT X (.BoolOp .Or (b :: rs) pos) tu wu) : PWWT X (.BoolOp .Or (a :: b :: rs) pos) (tOr tt tu) (wOr wt wu) := ⟨pwt_or ha.pt hb.pw, snd_or ha.sn hb.sn⟩
theorem PWWT.test (h : PWWT X e tt wt) : PTWT X e tt wt := ⟨PWT.t h.pw, h.sn⟩
theorem Ttru (ha : PEWT X a ta wa) (he : ∀ whole, isTrue a X.env whole = (do let v ← whole; standAt a.pos; holding [v] (truthy v)) := by intro _; rfl) : PTWT X a (fun σ H Q => ta σ H fun x H' => ∃ k, TruV X.K x H' k ∧ Q k H') (wTru wa) :=
  ⟨ptt_truth ha.pe he, fun bx T σ H δ Qd Q g en p h => ha.sn bx T σ H δ _ _ g en (fun d x H1 e1 b1 r1 h1 => by
    cases r1 with
    | non => exact ⟨false, rfl, p _ H1 e1 b1 h1⟩
    | bl b => exact ⟨b, rfl, p _ H1 e1 b1 h1⟩
    | int i => exact ⟨_, rfl, p _ H1 e1 b1 h1⟩
    | str y => exact ⟨_, ⟨h1.1, rfl⟩, p _ H1 e1 b1 h1.2⟩
    | lst ha na ra => exact ⟨_, Or.inl ⟨_, SqL.of ha, rfl⟩, p _ H1 e1 b1 (by cases ra <;> exact h1)⟩
    | tup ha ra => exact ⟨_, Or.inr (Or.inl ⟨_, ha.sq, rfl⟩), p _ H1 e1 b1 (by cases ra <;> exact h1)⟩
    | _ => exact False.elim h1) h⟩
theorem Tcall {k n : Nat} {fa : Addr} {fd : FuncData} {ps : List Str} {x : Str} {f : OL} (F : FnT X.prog X.w X.K X.mg X.base k fa fd ps (spW X.K n f)) (hr : Room k X.A) (hm : X.mg x = some (.ref fa)) (hk : PySem.W.keepIn X.K (.ref fa) = true) (hb : Binds X.K fd ps [])
    (ha : PAWT X (e :: es) tr wr) (hg : Gl X x := by rfl) (hdb : (x == ("__debug__" : Str)) = false := by decide) (he : starEach (e :: es) X.env = (false, eval e X.env) :: starEach es X.env := by rfl) (hpl : (backTo pos (starEach es X.env)).any (·.1) = false := by rfl) :
    PEWT X (.Call (.Name x p2) (e :: es) [] pos) (tCall (spW X.K n f) [] E0 tr) (wFn n f wr) := ⟨pet_call F hr hm hk hb ha.pa hg hdb he hpl, snd_call ha.sn⟩
/-- a call of a def that wants no token, with arguments that want one -/
theorem FnOk.tok {P : Program} {wd : World} {K : PySem.W.Frag} {mg : Str → Option Value} {base : Heap} {k : Nat} {fa : Addr} {fd : FuncData} {ps : List Str} {sp : Sp} (F : FnOk P wd K mg base CX0 k fa fd ps sp) : FnT P wd K mg base k fa fd ps sp := ⟨F.len, fun A outer s H args us vs Q E _ => F.run A outer s H args us vs Q E⟩
theorem Tsn : PSsWT X [] tNext wNext := ⟨PSsT.of pss_nil, snd_next⟩
theorem Tsc (h1 : PSWT X st t w) (h2 : PSsWT X rest u w') : PSsWT X (st :: rest) (tSeq t u) (wSeq w w') := ⟨psst_cons h1.ps h2.ps, snd_seq h1.sn h2.sn⟩
theorem Ts1 (h1 : PSWT X st t w) : PSsWT X [st] t w := ⟨fun pins s σ H D k I h => by
  refine wpAny_execs_cons (thn (h1.ps pins s σ H D k I h) fun f s2 q => ?_)
  cases f with
  | next => exact wpAny_execs_nil q
  | _ => exact q, h1.sn⟩
theorem Tset (i : Nat) {x : Str} (hN : X.N.Nodup) (he : PEWT X e te we) (hi : X.N[i]? = some x := by rfl) (hx : Loc X.env.scope x := by first | exact Or.inl rfl | exact Or.inr rfl) (hs : swapsWith e (some (.Name x pos')) pos.line X.env = pure false := by rfl)
    (hf : X.fn x = true ∨ X.env.scope.names.lookup x = some .local := by first | exact .inl rfl | exact .inr rfl) : PSWT X (.Assign [.Name x pos'] e pos) (tAsg te (gName i)) (wAsg i we) := ⟨pst_set hN he.pe hi hx hs hf, snd_asg he.sn⟩
theorem Tret (he : PEWT X e te we) : PSWT X (.Return (some e) pos) (tRet te) (wRet we) := ⟨CwR.pst_ret he.pe, snd_ret he.sn⟩
theorem TifS (hc : PTWT X c tt wt) (ha : PSsWT X sts t w) (hb : PSsWT X sts2 u w') : PSWT X (.If c sts sts2 pos) (tIfS tt t u) (wIfS wt w w') := ⟨pst_ifT hc.pt ha.ps hb.ps, snd_ifS hc.sn ha.sn hb.sn⟩
theorem Tfor {ti : TI} {wi : IW} {g : TG} {is : List Nat} {un : D → Option (List D)} (hp : PassesOwn (model X.prog X.w) X.A X.env X.xe) (hc : X.calm = true) (hi : PIW X tg it ti wi) (hg : PGW X tg g is un) (hb : PSsWT X sts t w)
    (hs : ∀ x, foldedSetIterable it X.env x = pure x := by intro _; rfl) : PSWT X (.For tg it sts [] pos) (tFor ti g t) (wFor wi is un w) := ⟨pst_forT hp hc hi.pi hg.pg hb.ps hs, snd_for hi.sn hg.sn hb.sn⟩
/-- text.replace(y, z).replace(y2, z2), all written -/
def wRepl (a : EW) (y z : Str) : EW := fun δ Q => a δ fun x => match x with
  | .str s => s.length + (s.length + 1) * z.length ≤ 16777216 ∧ Q (.str (Txt.replace s y z))
  | _ => False
theorem snd_repl {K : PySem.W.Frag} {y z : Str} (ha : SndE K ta wa) : SndE K (CwR.tReplC ta y z) (wRepl wa y z) := fun bx T σ H δ Qd Q g en p q =>
  ha bx T σ H δ _ _ g en (fun d x H1 e1 b1 r1 h1 => by
    cases r1 with
    | str s => exact ⟨s, rfl, h1.1, (p.on e1).here (g.on e1 b1) (.str _) h1.2⟩
    | _ => exact False.elim h1) q
theorem Trepl {y z : Str} {j k : Nat} {c0 c1 apos : Pos} (ha : PEWT X a ta wa) (hyz : (y == z) = false := by decide)
    (hst : starEach [.Constant (.str y) j c0, .Constant (.str z) k c1] X.env = [(false, eval (.Constant (.str y) j c0) X.env), (false, eval (.Constant (.str z) k c1) X.env)] := by rfl)
    (hbase : attributeBase a "replace" X.env (eval a X.env) = eval a X.env := by rfl) (hline : (apos.endLine == pos.line) = true := by rfl) :
    PEWT X (.Call (.Attribute a "replace" apos) [.Constant (.str y) j c0, .Constant (.str z) k c1] [] pos) (CwR.tReplC ta y z) (wRepl wa y z) := ⟨CwR.pet_replT ha.pe hyz hst hbase hline, snd_repl ha.sn⟩
end
theorem okWT {P : Program} {wd : World} {K : PySem.W.Frag} {mg : Str → Option Value} {base : Heap} {x qual : Str} {params : Arguments} {body : List Stmt} {scope : Scope} {f : Addr} {fd : FuncData} {N ps : List Str} {k n m : Nat} {w : SW}
    (F : FunD K x qual params body scope [] [] f fd) (S : FnScope N ps scope) (hn : ps.length = n) (hm : N.length = m)
    (h : ∀ (cdv : Value) (A : Around) (outer : List Env) (s : Shared) (H : Hp) (E : XK), Room k (A.deeper (envOfC qual scope s.heap.objs.size f cdv)) → ∃ t, PSsWT (cxOf CX0 P wd K mg base N qual scope f cdv A outer s H E).nox body t w) :
    FnT P wd K mg base (k + 1) f fd ps (spW K n (fnW m w)) := by
  subst hn hm
  refine okT F S (fun vs H Q E h => spW_len h) (fun cdv A outer s H vs Q E hr hsp => ?_)
  obtain ⟨t, ht⟩ := h cdv A outer s H E hr
  exact ⟨t, ht.ps, fn_sound S ht.sn hsp⟩
/-- behind «box = [.., 0]» a token is out -/
theorem pss_box {X : Cx} {i j : Nat} {x : Str} {de : Expr} {td : TE} {cpos lpos pos pos' : Pos} {rest : List Stmt} {u : TS} {z : Int} (hN : X.N.Nodup) (hd : PE X de td) (h2 : PSsT X rest u) (hi : X.N[i]? = some x := by rfl) (hx : Loc X.env.scope x := by first | exact Or.inl rfl | exact Or.inr rfl)
    (hs : swapsWith (.List [de, .Constant (.int z) j cpos] lpos) (some (.Name x pos')) pos.line X.env = pure false := by rfl) (hf : X.fn x = true ∨ X.env.scope.names.lookup x = some .local := by first | exact .inl rfl | exact .inr rfl)
    (he : starEach [de, .Constant (.int z) j cpos] X.env = (false, eval de X.env) :: starEach [.Constant (.int z) j cpos] X.env := by rfl) (he2 : starEach [.Constant (.int z) j cpos] X.env = (false, eval (.Constant (.int z) j cpos) X.env) :: starEach [] X.env := by rfl) :
    PSs X (.Assign [.Name x pos'] (.List [de, .Constant (.int z) j cpos] lpos) pos :: rest) (tSeq (tAsg (tLst (tCons td (tCons (tC (.int z)) tNil))) (gName i)) u) := by
  refine ⟨fun pins s σ H D I h => ?_⟩
  have pos1 : PET X (.Constant (.int z) j cpos) (tC (.int z)) := CwR.PET.of pe_int
  have core : wpAny (model X.prog X.w) X.A (eval (.List [de, .Constant (.int z) j cpos] lpos) X.env) (fun v s1 => 1 ≤ s1.toks ∧ EP X pins σ (fun v H1 => u D (σ.set i (some v)) H1) v s1) X.xe s := by
    refine wpAny_List_spliced ?_
    rw [he]
    show wpAny _ _ (spliced ((false, eval de X.env) :: backTo lpos (starEach [.Constant (.int z) j cpos] X.env))) _ _ s
    refine Calls.spliced_cons (thn (hd.run pins s σ H _ I h) fun v s1 q1 => ?_)
    obtain ⟨x1, H1, I1, r1, h1⟩ := q1
    rw [he2]
    show wpAny _ _ (spliced ((false, eval (.Constant (.int z) j cpos) X.env) :: backTo lpos (starEach [] X.env))) _ _ s1
    refine Calls.spliced_cons (wpAny_Constant_int (Calls.spliced_nil ?_))
    have hv : Vals [x1, V.int z] [v, Value.int z s1.toks] := .cons r1 (.cons ⟨_, rfl⟩ .nil)
    have I2 := I1.tok (s1.toks + 1)
    have hfr : H1 s1.heap.objs.size = none := I1.hok.fresh (Nat.le_refl _)
    refine ⟨h1.1, Nat.le_add_left _ _, .ref s1.heap.objs.size, upd H1 s1.heap.objs.size (.lst [x1, .int z]), I2.laid (t' := s1.toks + 1) (fun b ob eb => Heap.get?_push_of_some _ eb) (Nat.le_refl _) ?_, rfl, h1.2 _ hfr⟩
    exact ⟨h1.1, [v, Value.int z s1.toks], 0, hv, Heap.get?_push_size _ rfl⟩
  refine wpAny_execs_cons (wpAny_Assign_Name (thn core fun v s1 q1 => ?_) hs)
  obtain ⟨k1, y, H1, I1, r1, h1⟩ := q1
  refine wpAny_mono (PySem.wpAny_toks (store_ok (Q := fun _ s2 => Inv X pins (σ.set i (some y)) H1 s2) I1 hN hi hx r1 (fun _ I2 => I2) hf)) (fun _ s2 q2 => ?_) fun _ _ z => z.2
  exact h2 pins s2 _ H1 D (Nat.le_trans k1 q2.1) q2.2 h1
end Wy

set_option Elab.async false
set_option linter.all false
set_option maxRecDepth 100000
set_option maxHeartbeats 2000000
namespace Wy
open PySem PySem.Spec PyProof.Rows L2 Builtin Float
abbrev sp4 : Str := "04d"
theorem par4 : ∃ f, Builtin.Float.parseFormatSpec sp4.cps.toList "int" 62 = .ok f ∧ intSpecGood sp4 f = true ∧ f.width.getD 0 = 4 ∧ f.fill = 48 ∧ f.align = 61 := ⟨_, by with_unfolding_all rfl, by with_unfolding_all rfl, by with_unfolding_all rfl, by with_unfolding_all rfl, by with_unfolding_all rfl⟩
/-- a number of at most four figures, with noughts ahead -/
def four (a : Int) : Str := ⟨(List.replicate (4 - (Nat.toDigits 10 a.natAbs).length) 48).toArray⟩ ++ Str.ofString (toString a)
theorem spec4 {a : Int} {f : FormatSpec} (hp : Builtin.Float.parseFormatSpec sp4.cps.toList "int" 62 = .ok f) (h0 : 0 ≤ a) : intSpecText f a = four a := by
  obtain ⟨g, e, g1, g2, g3, g4⟩ := par4
  rw [hp] at e
  injection e with e
  subst e
  unfold intSpecGood at g1
  simp only [Bool.and_eq_true] at g1
  have r := intSpecText_zero (f := f) (a := a) (Option.isNone_iff_eq_none.mp g1.1.2) (Option.isNone_iff_eq_none.mp g1.2) g3 g4 h0
  rw [g2] at r
  exact r
section
variable {prog : Program} {w : World} {A : Around} {E : Value → Shared → Prop} {s : Shared}
set_option maxRecDepth 100000 in
theorem field4 {a : Int} {t : Tok} {Q : Value → Shared → Prop} (h0 : 0 ≤ a) (h4 : a < 10000)
    (h : Q (.str (four a) (s.toks + 1)) { s with toks := s.toks + 1 + 1 }) : wpAny (model prog w) A (formatField (.int a t) sp4) Q E s := by
  obtain ⟨f, hp, hg, hw, hf, ha⟩ := par4
  have e4 := spec4 hp h0
  rw [← e4] at h
  have hlen : (intSpecText f a).length ≤ sizeLine := by
    have hd : (Nat.toDigits 10 a.natAbs).length ≤ 4 := digits10_le (k := 4) (by decide) (by omega)
    have hi := intSpecFacts (f := f) a (by unfold intSpecGood at hg; simp only [Bool.and_eq_true] at hg; exact Option.isNone_iff_eq_none.mp hg.1.2) (by unfold intSpecGood at hg; simp only [Bool.and_eq_true] at hg; exact Option.isNone_iff_eq_none.mp hg.2)
    have := hi.lenNonneg h0
    rw [sizeLine_eq]
    omega
  have hlog : a.natAbs.log2 < 1920 := by
    by_cases hz : a.natAbs = 0
    · rw [hz]; decide
    · exact Nat.lt_trans ((Nat.log2_lt hz).mpr (show a.natAbs < 2 ^ 14 by omega)) (by decide)
  unfold intSpecGood at hg
  simp only [Bool.and_eq_true] at hg
  obtain ⟨⟨⟨⟨⟨⟨g1, g2⟩, g3⟩, g4⟩, g5⟩, g6⟩, g7⟩ := hg
  have hty := beq_iff_eq.mp g1
  have hpr := Option.isNone_iff_eq_none.mp g2
  have hz : f.noNeg0 = false := by simpa using g3
  have hal : f.alt = false := by simpa using g4
  have hgr := Option.isNone_iff_eq_none.mp g6
  have hsg := Option.isNone_iff_eq_none.mp g7
  have ten : ((10 : Nat) == 10) = true := rfl
  have hne : (sp4.length == 0) = false := by decide
  have hasc : ((sp4.cps.toList.drop 1).any (· ≥ 128) || (sp4.cps.getD 0 0 ≥ 128 && !([60, 62, 61, 94] : List Nat).contains (sp4.cps.getD 1 0))) = false := by decide
  show wpAny _ _ (holding [.int a t] (pyFormat (.int a t) sp4)) Q E s
  refine wpAny_holding ?_
  unfold pyFormat
  refine wpAny_bind (wpAny_mkStr ?_ (by decide))
  refine wpAny_bind (m := callSpecial? (.int a t) (Str.ofString "__format__") [.str sp4 s.toks])
    (wpAny_callSpecial?_slot (name := Str.ofString "__format__") (typeIs_int _ a t) F.slot_int_format ?_)
  refine wpAny_call (codeAny_call_builtin F.slot_int_format.plain F.entry_int_format
    (F.slot_int_format.check _ _ _ _ _ _ _ _ (typeIs_int _ a t) (F.args_int_format_2 _ _) ?_))
  unfold Builtin.«int.__format__»
  simp only [selfAndOne, noKeywords, Int.intOfSelf, asInt?, asStr?, List.isEmpty_nil, if_true, pure_bind, bind_pure, bind_assoc, hne, hasc, Bool.false_eq_true,
    if_false, show (Value.str sp4 s.toks == Value.none) = false from rfl]
  refine wpAny_bind (wpAny_typeNameOf (T := "str") (typeIs_str _ _ _) (by decide) fun _ => ?_)
  refine wpAny_bind (wpAny_typeNameOfCut_int ?_)
  simp only [hp, hty]
  rw [if_pos (by decide)]
  show wpAny _ _ (if _ then _ else _) _ _ _
  rw [if_neg (by simp [hpr])]
  show wpAny _ _ (if _ then _ else _) _ _ _
  rw [if_neg (by simp [hz])]
  show wpAny _ _ (if _ then _ else _) _ _ _
  rw [if_neg (by decide)]
  show wpAny _ _ (do let r ← Builtin.overDigitLimit? a; _) _ _ _
  rw [PySem.overDigitLimit_small hlog]
  show wpAny _ _ (if _ then _ else _) _ _ _
  rw [if_neg (by simp [hw])]
  show wpAny _ _ (retStr _) _ _ _
  unfold retStr
  refine wpAny_bind (wpAny_mkStr (wpAny_pure ?_) ?hs2)
  case hs2 =>
    simp only [hal, Bool.false_eq_true, if_false, ten, if_true]
    conv => lhs; arg 1; whnf
    simp only [intSpecText, intField', hgr, hsg, hal, Bool.false_eq_true, if_false, ten, if_true] at hlen ⊢
    exact hlen
  dsimp only
  refine wpAny_bind (wpAny_isInstance (typeIs_str _ _ _) isSubtype_str_str (wpAny_pure ?_))
  simp only [hal, Bool.false_eq_true, if_false, ten, if_true]
  conv => arg 1; arg 1; whnf
  simp only [intSpecText, intField', hgr, hsg, hal, Bool.false_eq_true, if_false, ten, if_true] at h ⊢
  exact h
end
/-! f'{x:04d}' of a number of at most four figures. -/
def oFour : O1 := fun x Q => match x with
  | .int i => 0 ≤ i ∧ i < 10000 ∧ Q (.str (four i))
  | _ => False
section
variable {X : Cx}
theorem pe_four {e : Expr} {te : TE} {k pos p1 p2 p3} (he : PE X e te) :
    PE X (.JoinedStr [.FormattedValue e (-1) (some (.JoinedStr [.Constant (.str sp4) k p1] p2)) p3] pos) (fun σ H Q => te σ H fun x H1 => ∃ i : Int, x = .int i ∧ 0 ≤ i ∧ i < 10000 ∧ Q (.str (four i)) H1) := by
  refine pe_fs1 ⟨fun pins s σ H Q I h => ?_⟩
  refine wpAny_FormattedValue_spec (thn (he.run pins s σ H _ I h) fun v s1 hv => ?_)
  obtain ⟨x, H1, I1, r1, i, rfl, h0, h4, q⟩ := hv
  obtain ⟨t, rfl⟩ := r1
  have sp := (pe_fs1 (X := X) (pos := p2) (pe_str (X := X) (x := sp4) (j := k) (pos := p1))).run pins s1 σ H1
  exact thn (sp (fun y H2 => y = .str sp4 ∧ H2 = H1) I1 ⟨rfl, rfl⟩) fun v2 s2 ⟨y, H2, I2, r2, ey, eh⟩ => by
    subst ey; subst eh
    obtain ⟨t2, rfl⟩ := r2
    exact ⟨sp4, t2, rfl, field4 h0 h4 ⟨.str (four i), H2, (I2.tok _), ⟨_, rfl⟩, q⟩⟩
theorem e_four {e : Expr} {te : TE} {we : EW} {k pos p1 p2 p3} (he : PEW X e te we) :
    PEW X (.JoinedStr [.FormattedValue e (-1) (some (.JoinedStr [.Constant (.str sp4) k p1] p2)) p3] pos) (fun σ H Q => te σ H fun x H1 => ∃ i : Int, x = .int i ∧ 0 ≤ i ∧ i < 10000 ∧ Q (.str (four i)) H1) (wUn oFour we) :=
  ⟨pe_four he.pe, fun bx T σ H δ Qd Q g e p q => he.sn bx T σ H δ _ _ g e (fun dx x H1 e1 b1 r1 h1 => by
    cases r1 with
    | int i => exact ⟨i, rfl, h1.1, h1.2.1, p _ _ H1 e1 b1 (.str _) h1.2.2⟩
    | _ => exact False.elim h1) q⟩
end
end Wy

set_option Elab.async false
set_option linter.all false
set_option maxRecDepth 100000
set_option maxHeartbeats 2000000
/-! M0: the readings of W terms as rewriting rules; texts as lists of signs. -/
namespace Wy
open PySem L2

open SX (S S_len S_cat S_inj in_one int_S num_S)
/-! ### the readings, applied -/
section
variable {δ : DE} {ρ : SE} {P : PsW} {Q : D → Prop} {QL : List D → Prop} {QB : Bool → Prop} {QO : Option Int → Prop} {a b c : EW} {t u : TW} {w v : SW} {ar : AW} {i j n : Nat} {d : D} {o p : O2} {f : O1} {ol : OL} {x y : D} {xs : List D}
theorem x_seq : wSeq w v ρ P = w ρ { nx := fun ρ' => v ρ' P, rt := P.rt, bk := P.bk, ct := P.ct } := id rfl
theorem x_asg : wAsg i a ρ P = a (vH ρ) fun d => P.nx (ρ.set i (some (.dat d))) := id rfl
theorem x_asgS : wAsgS i a ρ P = a (vF ρ) fun d => scal1 d = true ∧ P.nx (ρ.set i (some (.dat d))) := id rfl
theorem x_ret : wRet a ρ P = a (vF ρ) P.rt := id rfl
theorem x_retN : wRetN ρ P = P.rt .none := id rfl
theorem x_ifS : wIfS t w v ρ P = t (vF ρ) fun c => if c = true then w ρ P else v ρ P := id rfl
theorem x_next : wNext ρ P = P.nx ρ := id rfl
theorem x_drop : wDrop a ρ P = a (vF ρ) fun _ => P.nx ρ := id rfl
theorem x_break : wBreak ρ P = P.bk ρ := id rfl
theorem x_cont : wCont ρ P = P.ct ρ := id rfl
theorem x_frz : wFrz i w ρ P = w (frz i ρ) P := id rfl
theorem x_c : wC d δ Q = Q d := id rfl
theorem x_op : wOp o a b δ Q = a δ fun x => b δ fun y => o x y Q := id rfl
theorem x_un : wUn f a δ Q = a δ fun x => f x Q := id rfl
theorem x_if : wIf t a b δ Q = t δ fun c => if c = true then a δ Q else b δ Q := id rfl
theorem x_nil : wNil δ QL = QL [] := id rfl
theorem x_cons : wCons a ar δ QL = a δ fun x => ar δ fun xs => QL (x :: xs) := id rfl
theorem x_tup : wTup ar δ Q = ar δ fun xs => xs.length ≤ sizeLine ∧ Q (.tuple xs) := id rfl
theorem x_lst : wLst ar δ Q = ar δ fun xs => xs.length ≤ sizeLine ∧ Q (.list xs) := id rfl
theorem x_call : wCall ol ar δ Q = ar δ fun xs => ol xs Q := id rfl
theorem x_on1 : on1 f [x] Q = f x Q := id rfl
theorem x_fn : wFn n ol ar δ Q = ar δ fun ds => ds.length = n ∧ ol ds Q := id rfl
theorem x_and : wAnd t u δ QB = t δ fun c => if c = true then u δ QB else QB false := id rfl
theorem x_or : wOr t u δ QB = t δ fun c => if c = true then QB true else u δ QB := id rfl
theorem x_not : wNot t δ QB = t δ fun c => QB (!c) := id rfl
theorem x_bW : bW a δ QB = a δ fun d => match d with | .bool k => QB k | _ => False := id rfl
theorem x_tru : wTru a δ QB = a δ fun d => truD d QB := id rfl
theorem x_no : wNo δ QO = QO none := id rfl
theorem x_part : wPart a δ QO = a δ fun d => match d with | .int i => QO (some i) | _ => False := id rfl
theorem x_andV : wAndV a b δ Q = a δ fun d => match d with | .bool k => if k = true then b δ Q else Q (.bool false) | _ => False := id rfl
theorem x_orV : wOrV a b δ Q = a δ fun d => match d with | .bool k => if k = true then Q (.bool true) else b δ Q | _ => False := id rfl
theorem x_notV : wNotV a δ Q = a δ fun d => match d with | .bool k => Q (.bool (!k)) | _ => False := id rfl
theorem x_chain : wChain o p a b c δ Q = a δ fun x => b δ fun y => o x y fun z => match z with | .bool k => if k = true then c δ fun w => p y w Q else Q (.bool false) | _ => False := id rfl
theorem x_sl {lo hi : OW} : wSl a lo hi δ Q = a δ fun x => lo δ fun l => hi δ fun h => oSl x l h Q := id rfl
theorem x_m1 {g : Str → D → (D → Prop) → Prop} : wM1 g a b δ Q = a δ fun x => match x with | .str z => b δ fun y => g z y Q | _ => False := id rfl
theorem x_iter {QI : List D → Prop} : wIter a δ QI = a δ fun d => match itemsD d with | some ds => QI ds | none => False := id rfl
theorem x_rng1 {QI : List D → Prop} : wRng1 a δ QI = a δ fun d => match d with | .int j => (-(2 ^ 62) ≤ j ∧ j < 2 ^ 62) ∧ QI (rangeD 0 j.toNat) | _ => False := id rfl
theorem x_rng2 {QI : List D → Prop} : wRng2 a b δ QI = a δ fun x => b δ fun y => match x, y with | .int i, .int j => (-(2 ^ 62) ≤ i ∧ i < 2 ^ 62 ∧ -(2 ^ 62) ≤ j ∧ j < 2 ^ 62) ∧ QI (rangeD i (j - i).toNat) | _, _ => False := id rfl
theorem x_for {wi : IW} {is : List Nat} {un : D → Option (List D)} : wFor wi is un w ρ P = wi (vH ρ) fun ds => forD is un w ds ρ P := id rfl
theorem x_lc {wi : IW} {is vs : List Nat} {un : D → Option (List D)} : wLc wi is un t a vs δ Q = wi δ fun ds => lcN (wipeD δ vs) is un t a ds [] fun l => Q (.list l) := id rfl
theorem x_par : wPar i j ar ρ P = ar (vH ρ) fun ds => match ds with | [x, y] => P.nx ((ρ.set i (some (.dat x))).set j (some (.dat y))) | _ => False := id rfl
theorem x_fnW {ds : List D} : fnW n w ds Q = w (startS n ds) { nx := fun _ => Q .none, rt := Q } := id rfl
theorem x_repl {y z : Str} : wRepl a y z δ Q = a δ fun x => match x with | .str s => s.length + (s.length + 1) * z.length ≤ 16777216 ∧ Q (.str (Txt.replace s y z)) | _ => False := id rfl
theorem x_own {e : NW} : wOwn i e ρ P = e (vH ρ) fun l => P.nx (ρ.set i (some (.own l))) := id rfl
theorem x_vF {s : Option Sl} : vF (s :: ρ) = slF s :: vF ρ := id rfl
theorem x_vH {s : Option Sl} : vH (s :: ρ) = slH s :: vH ρ := id rfl
theorem x_vF0 : vF [] = [] := id rfl
theorem x_vH0 : vH [] = [] := id rfl
theorem x_slFd : slF (some (.dat d)) = some d := id rfl
theorem x_slHd : slH (some (.dat d)) = some d := id rfl
theorem x_slFo : slF (some (.own xs)) = some (.list xs) := id rfl
theorem x_slHo : slH (some (.own xs)) = none := id rfl
theorem x_var0 : wVar 0 (some d :: δ) Q = Q d := id rfl
theorem x_varS {z : Option D} : wVar (i + 1) (z :: δ) Q = wVar i δ Q := id rfl
theorem x_aug0 {x : D} : wAug 0 o a (some (.dat x) :: ρ) P = a (vF (some (.dat x) :: ρ)) fun y => o x y fun z => scal1 z = true ∧ P.nx (some (.dat z) :: ρ) := id rfl
theorem x_aug1 {s0} {x : D} : wAug 1 o a (s0 :: some (.dat x) :: ρ) P = a (vF (s0 :: some (.dat x) :: ρ)) fun y => o x y fun z => scal1 z = true ∧ P.nx (s0 :: some (.dat z) :: ρ) := id rfl
theorem x_aug2 {s0 s1} {x : D} : wAug 2 o a (s0 :: s1 :: some (.dat x) :: ρ) P = a (vF (s0 :: s1 :: some (.dat x) :: ρ)) fun y => o x y fun z => scal1 z = true ∧ P.nx (s0 :: s1 :: some (.dat z) :: ρ) := id rfl
theorem x_truB {b : Bool} : truD (.bool b) QB = QB b := id rfl
theorem x_truL : truD (.list xs) QB = QB (!xs.isEmpty) := id rfl
theorem x_truT : truD (.tuple xs) QB = QB (!xs.isEmpty) := id rfl
theorem x_truI {i : Int} : truD (.int i) QB = QB (i != 0) := id rfl
theorem x_app {l : List D} (h : ρ[i]? = some (some (.own l))) : wApp i a ρ P = a (vH ρ) fun d => l.length < sizeLine ∧ P.nx (ρ.set i (some (.own (l ++ [d])))) := by unfold wApp; rw [h]
/-! ### ops -/
theorem o_addI {i j : Int} : oAdd (.int i) (.int j) Q = Q (.int (i + j)) := id rfl
theorem o_iaddI {i j : Int} : oIadd (.int i) (.int j) Q = Q (.int (i + j)) := id rfl
theorem o_subI {i j : Int} : oSub (.int i) (.int j) Q = Q (.int (i - j)) := id rfl
theorem o_mulI {i j : Int} : oMul (.int i) (.int j) Q = (CMul i j ∧ Q (.int (i * j))) := id rfl
theorem o_divI {i j : Int} : oDiv (.int i) (.int j) Q = (CDiv i j ∧ Q (.int (i / j))) := id rfl
theorem o_modI {i j : Int} : oMod (.int i) (.int j) Q = (0 < j ∧ Q (.int (i % j))) := id rfl
theorem o_negI {i : Int} : oNeg (.int i) Q = Q (.int (-i)) := id rfl
theorem o_addL {l m : List D} : oAdd (.list l) (.list m) Q = (l.length + m.length ≤ sizeLine ∧ Q (.list (l ++ m))) := id rfl
theorem o_addT {l m : List D} : oAdd (.tuple l) (.tuple m) Q = (l.length + m.length ≤ sizeLine ∧ Q (.tuple (l ++ m))) := id rfl
theorem o_addS {l m : List Nat} : oAdd (.str (S l)) (.str (S m)) Q = (l.length + m.length ≤ 16777216 ∧ Q (.str (S (l ++ m)))) := by
  show ((S l).length + (S m).length ≤ sizeLine ∧ Q (.str (S l ++ S m))) = _
  rw [S_len, S_len, S_cat, sizeLine_eq]
theorem o_iaddS {l m : List Nat} : oIadd (.str (S l)) (.str (S m)) Q = (l.length + m.length ≤ 16777216 ∧ Q (.str (S (l ++ m)))) := o_addS
theorem o_lenS {l : List Nat} : oLen (.str (S l)) Q = (l.length ≤ 16777216 ∧ Q (.int (l.length : Nat))) := by
  show ((S l).length ≤ sizeLine ∧ Q (.int (S l).length)) = _
  rw [S_len, sizeLine_eq]
theorem o_lenL : oLen (.list xs) Q = Q (.int (xs.length : Nat)) := id rfl
theorem o_lenT : oLen (.tuple xs) Q = Q (.int (xs.length : Nat)) := id rfl
theorem o_ltI {i j : Int} : oLt (.int i) (.int j) Q = Q (.bool (decide (i < j))) := id rfl
theorem o_leI {i j : Int} : oLe (.int i) (.int j) Q = Q (.bool (decide (i ≤ j))) := id rfl
theorem o_gtI {i j : Int} : oGt (.int i) (.int j) Q = Q (.bool (decide (j < i))) := id rfl
theorem o_geI {i j : Int} : oGe (.int i) (.int j) Q = Q (.bool (decide (j ≤ i))) := id rfl
theorem scS {a b : Str} : eqOk (.str a) (.str b) := Or.inl rfl
theorem S_dec {l m : List Nat} : (S l == S m) = decide (l = m) := SX.S_beq_eq
theorem o_eqS {l m : List Nat} : oEq (.str (S l)) (.str (S m)) Q = Q (.bool (decide (l = m))) := by
  show (eqOk (.str (S l)) (.str (S m)) ∧ Q (.bool (PyData.eqv (.str (S l)) (.str (S m))))) = _
  rw [show PyData.eqv (.str (S l)) (.str (S m)) = (S l == S m) by rw [PyData.eqv], S_dec]
  exact propext ⟨fun h => h.2, fun h => ⟨scS, h⟩⟩
theorem o_neS {l m : List Nat} : oNe (.str (S l)) (.str (S m)) Q = Q (.bool (!decide (l = m))) := by
  show (eqOk (.str (S l)) (.str (S m)) ∧ Q (.bool (!PyData.eqv (.str (S l)) (.str (S m))))) = _
  rw [show PyData.eqv (.str (S l)) (.str (S m)) = (S l == S m) by rw [PyData.eqv], S_dec]
  exact propext ⟨fun h => h.2, fun h => ⟨scS, h⟩⟩
theorem o_eqSr {a b : Str} : oEq (.str a) (.str b) Q = Q (.bool (a == b)) := by
  show (eqOk (.str a) (.str b) ∧ Q (.bool (PyData.eqv (.str a) (.str b)))) = _
  rw [show PyData.eqv (.str a) (.str b) = (a == b) by rw [PyData.eqv]]
  exact propext ⟨fun h => h.2, fun h => ⟨scS, h⟩⟩
theorem o_eqI {i j : Int} : oEq (.int i) (.int j) Q = Q (.bool (decide (i = j))) := by
  show (eqOk (.int i) (.int j) ∧ Q (.bool (PyData.eqv (.int i) (.int j)))) = _
  rw [show PyData.eqv (.int i) (.int j) = (i == j) by rw [PyData.eqv], show (i == j) = decide (i = j) from by by_cases h : i = j <;> simp [h]]
  exact propext ⟨fun h => h.2, fun h => ⟨Or.inl rfl, h⟩⟩
theorem o_neI {i j : Int} : oNe (.int i) (.int j) Q = Q (.bool (!decide (i = j))) := by
  show (eqOk (.int i) (.int j) ∧ Q (.bool (!PyData.eqv (.int i) (.int j)))) = _
  rw [show PyData.eqv (.int i) (.int j) = (i == j) by rw [PyData.eqv], show (i == j) = decide (i = j) from by by_cases h : i = j <;> simp [h]]
  exact propext ⟨fun h => h.2, fun h => ⟨Or.inl rfl, h⟩⟩
theorem o_isN : oIsN d .none Q = Q (.bool (isNone d)) := propext ⟨fun h => h.2, fun h => ⟨rfl, h⟩⟩
theorem o_notN : oNotN d .none Q = Q (.bool (!isNone d)) := propext ⟨fun h => h.2, fun h => ⟨rfl, h⟩⟩
theorem o_isBv {k : Bool} : oIsB d (.bool k) Q = Q (.bool (isBool k d)) := id rfl
theorem o_ordS {k : Nat} : oOrd (.str (S [k])) Q = Q (.int (k : Nat)) := propext ⟨fun h => h.2, fun h => ⟨rfl, h⟩⟩
theorem o_intI {i : Int} : oInt (.int i) Q = Q (.int i) := id rfl
theorem o_strI {k : Nat} : oStr (.int (k : Nat)) Q = (k.log2 < 1920 ∧ Q (.str (S (TL.numL k)))) := by
  show ((k : Int).natAbs.log2 < 1920 ∧ Q (.str (Str.ofString (toString (k : Int))))) = _
  rw [num_S]; rfl
theorem o_inC {z : List Nat} {k : Nat} : oInB false (.str (S [k])) (.str (S z)) Q = Q (.bool (decide (k ∈ z))) := by
  show Q (.bool (subIn (S z) (S [k]))) = _
  rw [show subIn (S z) (S [k]) = _ from in_one z k]
theorem o_ninC {z : List Nat} {k : Nat} : oInB true (.str (S [k])) (.str (S z)) Q = Q (.bool (!decide (k ∈ z))) := by
  show Q (.bool (!subIn (S z) (S [k]))) = _
  rw [show subIn (S z) (S [k]) = _ from in_one z k]
theorem isi_n {T : String} : oIsi T .none Q = Q (.bool (T == "NoneType")) := propext ⟨And.right, fun h => ⟨trivial, h⟩⟩
theorem isi_b {T : String} {k : Bool} : oIsi T (.bool k) Q = Q (.bool (T == "bool" || T == "int")) := propext ⟨And.right, fun h => ⟨trivial, h⟩⟩
theorem isi_i {T : String} {i : Int} : oIsi T (.int i) Q = Q (.bool (T == "int")) := propext ⟨And.right, fun h => ⟨trivial, h⟩⟩
theorem isi_s {T : String} {z : Str} : oIsi T (.str z) Q = Q (.bool (T == "str")) := propext ⟨And.right, fun h => ⟨trivial, h⟩⟩
theorem isi_l {T : String} : oIsi T (.list xs) Q = Q (.bool (T == "list")) := propext ⟨And.right, fun h => ⟨trivial, h⟩⟩
theorem isi_t {T : String} : oIsi T (.tuple xs) Q = Q (.bool (T == "tuple")) := propext ⟨And.right, fun h => ⟨trivial, h⟩⟩
theorem o_repr {z : Str} : oRepr (.str z) Q = ((reprText z).length ≤ sizeLine ∧ Q (.str (reprText z))) := id rfl
theorem o_reprI {i : Int} : oRepr (.int i) Q = (i.natAbs.log2 < 1920 ∧ Q (.str (toString i))) := id rfl
theorem sEq : ("str" == "int") = false ∧ ("str" == "NoneType") = false ∧ ("str" == "bool") = false ∧ ("str" == "tuple") = false ∧ ("str" == "list") = false ∧ ("int" == "NoneType") = false ∧ ("int" == "bool") = false ∧ ("int" == "str") = false ∧ ("int" == "tuple") = false ∧ ("int" == "list") = false
    ∧ ("tuple" == "NoneType") = false ∧ ("tuple" == "bool") = false ∧ ("tuple" == "str") = false ∧ ("tuple" == "int") = false ∧ ("tuple" == "list") = false ∧ ("list" == "NoneType") = false ∧ ("list" == "bool") = false ∧ ("list" == "str") = false ∧ ("list" == "int") = false ∧ ("list" == "tuple") = false
    ∧ ("bool" == "NoneType") = false ∧ ("bool" == "str") = false ∧ ("bool" == "int") = false ∧ ("bool" == "tuple") = false ∧ ("bool" == "list") = false := by decide +kernel
theorem at_nat {α : Type} {l : List α} {i : Nat} {v : α} (h : l[i]? = some v) : atI l (i : Int) = some v := atI_nat h
theorem o_ixS {l : List Nat} {i : Int} {k : Nat} (h : atI l i = some k) : oIx (.str (S l)) (.int i) Q = (l.length ≤ 16777216 ∧ Q (.str (S [k]))) := by
  show ((S l).length ≤ sizeLine ∧ ∃ c, atI (S l).cps.toList i = some c ∧ Q (.str ⟨#[c]⟩)) = _
  rw [S_len, sizeLine_eq]
  refine propext ⟨fun h' => ?_, fun h' => ⟨h'.1, k, h, h'.2⟩⟩
  obtain ⟨h1, c, h2, h3⟩ := h'
  have : some c = some k := h2.symm.trans h
  cases this
  exact ⟨h1, h3⟩
theorem o_ixL {i : Int} {d : D} (h : atI xs i = some d) : oIx (.list xs) (.int i) Q = Q d := by
  show (∃ e, atI xs i = some e ∧ Q e) = _
  refine propext ⟨fun ⟨e, h1, h2⟩ => ?_, fun h' => ⟨d, h, h'⟩⟩
  rw [h] at h1; cases h1; exact h2
theorem o_ixT {i : Int} {d : D} (h : atI xs i = some d) : oIx (.tuple xs) (.int i) Q = Q d := by
  show (∃ e, atI xs i = some e ∧ Q e) = _
  refine propext ⟨fun ⟨e, h1, h2⟩ => ?_, fun h' => ⟨d, h, h'⟩⟩
  rw [h] at h1; cases h1; exact h2
theorem cut_mid {l : List Nat} {i j : Int} (hi : 0 ≤ i) (hj : 0 ≤ j) : cutS (S l) (some i) (some j) = S ((l.drop i.toNat).take (j.toNat - i.toNat)) := by
  unfold cutS HT.sIx
  rw [S_len]
  show (⟨((l.drop (if i < 0 then _ else min i.toNat l.length)).take ((if j < 0 then _ else min j.toNat l.length) - (if i < 0 then _ else min i.toNat l.length))).toArray⟩ : Str) = _
  rw [if_neg (by omega), if_neg (by omega)]
  congr 2
  by_cases h : i.toNat ≤ l.length
  · rw [Nat.min_eq_left h]
    by_cases h2 : j.toNat ≤ l.length
    · rw [Nat.min_eq_left h2]
    · rw [Nat.min_eq_right (by omega), List.take_of_length_le (by rw [List.length_drop]; omega), List.take_of_length_le (by rw [List.length_drop]; omega)]
  · have e : min i.toNat l.length = l.length := Nat.min_eq_right (by omega)
    rw [e, List.drop_of_length_le (Nat.le_refl _), List.drop_of_length_le (show l.length ≤ i.toNat by omega), List.take_nil, List.take_nil]
theorem cut_to {l : List Nat} {j : Int} (hj : 0 ≤ j) : cutS (S l) none (some j) = S (l.take j.toNat) := by
  unfold cutS HT.sIx
  rw [S_len]
  show (⟨((l.drop 0).take ((if j < 0 then _ else min j.toNat l.length) - 0)).toArray⟩ : Str) = _
  rw [if_neg (by omega), List.drop_zero, Nat.sub_zero]
  congr 2
  by_cases h2 : j.toNat ≤ l.length
  · rw [Nat.min_eq_left h2]
  · rw [Nat.min_eq_right (by omega), List.take_of_length_le (by omega), List.take_of_length_le (by omega)]
theorem cut_from {l : List Nat} {i : Int} (hi : 0 ≤ i) : cutS (S l) (some i) none = S (l.drop i.toNat) := by
  unfold cutS HT.sIx
  rw [S_len]
  show (⟨((l.drop (if i < 0 then _ else min i.toNat l.length)).take (l.length - (if i < 0 then _ else min i.toNat l.length))).toArray⟩ : Str) = _
  rw [if_neg (by omega)]
  congr 2
  by_cases h : i.toNat ≤ l.length
  · rw [Nat.min_eq_left h, List.take_of_length_le (by rw [List.length_drop]; omega)]
  · have e : min i.toNat l.length = l.length := Nat.min_eq_right (by omega)
    rw [e, List.drop_of_length_le (Nat.le_refl _), List.drop_of_length_le (show l.length ≤ i.toNat by omega), List.take_nil]
theorem o_slMid {l : List Nat} {i j : Int} (hi : 0 ≤ i) (hj : 0 ≤ j) : oSl (.str (S l)) (some i) (some j) Q = (l.length ≤ 16777216 ∧ Q (.str (S ((l.drop i.toNat).take (j.toNat - i.toNat))))) := by
  show ((S l).length ≤ sizeLine ∧ Q (.str (cutS (S l) (some i) (some j)))) = _
  rw [S_len, sizeLine_eq, cut_mid hi hj]
theorem o_slTo {l : List Nat} {j : Int} (hj : 0 ≤ j) : oSl (.str (S l)) none (some j) Q = (l.length ≤ 16777216 ∧ Q (.str (S (l.take j.toNat)))) := by
  show ((S l).length ≤ sizeLine ∧ Q (.str (cutS (S l) none (some j)))) = _
  rw [S_len, sizeLine_eq, cut_to hj]
theorem o_slFrom {l : List Nat} {i : Int} (hi : 0 ≤ i) : oSl (.str (S l)) (some i) none Q = (l.length ≤ 16777216 ∧ Q (.str (S (l.drop i.toNat)))) := by
  show ((S l).length ≤ sizeLine ∧ Q (.str (cutS (S l) (some i) none))) = _
  rw [S_len, sizeLine_eq, cut_from hi]
theorem items_S {l : List Nat} : itemsD (.str (S l)) = some (l.map fun c => PyData.str (S [c])) := id rfl
theorem items_L : itemsD (.list xs) = some xs := id rfl
theorem items_T : itemsD (.tuple xs) = some xs := id rfl
end
theorem log2_of_lt {n k : Nat} (hk : 0 < k) (h : n < 2 ^ k) : n.log2 < k := by
  by_cases hz : n = 0
  · rw [hz]; exact hk
  · exact (Nat.log2_lt hz).mpr h
theorem repl1 (c : Nat) (w : List Nat) : ∀ l : List Nat, StrLaws.replL [c] w l = l.flatMap fun x => if x = c then w else [x]
  | [] => StrLaws.replL_nil
  | x :: l => by
    rw [List.flatMap_cons]
    by_cases h : x = c
    · rw [StrLaws.replL_hit (by simp) (by rw [h]; rfl), if_pos h, ← repl1 c w l]; rfl
    · rw [StrLaws.replL_miss (by show ¬ [x] = [c]; simpa using h), if_neg h, ← repl1 c w l]; rfl
theorem repl_S (l w : List Nat) (c : Nat) : Txt.replace (S l) (S [c]) (S w) = S (l.flatMap fun x => if x = c then w else [x]) := by
  rw [← repl1]
  exact TL.ext_tl (StrLaws.replace_list (x := S l) (y := S [c]) (z := S w) (Nat.le_refl 1))
theorem cut_neg {l : List Nat} {k : Nat} (hk : 0 < k) : cutS (S l) (some (-(k : Int))) none = S (l.drop (l.length - k)) := by
  unfold cutS HT.sIx
  rw [S_len]
  show (⟨((l.drop (if (-(k : Int)) < 0 then ((-(k : Int)) + (l.length : Int)).toNat else _)).take (l.length - (if (-(k : Int)) < 0 then ((-(k : Int)) + (l.length : Int)).toNat else _))).toArray⟩ : Str) = _
  rw [if_pos (by omega), show ((-(k : Int)) + (l.length : Int)).toNat = l.length - k by omega, List.take_of_length_le (by rw [List.length_drop]; omega)]
/-! ### loops -/
/-- a for loop by what holds ahead of each turn -/
theorem for_inv {is : List Nat} {un : D → Option (List D)} {b : SW} (I : List D → SE → Prop) {P : PsW}
    (step : ∀ d r ρ, I (d :: r) ρ → ∀ P' : PsW, (∀ ρ', I r ρ' → P'.nx ρ') → (∀ ρ', I r ρ' → P'.ct ρ') → P'.bk = P.nx → P'.rt = P.rt → ∃ ds, un d = some ds ∧ b (putS ρ is ds) P')
    (done : ∀ ρ, I [] ρ → P.nx ρ) : ∀ (ds : List D) (ρ : SE), I ds ρ → forD is un b ds ρ P
  | [], ρ, h => done ρ h
  | d :: r, ρ, h => step d r ρ h _ (fun ρ' h' => for_inv I step done r ρ' h') (fun ρ' h' => for_inv I step done r ρ' h') rfl rfl
/-- a while loop by what holds ahead of each turn, and behind the last -/
theorem while_rule {t : TW} {b : SW} {ρ : SE} {P : PsW} (I : Nat → SE → Prop) (E : SE → Prop) (h0 : ∃ m, I m ρ)
    (step : ∀ X : SE → Prop, (∀ ρ, E ρ → X ρ) → ∀ m ρ, I m ρ → t (vF ρ) fun c => if c = true then b ρ { nx := fun ρ' => ∃ m', m' < m ∧ I m' ρ', ct := fun ρ' => ∃ m', m' < m ∧ I m' ρ', bk := X, rt := P.rt } else X ρ)
    (exit : ∀ ρ, E ρ → P.nx ρ) : wWhile t b ρ P := ⟨I, h0, fun m ρ h => step P.nx exit m ρ h⟩
/-- a list comprehension, read by functions -/
theorem lc_sel {δ : DE} {is : List Nat} {u : D → Option (List D)} {wt : TW} {we : EW} {Q : List D → Prop} (p : D → Bool) (f : D → D) : ∀ (ds acc : List D),
    (∀ d ∈ ds, ∃ es, u d = some es ∧ (∀ QB : Bool → Prop, QB (p d) → wt (putD δ is es) QB) ∧ (p d = true → ∀ R : D → Prop, R (f d) → we (putD δ is es) R)) → acc.length + ds.length ≤ 16777216 →
    Q (acc ++ (ds.filter p).map f) → lcN δ is u wt we ds acc Q
  | [], acc, _, _, h => by rw [List.filter_nil, List.map_nil, List.append_nil] at h; exact h
  | d :: ds, acc, hs, hl, h => by
    obtain ⟨es, h1, h2, h3⟩ := hs d List.mem_cons_self
    rw [List.length_cons] at hl
    refine ⟨es, h1, h2 _ ?_⟩
    cases e : p d with
    | true =>
      rw [List.filter_cons_of_pos e, List.map_cons] at h
      refine h3 e _ ⟨by rw [sizeLine_eq]; omega, lc_sel p f ds _ (fun x hx => hs x (List.mem_cons_of_mem _ hx)) (by rw [List.length_append, List.length_singleton]; omega) ?_⟩
      rw [List.append_assoc]
      exact h
    | false =>
      rw [List.filter_cons_of_neg (by rw [e]; decide)] at h
      exact lc_sel p f ds _ (fun x hx => hs x (List.mem_cons_of_mem _ hx)) (by omega) h
/-- a list comprehension whose items are drawn -/
theorem lc_any {δ : DE} {is : List Nat} {u : D → Option (List D)} {we : EW} {Q : List D → Prop} (E : D → Prop) : ∀ (ds acc : List D),
    (∀ d ∈ ds, ∃ es, u d = some es ∧ ∀ R : D → Prop, (∀ y, E y → R y) → we (putD δ is es) R) → acc.length + ds.length ≤ 16777216 →
    (∀ ys, ys.length = ds.length → (∀ y ∈ ys, E y) → Q (acc ++ ys)) → lcN δ is u wYes we ds acc Q
  | [], acc, _, _, h => by have := h [] rfl (fun _ z => by cases z); rw [List.append_nil] at this; exact this
  | d :: ds, acc, hs, hl, h => by
    obtain ⟨es, h1, h3⟩ := hs d List.mem_cons_self
    rw [List.length_cons] at hl
    refine ⟨es, h1, ?_⟩
    show we (putD δ is es) fun y => acc.length < sizeLine ∧ lcN δ is u wYes we ds (acc ++ [y]) Q
    refine h3 _ fun y hy => ⟨by rw [sizeLine_eq]; omega, lc_any E ds _ (fun x hx => hs x (List.mem_cons_of_mem _ hx)) (by rw [List.length_append, List.length_singleton]; omega) fun ys e1 e2 => ?_⟩
    rw [List.append_assoc]
    refine h (y :: ys) (by rw [List.length_cons, List.length_cons, e1]) fun x hx => ?_
    rcases List.mem_cons.mp hx with rfl | hx
    · exact hy
    · exact e2 x hx
theorem rangeD_zero (lo : Int) : rangeD lo 0 = [] := rfl
theorem rangeD_succ (lo : Int) (n : Nat) : rangeD lo (n + 1) = .int lo :: rangeD (lo + 1) n := by
  unfold rangeD
  rw [List.range_succ_eq_map, List.map_cons, List.map_map]
  congr 1
  · show PyData.int (lo + (0 : Int)) = _; rw [Int.add_zero]
  · refine List.map_congr_left fun i _ => ?_
    show PyData.int (lo + ((i + 1 : Nat) : Int)) = .int (lo + 1 + (i : Int))
    congr 1
    omega
/-- flat data of bounded signs -/
def flatOk : D → Prop
  | .none => True
  | .bool _ => True
  | .int _ => True
  | .str x => PyData.strOk x = true
  | _ => False
theorem flats_lay : ∀ {ds : List D}, (∀ d ∈ ds, flatOk d) → PyData.canLayAll0 ds = true ∧ PyData.depthAll ds = 0
  | [], _ => ⟨by rw [PyData.canLayAll0], by rw [PyData.depthAll]⟩
  | d :: ds, h => by
    have h1 := h d List.mem_cons_self
    have h2 := flats_lay (ds := ds) fun x hx => h x (List.mem_cons_of_mem _ hx)
    rw [PyData.canLayAll0, PyData.depthAll, h2.1, h2.2]
    cases d with
    | none => exact ⟨by rw [PyData.canLay0]; rfl, by rw [PyData.depth]; rfl⟩
    | bool _ => exact ⟨by rw [PyData.canLay0]; rfl, by rw [PyData.depth]; rfl⟩
    | int _ => exact ⟨by rw [PyData.canLay0]; rfl, by rw [PyData.depth]; rfl⟩
    | str x => exact ⟨by rw [PyData.canLay0, show PyData.strOk x = true from h1]; rfl, by rw [PyData.depth]; rfl⟩
    | list _ => exact h1.elim
    | tuple _ => exact h1.elim
    | dict _ => exact h1.elim
theorem shaped_flats {ds : List D} (h : ∀ d ∈ ds, flatOk d) : SeqAt.shaped (.list ds) = true := by
  unfold SeqAt.shaped
  rw [PyData.canLay0, PyData.depth, (flats_lay h).1, (flats_lay h).2]
  rfl
theorem strOk_S {l : List Nat} (h : ∀ c ∈ l, c < 0x110000) : PyData.strOk (S l) = true := by
  unfold PyData.strOk
  show (S l).cps.all _ = true
  rw [show (S l).cps = l.toArray from rfl, List.all_toArray, List.all_eq_true]
  intro c hc
  exact decide_eq_true (h c hc)
theorem o_eqNil {ds : List D} {Q : D → Prop} (h : ∀ d ∈ ds, flatOk d) : oEq (.list ds) (.list []) Q = Q (.bool ds.isEmpty) := by
  show (eqOk _ _ ∧ Q (.bool (PyData.eqv (.list ds) (.list [])))) = _
  have e : PyData.eqv (.list ds) (.list []) = ds.isEmpty := by
    rw [PyData.eqv]
    cases ds <;> rw [PyData.eqvAll] <;> rfl
  rw [e]
  exact propext ⟨fun z => z.2, fun z => ⟨Or.inr ⟨shaped_flats h, shaped_flats (fun _ q => by cases q)⟩, z⟩⟩
theorem forD_nil {is : List Nat} {un : D → Option (List D)} {b : SW} {ρ : SE} {P : PsW} (h : P.nx ρ) : forD is un b [] ρ P := h
theorem forD_cons {is : List Nat} {un : D → Option (List D)} {b : SW} {ρ : SE} {P : PsW} {d : D} {r ds : List D} (hu : un d = some ds)
    (h : b (putS ρ is ds) { nx := fun ρ' => forD is un b r ρ' P, ct := fun ρ' => forD is un b r ρ' P, bk := P.nx, rt := P.rt }) : forD is un b (d :: r) ρ P := ⟨ds, hu, h⟩
end Wy

set_option Elab.async false
set_option linter.all false
set_option maxRecDepth 100000
set_option maxHeartbeats 2000000
/-! W13: data that may stand in a set or be a key: their hash, what a search asks of them. -/
namespace Wy
open PySem PySem.Spec PyProof.Rows L2
mutual
def keyOkD : D → Bool
  | .none => true
  | .bool _ => true
  | .int _ => true
  | .str _ => true
  | .tuple xs => keysOkD xs
  | .list _ => false
  | .dict _ => false
def keysOkD : List D → Bool
  | [] => true
  | x :: r => keyOkD x && keysOkD r
end
mutual
def hashD (P : Params) : D → Int
  | .none => 0xFCA86420
  | .bool b => if b then 1 else 0
  | .int i => hashInt i
  | .str x => PyData.keyHash P x
  | .tuple xs => reduceHash (Builtin.Tuple.tupleHashOf (hashesD P xs))
  | .list _ => 0
  | .dict _ => 0
def hashesD (P : Params) : List D → List Int
  | [] => []
  | x :: r => hashD P x :: hashesD P r
end
section
variable {prog : Program} {w : World} {E : Value → Shared → Prop}
set_option maxRecDepth 100000 in
mutual
theorem hash_at : ∀ (d : D) (v : Value) (as : List Addr) (A : Around) (s : Shared) (Q : Int → Shared → Prop), keyOkD d = true → Reads s.heap v d as →
    A.units + d.depth < cLine → (∀ n, Q (hashD w.params d) { s with toks := n }) → wpAny (model prog w) A (pyHash v) Q E s
  | .none, v, as, A, s, Q, _, r, hu, h => by
    cases r
    refine PySem.W.pyHash_slot (T := "NoneType") rfl F.slot_NoneType_hash F.entry_NoneType_hash
      (F.args_NoneType_hash_1 _) (beq_builtin_none _) (.inr (by omega)) ?_
    exact wpAny_bind (wpAny_pure (wpAny_bind (wpAny_mkInt (wpAny_pure
      ⟨_, _, rfl, by have z := h (s.toks + 1); rw [hashD] at z; exact z⟩))))
  | .bool b, v, as, A, s, Q, _, r, hu, h => by
    cases r
    refine PySem.W.pyHash_slot (T := "bool") rfl F.slot_bool_hash entry_int_hash
      (args_int_hash _) (beq_builtin_none _) (.inr (by omega)) ?_
    have z := h (s.toks + 1)
    rw [hashD] at z
    cases b
    · exact (show wpAny _ _ (do ret (← mkInt 0)) _ _ s from wpAny_bind (wpAny_mkInt (wpAny_pure ⟨_, _, rfl, z⟩)))
    · exact (show wpAny _ _ (do ret (← mkInt 1)) _ _ s from wpAny_bind (wpAny_mkInt (wpAny_pure ⟨_, _, rfl, z⟩)))
  | .int i, v, as, A, s, Q, _, r, _, h => by
    cases r
    have z := h (s.toks + 1)
    rw [hashD] at z
    exact wpAny_pyHash_int z
  | .str x, v, as, A, s, Q, _, r, _, h => by
    cases r
    have z := h (s.toks + 1)
    rw [hashD] at z
    exact wpAny_pyHash_str z
  | .tuple xs, v, as, A, s, Q, hk, r, hu, h => by
    rw [keyOkD] at hk
    cases r with
    | @tuple a o vs n _ _ ho hc hd ra =>
      refine PySem.W.pyHash_slot (T := "tuple") ⟨o, ho, hc⟩ F.slot_tuple_hash F.entry_tuple_hash
        (F.args_tuple_hash_1 _) (beq_builtin_none _) (.inr (by omega)) ?_
      show wpAny _ _ (Builtin.Tuple.tupleItemsOf (.ref a) >>= _) _ _ s
      refine wpAny_bind (wpAny_tupleItemsOf ho hd ?_)
      refine wpAny_bind ?_
      rw [← Array.forIn_toList]
      refine hashes_at xs vs.toList _ A.in1 s #[] _ hk ra (by rw [PyData.depth] at hu; rw [Around.in1_units]; omega) fun m b hb => ?_
      show wpAny _ _ (retInt (Builtin.Tuple.tupleHashOf b.toList)) _ _ _
      rw [hb, List.nil_append]
      have z := h (m + 1)
      rw [hashD] at z
      exact wpAny_bind (wpAny_mkInt (wpAny_pure ⟨_, _, rfl, z⟩))
  | .list _, v, as, A, s, Q, hk, _, _, _ => by rw [keyOkD] at hk; cases hk
  | .dict _, v, as, A, s, Q, hk, _, _, _ => by rw [keyOkD] at hk; cases hk
theorem hashes_at : ∀ (xs : List D) (vs : List Value) (as : List Addr) (A : Around) (s : Shared) (b : Array Int) (Q : Array Int → Shared → Prop), keysOkD xs = true → ReadsAll s.heap vs xs as →
    A.units + PyData.depthAll xs < cLine → (∀ m (b' : Array Int), b'.toList = b.toList ++ hashesD w.params xs → Q b' { s with toks := m }) →
    wpAny (model prog w) A (forIn vs b fun x r => do let h ← pyHash x; pure PUnit.unit; pure (ForInStep.yield (r.push h))) Q E s
  | [], vs, as, A, s, b, Q, _, r, _, h => by
    cases r
    exact wpAny_pure (h s.toks b (by rw [hashesD, List.append_nil]))
  | x :: xs, vs, as, A, s, b, Q, hk, r, hu, h => by
    rw [keysOkD, Bool.and_eq_true] at hk
    rw [PyData.depthAll] at hu
    cases r with
    | cons r1 r2 =>
      rw [List.forIn_cons]
      refine wpAny_bind (wpAny_bind (hash_at x _ _ A s _ hk.1 r1 (by omega) fun m => ?_))
      refine wpAny_bind (wpAny_pure (wpAny_pure ?_))
      refine hashes_at xs _ _ A _ _ Q hk.2 r2 (by omega) fun m' b' hb => h m' b' ?_
      rw [hb, hashesD, Array.toList_push, List.append_assoc]; rfl
end
end
theorem keys_mem {h : Heap} : ∀ {xs : List D} {vs : List Value} {as : List Addr}, ReadsAll h vs xs as → keysOkD xs = true → ∀ v ∈ vs, ∃ x bs, Reads h v x bs ∧ keyOkD x = true ∧ x.depth ≤ PyData.depthAll xs
  | [], _, _, r, _, v, hv => by
    cases r
    cases hv
  | x :: xs, _, _, r, hk, v, hv => by
    rw [keysOkD, Bool.and_eq_true] at hk
    rw [PyData.depthAll]
    cases r with
    | cons r1 r2 =>
      rcases List.mem_cons.mp hv with e | hv
      · rw [e]
        exact ⟨x, _, r1, hk.1, Nat.le_max_left _ _⟩
      · obtain ⟨y, bs, q1, q2, q3⟩ := keys_mem r2 hk.2 v hv
        exact ⟨y, bs, q1, q2, Nat.le_trans q3 (Nat.le_max_right _ _)⟩
section
variable {prog : Program} {w : World} {E : Value → Shared → Prop}
/-- comparing it is no one's word -/
theorem quiet_at : ∀ (n : Nat) (d : D) (v : Value) (as : List Addr) (A : Around) (s : Shared) (Q : Bool → Shared → Prop), keyOkD d = true → Reads s.heap v d as → d.depth ≤ n → Q true s →
    wpAny (model prog w) A (eqIsQuiet n v) Q E s := by
  intro n
  induction n with
  | zero =>
    intro d v as A s Q hk r hd h
    cases r with
    | none => exact wpAny_pure h
    | bool b => exact wpAny_pure h
    | int i t => exact wpAny_pure h
    | str x t => exact wpAny_pure h
    | tuple ho hc hdt ra => rw [PyData.depth] at hd; omega
    | list => rw [keyOkD] at hk; cases hk
    | dict => rw [keyOkD] at hk; cases hk
  | succ n ih =>
    intro d v as A s Q hk r hd h
    cases r with
    | none => exact wpAny_pure h
    | bool b => exact wpAny_pure h
    | int i t => exact wpAny_pure h
    | str x t => exact wpAny_pure h
    | list => rw [keyOkD] at hk; cases hk
    | dict => rw [keyOkD] at hk; cases hk
    | @tuple a o vs m xs _ ho hc hdt ra =>
      rw [keyOkD] at hk
      rw [PyData.depth] at hd
      have hT : s.TypeIs (.ref a) "tuple" := ⟨o, ho, hc⟩
      unfold eqIsQuiet
      refine wpAny_bind (wpAny_specialOf hT F.slot_tuple_eq.lookup ?_)
      show wpAny _ _ (isInstance (.ref a) (.type "tuple") >>= _) _ _ s
      refine wpAny_bind (wpAny_isInstance hT isSubtype_tuple_tuple ?_)
      simp only [Bool.not_true, Bool.false_eq_true, if_false]
      refine wpAny_bind (wpAny_seqItems ho hdt (wpAny_bind ?_))
      show wpAny _ _ (forIn vs _ _) _ _ s
      rw [← Array.forIn_toList]
      refine wpAny_forIn_list _ (fun rest r z => r.1 = none ∧ z = s ∧ ∀ u ∈ rest, u ∈ vs.toList) _ ?_ ?_ _ _ ⟨rfl, rfl, fun _ hu => hu⟩
      · rintro u rest r z ⟨hr, rfl, hall⟩
        obtain ⟨x, bs, q1, q2, q3⟩ := keys_mem ra hk u (hall u List.mem_cons_self)
        refine wpAny_bind (ih x u bs A z _ q2 q1 (by omega) ?_)
        simp only [Bool.not_true, Bool.false_eq_true, if_false]
        exact wpAny_pure ⟨rfl, rfl, fun y hy => hall y (List.mem_cons_of_mem _ hy)⟩
      · rintro ⟨r1, r2⟩ z ⟨hr, rfl, _⟩
        simp only at hr
        subst hr
        exact wpAny_pure h
/-- no class of its own -/
theorem noclass_at : ∀ (n : Nat) (d : D) (v : Value) (as : List Addr) (A : Around) (s : Shared) (Q : Bool → Shared → Prop), keyOkD d = true → Reads s.heap v d as → d.depth ≤ n → Q false s →
    wpAny (model prog w) A (ofAClassStatement n v) Q E s := by
  intro n
  induction n with
  | zero =>
    intro d v as A s Q hk r hd h
    cases r with
    | none => exact wpAny_pure h
    | bool b => exact wpAny_pure h
    | int i t => exact wpAny_pure h
    | str x t => exact wpAny_pure h
    | tuple ho hc hdt ra => rw [PyData.depth] at hd; omega
    | list => rw [keyOkD] at hk; cases hk
    | dict => rw [keyOkD] at hk; cases hk
  | succ n ih =>
    intro d v as A s Q hk r hd h
    cases r with
    | none => exact wpAny_pure h
    | bool b => exact wpAny_pure h
    | int i t => exact wpAny_pure h
    | str x t => exact wpAny_pure h
    | list => rw [keyOkD] at hk; cases hk
    | dict => rw [keyOkD] at hk; cases hk
    | @tuple a o vs m xs _ ho hc hdt ra =>
      rw [keyOkD] at hk
      rw [PyData.depth] at hd
      have hT : s.TypeIs (.ref a) "tuple" := ⟨o, ho, hc⟩
      unfold ofAClassStatement
      refine wpAny_bind (wpAny_typeOf hT ?_)
      dsimp only
      simp only [show (("tuple" : String) == "tuple") = true by decide, if_true, Bool.not_true, Bool.false_eq_true, if_false]
      try refine wpAny_bind (wpAny_pure ?_)
      try simp only [Bool.not_true, Bool.false_eq_true, if_false]
      show wpAny _ _ (seqItems? (.ref a) >>= _) _ _ s
      refine wpAny_bind (wpAny_seqItems ho hdt ?_)
      dsimp only
      refine wpAny_bind ?_
      show wpAny _ _ (forIn vs _ _) _ _ s
      rw [← Array.forIn_toList]
      refine wpAny_forIn_list _ (fun rest r z => r.1 = none ∧ z = s ∧ ∀ u ∈ rest, u ∈ vs.toList) _ ?_ ?_ _ _ ⟨rfl, rfl, fun _ hu => hu⟩
      · rintro u rest r z ⟨hr, rfl, hall⟩
        obtain ⟨x, bs, q1, q2, q3⟩ := keys_mem ra hk u (hall u List.mem_cons_self)
        refine wpAny_bind (ih x u bs A z _ q2 q1 (by omega) ?_)
        simp only [Bool.false_eq_true, if_false]
        exact wpAny_pure ⟨rfl, rfl, fun y hy => hall y (List.mem_cons_of_mem _ hy)⟩
      · rintro ⟨r1, r2⟩ z ⟨hr, rfl, _⟩
        simp only at hr
        subst hr
        exact wpAny_pure h
/-- whether its hash is its value's alone -/
theorem byval_at : ∀ (n : Nat) (d : D) (v : Value) (as : List Addr) (A : Around) (s : Shared) (Q : Bool → Shared → Prop), keyOkD d = true → Reads s.heap v d as → (∀ b, Q b s) →
    wpAny (model prog w) A (hashByValue n v) Q E s := by
  intro n
  induction n with
  | zero =>
    intro d v as A s Q hk r h
    cases r with
    | none => exact wpAny_pure (h _)
    | bool b => exact wpAny_pure (h _)
    | int i t => exact wpAny_pure (h _)
    | str x t => exact wpAny_pure (h _)
    | tuple ho hc hdt ra => exact wpAny_pure (h _)
    | list => rw [keyOkD] at hk; cases hk
    | dict => rw [keyOkD] at hk; cases hk
  | succ n ih =>
    intro d v as A s Q hk r h
    cases r with
    | none => exact wpAny_pure (h _)
    | bool b => exact wpAny_pure (h _)
    | int i t => exact wpAny_pure (h _)
    | str x t => exact wpAny_pure (h _)
    | list => rw [keyOkD] at hk; cases hk
    | dict => rw [keyOkD] at hk; cases hk
    | @tuple a o vs m xs _ ho hc hdt ra =>
      rw [keyOkD] at hk
      have hT : s.TypeIs (.ref a) "tuple" := ⟨o, ho, hc⟩
      unfold hashByValue
      refine wpAny_bind (wpAny_specialOf hT F.slot_tuple_hash.lookup ?_)
      show wpAny _ _ (seqItems? (.ref a) >>= _) _ _ s
      refine wpAny_bind (wpAny_seqItems ho hdt (wpAny_bind ?_))
      show wpAny _ _ (forIn vs _ _) _ _ s
      rw [← Array.forIn_toList]
      refine wpAny_forIn_list _ (fun rest r z => r.1 = none ∧ z = s ∧ ∀ u ∈ rest, u ∈ vs.toList) _ ?_ ?_ _ _ ⟨rfl, rfl, fun _ hu => hu⟩
      · rintro u rest r z ⟨hr, rfl, hall⟩
        obtain ⟨x, bs, q1, q2, q3⟩ := keys_mem ra hk u (hall u List.mem_cons_self)
        refine wpAny_bind (ih x u bs A z _ q2 q1 fun b => ?_)
        cases b with
        | true =>
          simp only [Bool.not_true, Bool.false_eq_true, if_false]
          exact wpAny_pure ⟨rfl, rfl, fun y hy => hall y (List.mem_cons_of_mem _ hy)⟩
        | false =>
          simp only [Bool.not_false, if_true]
          exact wpAny_pure (wpAny_pure (h false))
      · rintro ⟨r1, r2⟩ z ⟨hr, rfl, _⟩
        simp only at hr
        subst hr
        exact wpAny_pure (h true)
theorem wp_either {α : Type} {M : Model} {A : Around} {s : Shared} {Q : α → Shared → Prop} {c : Prop} [Decidable c] {a b : Sem α} (h1 : wpAny M A a Q E s) (h2 : wpAny M A b Q E s) : wpAny M A (if c then a else b) Q E s := by
  by_cases hc : c
  · rw [if_pos hc]; exact h1
  · rw [if_neg hc]; exact h2
/-- a search among such data shows nothing -/
theorem seen_at {A : Around} {s : Shared} {d : D} {v : Value} {as : List Addr} {Q : Bool → Shared → Prop} (hk : keyOkD d = true) (r : Reads s.heap v d as) (hd : d.depth ≤ 8) {ys : List Value}
    (hy : ∀ y ∈ ys, ∃ e bs, Reads s.heap y e bs ∧ keyOkD e = true ∧ e.depth ≤ 8) (h : Q false s) : wpAny (model prog w) A (searchCouldBeSeen v ys) Q E s := by
  unfold searchCouldBeSeen
  refine wpAny_bind ?_
  refine wpAny_forIn_list _ (fun rest r z => r.1 = none ∧ z = s ∧ ∀ u ∈ rest, u ∈ ys) _ ?_ ?_ _ _ ⟨rfl, rfl, fun _ hu => hu⟩
  · rintro u rest rr z ⟨hr, rfl, hall⟩
    have next : ∀ y ∈ rest, y ∈ ys := fun y h => hall y (List.mem_cons_of_mem _ h)
    obtain ⟨e, bs, q1, q2, q3⟩ := hy u (hall u List.mem_cons_self)
    dsimp only
    refine wp_either (wpAny_pure ⟨rfl, rfl, next⟩) ?_
    refine wpAny_bind (quiet_at 8 d v as A z _ hk r hd ?_)
    simp only [Bool.not_true, Bool.false_eq_true, if_false]
    refine wpAny_bind (quiet_at 8 e u bs A z _ q2 q1 q3 ?_)
    simp only [Bool.not_true, Bool.false_eq_true, if_false]
    refine wpAny_bind (noclass_at 8 d v as A z _ hk r hd ?_)
    simp only [Bool.false_eq_true, if_false]
    refine wpAny_bind (noclass_at 8 e u bs A z _ q2 q1 q3 ?_)
    simp only [Bool.false_eq_true, if_false]
    exact wpAny_pure ⟨rfl, rfl, next⟩
  · rintro ⟨r1, r2⟩ z ⟨hr, rfl, _⟩
    simp only at hr
    subst hr
    exact wpAny_pure h
end
end Wy

set_option Elab.async false
set_option linter.all false
set_option maxRecDepth 100000
set_option maxHeartbeats 4000000
/-! W14: sets of tuples of key data. U: the data at hand, among which == is =. -/
namespace Wy
open PySem PySem.Spec PyProof.Rows L2
def EqU (U : D → Prop) : Prop := ∀ x y, U x → U y → (PyData.eqv x y = true ↔ x = y)
/-- at b stands a tuple of the data d -/
def KT (U : D → Prop) (h : Heap) (b : Addr) (d : D) : Prop := (∃ as, Reads h (.ref b) d as) ∧ keyOkD d = true ∧ d.depth ≤ 8 ∧ d.canLay0 = true ∧ U d
abbrev El := Addr × D
abbrev hsh (w : World) (p : El) : Int := hashD w.params p.2
def row (w : World) (p : El) : Int × Value := (hsh w p, .ref p.1)
structure TSet (U : D → Prop) (w : World) (h : Heap) (c : Addr) (N : List El) (xs : Array (Int × Value)) (k : Nat) (T : SetTable) : Prop where
  ob : ∃ o, h.get? c = some o ∧ o.ExactSet ∧ o.data = .set xs k T
  rows : xs.toList = N.map (row w)
  tab : TabOk T (N.map (hsh w))
  nd : (N.map (·.2)).Nodup
  el : ∀ p ∈ N, KT U h p.1 p.2
  led : w.params.followText "set-order" = true ∨ T.led = true
  room : 5 * N.length < 3 * T.mask
  few : N.length < 64
section
variable {U : D → Prop} {P : Program} {w : World} {A : Around} {E : Value → Shared → Prop} {s : Shared} {c : Addr} {N : List El} {xs : Array (Int × Value)} {k : Nat} {T : SetTable}
theorem TSet.num (R : TSet U w s.heap c N xs k T) : xs.size = N.length := by
  have z := congrArg List.length R.rows
  rwa [Array.length_toList, List.length_map] at z
theorem TSet.plc (R : TSet U w s.heap c N xs k T) : T.place.size = N.length := by
  have z := R.tab.sz
  rwa [List.length_map] at z
theorem fits_by {n : Nat} (h1 : T.dummies = #[]) (h2 : T.place.size = n) (h3 : n ≤ T.mask) : T.fits n = true := by
  unfold SetTable.fits SetTable.fill
  rw [h1, Bool.and_eq_true, beq_iff_eq, decide_eq_true_eq]
  exact ⟨h2, by show T.place.size + 0 ≤ _; omega⟩
theorem TSet.fit (R : TSet U w s.heap c N xs k T) : T.fits xs.size = true := by
  have := R.room
  rw [R.num]
  exact fits_by R.tab.dm R.plc (by omega)
theorem row_at {i : Nat} {p : El} (hr : xs.toList = N.map (row w)) (h : N[i]? = some p) : xs[i]? = some (row w p) := by
  rw [← Array.getElem?_toList, hr, List.getElem?_map, h]
  rfl
theorem TSet.way0 (R : TSet U w s.heap c N xs k T) : ¬ T.gaveWay = true := by
  unfold SetTable.gaveWay
  have := mask_odd R.tab.mok
  rw [this]
  decide
abbrev prb (m : Nat) (h : Int) : SetTable.Probe := runAt m (SetTable.bits h % (m + 1)) (SetTable.bits h)
theorem nodum (m : Nat) : ∀ (n : Nat) (p : SetTable.Probe), p.dummy = none → (nth m p n).dummy = none
  | 0, p, h => h
  | n + 1, p, h => nodum m n (adv m p) (by unfold adv; split <;> exact h)
/-- the search for d, from the n-th step on -/
theorem find_from (hU : EqU U) (R : TSet U w s.heap c N xs k T) {b : Addr} {d : D} (hx : KT U s.heap b d) (hu : A.units + 9 < cLine) {h : Int} (eh : h = hashD w.params d) {J : Nat} (j1 : J < 10 * SetTable.turns T.mask)
    (j2 : way T.mask h J ∉ T.place.toList) (j3 : ∀ n, n < J → way T.mask h n ∈ T.place.toList) {Q : SetFound → Shared → Prop}
    (yes : d ∈ N.map (·.2) → Q (.there none) s) (no : d ∉ N.map (·.2) → Q (.free (way T.mask h J) false) s) :
    ∀ (f n : Nat) (st : Option SetTable.Probe), st.getD (T.probeStart h) = nth T.mask (prb T.mask h) n → n ≤ J → J - n < f →
      (∀ (i : Nat) p, N[i]? = some p → p.2 = d → ∃ n', n ≤ n' ∧ n' < J ∧ T.place.toList[i]? = some (way T.mask h n')) →
      wpAny (model P w) A (setSearchFrom c (.ref b) h true f st) Q E s := by
  intro f
  induction f with
  | zero => intro n st _ _ hf; exact absurd hf (Nat.not_lt_zero _)
  | succ f ih =>
    intro n st hst hn hf hre
    obtain ⟨o, ho, hex, hd⟩ := R.ob
    have gives := R.fit
    rw [setSearchFrom_succ]
    refine wpAny_bind (wpAny_setState_of ho hd gives ?_)
    dsimp only
    refine wp_if_neg R.way0 ?_
    try refine wpAny_bind (wpAny_pure ?_)
    have on : ∀ q, nth T.mask (nth T.mask (prb T.mask h) n) q = nth T.mask (prb T.mask h) (n + q) := fun q => (nth_add T.mask n _ q).symm
    have onj : ∀ q, (nth T.mask (nth T.mask (prb T.mask h) n) q).j = way T.mask h (n + q) := fun q => congrArg (·.j) (on q)
    have met := go_spec T R.tab.ris R.tab.dm (fun i => (xs[i]?.map (·.1)).getD 0) h (10 * SetTable.turns T.mask) (J - n) _ (nodum T.mask n _ rfl) (by omega)
      (fun q hq => by rw [onj]; exact j3 _ (by omega)) (by rw [onj, show n + (J - n) = J by omega]; exact j2)
    have hat : ∀ (i : Nat) p, N[i]? = some p → (xs[i]?.map (·.1)).getD 0 = hsh w p := fun i p hp => by rw [row_at R.rows hp]; rfl
    rcases met with ⟨q, i, hq, hi, hh, hno, hpr⟩ | ⟨hno, hpr⟩
    · have hpr' : T.probe (fun i => (xs[i]?.map (·.1)).getD 0) h (st.getD (T.probeStart h)) = some (.candidate (way T.mask h (n + q)) i (nth T.mask (prb T.mask h) (n + (q + 1)))) := by
        rw [hst, ← onj, ← on]; exact hpr
      rw [hpr']
      dsimp only
      rw [onj] at hi
      have il : i < N.length := by
        have := (List.getElem?_eq_some_iff.mp hi).1
        rw [Array.length_toList, R.plc] at this
        exact this
      obtain ⟨p, hp⟩ : ∃ p, N[i]? = some p := ⟨N[i], List.getElem?_eq_getElem il⟩
      have pm : p ∈ N := List.mem_of_getElem? hp
      obtain ⟨⟨as1, r1⟩, k1, d1, l1, u1⟩ := R.el p pm
      obtain ⟨⟨as2, r2⟩, k2, d2, l2, u2⟩ := id hx
      have same := hU _ _ u1 u2
      have after : wpAny (model P w) A (searchRest c (.ref b) h true f xs T (way T.mask h (n + q)) i (nth T.mask (prb T.mask h) (n + (q + 1)))) Q E s := by
        unfold searchRest
        rw [row_at R.rows hp]
        dsimp only [row]
        refine wpAny_bind (wpAny_holding (PySem.SeqAt.eqAt_reads p.2 d A s _ _ _ _ r1 r2 l1 l2 (by omega) _ _ _ _ ?_))
        refine wpAny_bind (wpAny_setState_of ho hd gives ?_)
        dsimp only
        by_cases e : p.2 = d
        · refine wp_if_pos (by rw [same.mpr e]; rfl) ?_
          exact wpAny_pure (yes (List.mem_map.mpr ⟨p, pm, e⟩))
        · have ne : PyData.eqv p.2 d = false := Bool.eq_false_iff.mpr fun z => e (same.mp z)
          refine wp_if_neg (by rw [ne]; decide) ?_
          try refine wpAny_bind (wpAny_pure ?_)
          rw [sameMem]
          dsimp only
          have lv : T.slot (way T.mask h (n + q)) = .live i := slot_live R.tab.ris hi
          simp only [if_true, lv, row_at R.rows hp, row]
          refine wpAny_bind (wpAny_isSame_ref_self (wpAny_bind (wpAny_pure ?_)))
          simp only [if_true]
          refine wp_if_neg (by rw [ne]; decide) ?_
          refine ih (n + (q + 1)) _ rfl (by omega) (by omega) fun i0 p0 h0 e0 => ?_
          obtain ⟨n', a1, a2, a3⟩ := hre i0 p0 h0 e0
          refine ⟨n', ?_, a2, a3⟩
          rcases Nat.lt_trichotomy n' (n + q) with z | z | z
          · exfalso
            refine hno (n' - n) i0 (by omega) (by rw [onj, show n + (n' - n) = n' by omega]; exact a3) ?_
            show (xs[i0]?.map (·.1)).getD 0 = h
            rw [hat i0 p0 h0, eh, ← e0]
          · exfalso
            rw [z] at a3
            have lv0 := slot_live R.tab.ris a3
            rw [lv] at lv0
            injection lv0 with lv0
            rw [← lv0, hp] at h0
            exact e ((congrArg Prod.snd (Option.some.inj h0)).trans e0)
          · omega
      by_cases hl : T.led = true
      · refine wp_if_neg (by simp [hl]) ?_
        try refine wpAny_bind (wpAny_pure ?_)
        exact after
      · refine wp_if_pos (by simp [hl]) ?_
        refine wpAny_bind (seen_at k2 r2 d2 (fun y hy => ?_) ?_)
        · obtain ⟨z, hz, ez⟩ := List.mem_map.mp hy
          have hz1 : z ∈ xs ∧ z.1 = h := by simpa using hz
          have hz2 : z ∈ xs.toList := by simpa using hz1.1
          rw [R.rows] at hz2
          obtain ⟨p2, hp2, e2⟩ := List.mem_map.mp hz2
          obtain ⟨⟨as3, r3⟩, k3, d3, l3, u3⟩ := R.el p2 hp2
          refine ⟨p2.2, as3, ?_, k3, d3⟩
          rw [← ez, ← e2]
          exact r3
        · refine wp_if_neg (by decide) ?_
          try refine wpAny_bind (wpAny_pure ?_)
          exact after
    · have hpr' : T.probe (fun i => (xs[i]?.map (·.1)).getD 0) h (st.getD (T.probeStart h)) = some (.empty (way T.mask h J) none) := by
        have e2 : way T.mask h J = (nth T.mask (nth T.mask (prb T.mask h) n) (J - n)).j := by
          rw [onj, show n + (J - n) = J by omega]
        rw [hst, e2]; exact hpr
      rw [hpr']
      dsimp only
      refine wpAny_pure (no fun hm => ?_)
      obtain ⟨p0, h0, e0⟩ := List.mem_map.mp hm
      obtain ⟨i0, hi0⟩ := List.getElem?_of_mem h0
      obtain ⟨n', a1, a2, a3⟩ := hre i0 p0 hi0 e0
      refine hno (n' - n) i0 (by omega) (by rw [onj, show n + (n' - n) = n' by omega]; exact a3) ?_
      show (xs[i0]?.map (·.1)).getD 0 = h
      rw [hat i0 p0 hi0, eh, ← e0]
theorem find_at (hU : EqU U) (R : TSet U w s.heap c N xs k T) {b : Addr} {d : D} (hx : KT U s.heap b d) (hu : A.units + 9 < cLine) {h : Int} (eh : h = hashD w.params d) {Q : SetFound → Shared → Prop}
    (yes : d ∈ N.map (·.2) → Q (.there none) s) (no : ∀ J, d ∉ N.map (·.2) → way T.mask h J ∉ T.place.toList → (∀ n, n < J → way T.mask h n ∈ T.place.toList) → Q (.free (way T.mask h J) false) s) :
    wpAny (model P w) A (setSearch c (.ref b) h true) Q E s := by
  have hroom := R.room
  obtain ⟨J, j1, j2, j3⟩ := R.tab.first (by rw [List.length_map]; omega) h
  have j4 : J < 100000 := by
    have : 10 * SetTable.turns T.mask ≤ 1420 := by
      unfold SetTable.turns
      rcases R.tab.mok with e | e | e <;> omega
    omega
  refine find_from hU R hx hu eh j1 j2 j3 yes (fun z => no J z j2 j3) 100000 0 none rfl (Nat.zero_le _) (by omega) fun i p hp e => ?_
  have hi : (N.map (hsh w))[i]? = some h := by
    rw [List.getElem?_map, hp, eh, ← e]; rfl
  have il : i < T.place.toList.length := by
    rw [Array.length_toList, R.plc]
    exact (List.getElem?_eq_some_iff.mp hp).1
  have hj := List.getElem?_eq_getElem il
  obtain ⟨n, n1, n2⟩ := R.tab.before j2 hi hj
  exact ⟨n, Nat.zero_le _, n1, by rw [hj, n2]⟩
end
end Wy

set_option Elab.async false
set_option linter.all false
set_option maxRecDepth 100000
set_option maxHeartbeats 4000000
/-! W15: a tuple put into a set. -/
namespace Wy
open PySem PySem.Spec PyProof.Rows L2
mutual
theorem reads_keep {h h' : Heap} (kp : ∀ a o, h.get? a = some o → o.cls = .type "tuple" → h'.get? a = some o) : ∀ (d : D) (v : Value) (as : List Addr), keyOkD d = true → Reads h v d as → Reads h' v d as
  | .none, v, as, _, r => by cases r; exact .none
  | .bool b, v, as, _, r => by cases r; exact .bool b
  | .int i, v, as, _, r => by cases r; exact .int i _
  | .str x, v, as, _, r => by cases r; exact .str x _
  | .tuple ds, v, as, hk, r => by
    rw [keyOkD] at hk
    cases r with
    | tuple ho hc hd ra => exact .tuple (kp _ _ ho hc) hc hd (readsA_keep kp ds _ _ hk ra)
  | .list _, v, as, hk, _ => by rw [keyOkD] at hk; cases hk
  | .dict _, v, as, hk, _ => by rw [keyOkD] at hk; cases hk
theorem readsA_keep {h h' : Heap} (kp : ∀ a o, h.get? a = some o → o.cls = .type "tuple" → h'.get? a = some o) : ∀ (ds : List D) (vs : List Value) (as : List Addr), keysOkD ds = true → ReadsAll h vs ds as → ReadsAll h' vs ds as
  | [], vs, as, _, r => by cases r; exact .nil
  | d :: ds, vs, as, hk, r => by
    rw [keysOkD, Bool.and_eq_true] at hk
    cases r with
    | cons r1 r2 => exact .cons (reads_keep kp d _ _ hk.1 r1) (readsA_keep kp ds _ _ hk.2 r2)
end
theorem KT.keep {U : D → Prop} {h h' : Heap} {b : Addr} {d : D} (x : KT U h b d) (kp : ∀ a o, h.get? a = some o → o.cls = .type "tuple" → h'.get? a = some o) : KT U h' b d := by
  obtain ⟨⟨as, r⟩, h2, h3⟩ := x
  exact ⟨⟨as, reads_keep kp d _ _ h2 r⟩, h2, h3⟩
theorem set_not_tuple {h h' : Heap} {c : Addr} {o : Obj} (ho : h.get? c = some o) (hex : o.ExactSet) (sb : Heap.SameBut c h h') : ∀ a o, h.get? a = some o → o.cls = .type "tuple" → h'.get? a = some o := fun a u e hc => by
  have ne : a ≠ c := by
    rintro rfl
    rw [ho] at e
    cases e
    rw [hex.1] at hc
    exact absurd hc (by decide)
  exact (sb.2 a ne).trans e
theorem range_pick {α : Type} : ∀ l : List α, (List.range l.length).filterMap (fun i => l[i]?) = l
  | [] => rfl
  | x :: l => by
    rw [List.length_cons, List.range_succ_eq_map, List.filterMap_cons, List.filterMap_map]
    show x :: (List.range l.length).filterMap (fun i => (x :: l)[i + 1]?) = _
    have : (fun i => (x :: l)[i + 1]?) = fun i => l[i]? := by funext i; rfl
    rw [this, range_pick l]
section
variable {U : D → Prop} {P : Program} {w : World} {A : Around} {E : Value → Shared → Prop} {s : Shared} {c : Addr} {N : List El} {xs : Array (Int × Value)} {k : Nat} {T : SetTable}
theorem order_pick (hr : xs.toList = N.map (row w)) {order : Array Nat} (hp : order.toList.Perm (List.range N.length)) :
    ∃ N2 : List El, (order.filterMap (xs[·]?)).toList = N2.map (row w) ∧ N2.Perm N ∧ (order.toList.map fun i => (xs.map (·.1)).getD i 0) = N2.map (hsh w) := by
  have get : ∀ i : Nat, xs[i]? = (N[i]?).map (row w) := fun i => by rw [← Array.getElem?_toList, hr, List.getElem?_map]
  refine ⟨order.toList.filterMap fun i => N[i]?, ?_, ?_, ?_⟩
  · rw [Array.toList_filterMap, List.map_filterMap]
    congr 1
    funext i
    exact get i
  · have := hp.filterMap fun i => N[i]?
    rwa [range_pick] at this
  · have lt : ∀ i ∈ order.toList, i < N.length := fun i hi => List.mem_range.mp (hp.mem_iff.mp hi)
    generalize order.toList = l at lt
    induction l with
    | nil => rfl
    | cons i l ih =>
      have il := lt i List.mem_cons_self
      rw [List.map_cons, List.filterMap_cons, List.getElem?_eq_getElem il]
      show _ = hsh w N[i] :: _
      rw [ih fun j hj => lt j (List.mem_cons_of_mem _ hj)]
      congr 1
      rw [Array.getD_eq_getD_getElem?, Array.getElem?_map, get i, List.getElem?_eq_getElem il]
      rfl
theorem tab_plain {hs : List Int} (t : TabOk T hs) (b : Bool) : TabOk { T with plain := b } hs := ⟨t.ris, t.dm, t.sz, t.mok, t.bd, t.reach⟩
/-- the table laid anew -/
theorem relay_of {o : Obj} (ho : s.heap.get? c = some o) (hex : o.ExactSet) (hd : o.data = .set xs k T) (hr : xs.toList = N.map (row w)) (h1 : T.place.size = N.length) (h2 : T.dummies = #[]) (h3 : N.length ≤ T.mask)
    (nd : (N.map (·.2)).Nodup) (el : ∀ p ∈ N, KT U s.heap p.1 p.2) (ld : w.params.followText "set-order" = true ∨ T.led = true) (few : N.length < 64) {want M : Nat} (m1 : SetTable.sizeAbove want - 1 = M) (m2 : MaskOk M) (m3 : SetTable.sizeAbove want ≤ 128) (m4 : 5 * N.length < 3 * M)
    {Q : Unit → Shared → Prop} (hQ : ∀ h' N' xs' k' T', Heap.SameBut c s.heap h' → TSet U w h' c N' xs' k' T' → N'.Perm N → Q () { s with heap := h' }) : wpAny (model P w) A (setRelay c want) Q E s := by
  have num : xs.size = N.length := by
    have z := congrArg List.length hr
    rwa [Array.length_toList, List.length_map] at z
  obtain ⟨T', order, e, op, tok, em, el', _, _⟩ := relaid_ok T (hs := xs.map (·.1)) (wanted := want) m1 m2 (by rw [Array.size_map, num]; omega)
  rw [Array.size_map, num] at op
  obtain ⟨N2, r1, r2, r3⟩ := order_pick hr op
  rw [r3] at tok
  have num2 : (order.filterMap (xs[·]?)).size = N.length := by
    have z := congrArg List.length r1
    rw [Array.length_toList, List.length_map, r2.length_eq] at z
    exact z
  rw [setRelay_eq]
  refine wpAny_bind (wpAny_setState_of ho hd (by rw [num]; exact fits_by h2 h1 h3) ?_)
  dsimp only
  refine wp_if_neg (by rw [sizeLine_eq]; omega) ?_
  try refine wpAny_bind (wpAny_pure ?_)
  rw [e]
  dsimp only
  refine wpAny_bind ?_
  refine wp_if_neg (by rw [num2, num]; simp) ?_
  try refine wpAny_bind (wpAny_pure ?_)
  refine wpAny_pure ?_
  dsimp only
  refine wpAny_storeSet_of ho hd ?_ (by rw [num2, sizeLine_eq]; omega)
  have sb : Heap.SameBut c s.heap (s.heap.update c (Obj.putSet (order.filterMap (xs[·]?)) T')) := Heap.SameBut.update ..
  exact hQ _ N2 _ (k + 1) T' sb ⟨⟨_, store_at ho hd, ⟨hex.1, hex.2.1, hex.2.2⟩, rfl⟩, r1, tok, (r2.map (·.2)).nodup_iff.mpr nd, fun p hp => (el p (r2.mem_iff.mp hp)).keep (set_not_tuple ho hex sb),
    by rw [el']; exact ld, by rw [r2.length_eq, em]; exact m4, by rw [r2.length_eq]; exact few⟩ r2
/-- a tuple of the data d put into the set -/
theorem put_in (hU : EqU U) (R : TSet U w s.heap c N xs k T) {b : Addr} {d : D} (hx : KT U s.heap b d) (hu : A.units + 9 < cLine) (hf : N.length + 1 < 64) {Q : Bool → Shared → Prop}
    (hQ : ∀ r h' N' xs' k' T', Heap.SameBut c s.heap h' → TSet U w h' c N' xs' k' T' → (d ∈ N.map (·.2) → N' = N) → (d ∉ N.map (·.2) → N'.Perm ((b, d) :: N)) → Q r { s with heap := h' }) :
    wpAny (model P w) A (setAddHashed c (.ref b) (hashD w.params d)) Q E s := by
  obtain ⟨o, ho, hex, hd⟩ := R.ob
  have gives := R.fit
  have num := R.num
  have plc := R.plc
  have hroom := R.room
  obtain ⟨⟨as, rd⟩, kd, dd, ld, ud⟩ := id hx
  unfold setAddHashed
  refine wpAny_holding ?_
  rw [show (100000 : Nat) = 99999 + 1 from rfl, setAddHashedIn_succ]
  refine wpAny_bind (wpAny_setState_of ho hd gives ?_)
  dsimp only
  refine wp_if_neg (by simp [byScan, Value.scannable]) ?_
  try refine wpAny_bind (wpAny_pure ?_)
  generalize eh : hashD w.params d = h
  refine wpAny_bind (find_at hU R hx hu eh.symm (fun hm => ?_) fun J hm j2 j3 => ?_)
  · dsimp only
    exact wpAny_pure (hQ false s.heap N xs k T (Heap.SameBut.refl c s.heap) R (fun _ => rfl) fun z => absurd hm z)
  · dsimp only
    refine wpAny_bind (wpAny_setState_of ho hd gives ?_)
    dsimp only
    obtain ⟨q1, q2, q3, q4, q5, q6, q7, q8, q9⟩ := R.tab.put j2 j3
    generalize T.put (way T.mask h J) = pt at q1 q3 q4 q5 q6 q7 q8 q9 ⊢
    obtain ⟨T1, p⟩ := pt
    dsimp only at q1 q3 q4 q5 q6 q7 q8 q9 ⊢
    subst q1
    generalize hp : SetTable.below T.place (way T.mask h J) = p at q2 q3 ⊢
    -- the new rows
    have r1 : (SetTable.insertAt xs p (h, Value.ref b)).toList = (N.take p ++ (b, d) :: N.drop p).map (row w) := by
      rw [SetTable.toList_insertAt, R.rows, List.map_append, List.map_cons, List.map_take, List.map_drop, ← eh]; rfl
    have t1 : TabOk T1 ((N.take p ++ (b, d) :: N.drop p).map (hsh w)) := by
      rw [List.map_append, List.map_cons, List.map_take, List.map_drop]
      show TabOk T1 ((N.map (hsh w)).take p ++ hashD w.params d :: (N.map (hsh w)).drop p)
      rw [eh]; exact q3
    have pm : (N.take p ++ (b, d) :: N.drop p).Perm ((b, d) :: N) := by
      have z : (N.take p ++ (b, d) :: N.drop p).Perm ((b, d) :: (N.take p ++ N.drop p)) := List.perm_middle
      rwa [List.take_append_drop] at z
    generalize N.take p ++ (b, d) :: N.drop p = N1 at r1 t1 pm
    have l1 : N1.length = N.length + 1 := pm.length_eq
    have nd1 : (N1.map (·.2)).Nodup := (pm.map (·.2)).nodup_iff.mpr (by rw [List.map_cons]; exact List.nodup_cons.mpr ⟨hm, R.nd⟩)
    have el1 : ∀ p ∈ N1, KT U s.heap p.1 p.2 := fun p hp => by
      rcases List.mem_cons.mp (pm.mem_iff.mp hp) with e | e
      · rw [e]; exact hx
      · exact R.el p e
    generalize SetTable.insertAt xs p (h, Value.ref b) = xs1 at r1 ⊢
    have num1 : xs1.size = N.length + 1 := by
      have z := congrArg List.length r1
      rwa [Array.length_toList, List.length_map, l1] at z
    -- what is stored, whatever is known of its hashes
    have store : ∀ T2 : SetTable, TabOk T2 (N1.map (hsh w)) → T2.mask = T.mask → T2.led = T.led → T2.fill = N.length + 1 →
        wpAny (model P w) A (do
          storeSet c xs1 T2
          if (!false && T2.tooFull) = true then setRelay c (SetTable.grown (xs.size + 1))
          return true) Q E s := by
      intro T2 tk em el e9
      refine wpAny_bind (wpAny_storeSet_of ho hd ?_ (by rw [num1, sizeLine_eq]; omega))
      have sb : Heap.SameBut c s.heap (s.heap.update c (Obj.putSet xs1 T2)) := Heap.SameBut.update ..
      have ho1 := store_at (es' := xs1) (t' := T2) ho hd
      have kp := set_not_tuple ho hex sb
      generalize s.heap.update c (Obj.putSet xs1 T2) = h1 at sb ho1 kp ⊢
      have sz2 : T2.place.size = N1.length := by
        have z := tk.sz
        rwa [List.length_map] at z
      have led2 : w.params.followText "set-order" = true ∨ T2.led = true := by rw [el]; exact R.led
      by_cases full : T2.tooFull = true
      · have hfull : (N.length + 1) * 5 ≥ T.mask * 3 := by
          have z := full
          unfold SetTable.tooFull at z
          rw [decide_eq_true_eq, e9, em] at z
          exact z
        have two : (T.mask = 7 ∧ N.length = 4) ∨ (T.mask = 31 ∧ N.length = 18) := by
          rcases R.tab.mok with e | e | e
          · left; rw [e] at hfull hroom; exact ⟨e, by omega⟩
          · right; rw [e] at hfull hroom; exact ⟨e, by omega⟩
          · exfalso; rw [e] at hfull; omega
        have go : ∀ M, SetTable.sizeAbove (SetTable.grown (N.length + 1)) - 1 = M → MaskOk M → SetTable.sizeAbove (SetTable.grown (N.length + 1)) ≤ 128 → 5 * (N.length + 1) < 3 * M →
            wpAny (model P w) A (setRelay c (SetTable.grown (N.length + 1))) (fun _ z => wpAny (model P w) A (pure true) Q E z) E { s with heap := h1 } := fun M a1 a2 a3 a4 => by
          refine relay_of (s := { s with heap := h1 }) ho1 ⟨hex.1, hex.2.1, hex.2.2⟩ rfl r1 sz2 tk.dm (by rw [l1, em]; rcases two with ⟨e, e2⟩ | ⟨e, e2⟩ <;> omega) nd1 (fun p hp => (el1 p hp).keep kp) led2
            (by rw [l1]; exact hf) a1 a2 a3 (by rw [l1]; exact a4) fun h2 N2 xs2 k2 T3 sb2 R2 p2 => ?_
          exact wpAny_pure (hQ true h2 N2 xs2 k2 T3 (sb.trans sb2) R2 (fun z => absurd z hm) fun _ => p2.trans pm)
        rw [num]
        first
          | (refine wpAny_bind ?_; refine wp_if_pos (by simp [full]) ?_)
          | (refine wp_if_pos (by simp [full]) ?_; refine wpAny_bind ?_)
        rcases two with ⟨_, e2⟩ | ⟨_, e2⟩
        · exact go 31 (by rw [e2, size_20]) (.inr (.inl rfl)) (by rw [e2, size_20]; decide) (by omega)
        · exact go 127 (by rw [e2, size_76]) (.inr (.inr rfl)) (by rw [e2, size_76]; decide) (by omega)
      · first
          | refine wp_if_neg (by simp [full]) ?_
          | (refine wpAny_bind ?_; refine wp_if_neg (by simp [full]) ?_; refine wpAny_pure ?_)
        refine wpAny_pure (hQ true h1 N1 xs1 (k + 1) T2 sb ⟨⟨_, ho1, ⟨hex.1, hex.2.1, hex.2.2⟩, rfl⟩, r1, tk, nd1, fun p hp => (el1 p hp).keep kp, led2, ?_, by rw [l1]; exact hf⟩ (fun z => absurd z hm) fun _ => pm)
        have z : ¬ (N.length + 1) * 5 ≥ T.mask * 3 := fun q => full (by
          unfold SetTable.tooFull
          rw [decide_eq_true_eq, e9, em]
          exact q)
        rw [l1, em]
        omega
    have e9 : T1.fill = N.length + 1 := by rw [q9, List.length_map]
    have off := store { T1 with plain := false } (tab_plain t1 false) q4 q5 e9
    have onn := store T1 t1 q4 q5 e9
    first
      | (refine wpAny_bind ?_
         refine wp_either (byval_at 8 d _ as A s _ kd rd fun bv => ?_) (wpAny_pure ?_))
      | (refine wp_either (wpAny_bind (byval_at 8 d _ as A s _ kd rd fun bv => ?_)) (wpAny_bind (wpAny_pure ?_)))
    · cases bv
      · simp only [Bool.false_eq_true, if_false]
        exact off
      · simp only [if_true]
        exact onn
    · simp only [if_true]
      exact onn
end
end Wy

set_option Elab.async false
set_option linter.all false
set_option maxRecDepth 100000
set_option maxHeartbeats 4000000
/-! W16: sets of texts. -/
namespace Wy
open PySem PySem.Spec PyProof.Rows L2
/-- an entry that holds the text x -/
def TxE (w : World) (e : Int × Value) : Prop := ∃ x t, e.2 = Value.str x t ∧ e.1 = hashStr w x
def txOf (e : Int × Value) : Str := match e.2 with
  | .str x _ => x
  | _ => ⟨#[]⟩
structure XSet (w : World) (h : Heap) (c : Addr) (N : List Str) (xs : Array (Int × Value)) (k : Nat) (T : SetTable) : Prop where
  ob : ∃ o, h.get? c = some o ∧ o.ExactSet ∧ o.data = .set xs k T
  txt : ∀ e ∈ xs.toList, TxE w e
  rows : xs.toList.map txOf = N
  nd : N.Nodup
  fit : T.fits xs.size = true
  ris : Ris T.place.toList
  led : w.params.followText "set-order" = true ∨ T.led = true
  few : N.length < 64
section
variable {P : Program} {w : World} {A : Around} {E : Value → Shared → Prop} {s : Shared} {c : Addr} {N : List Str} {xs : Array (Int × Value)} {k : Nat} {T : SetTable}
theorem XSet.num (R : XSet w s.heap c N xs k T) : xs.size = N.length := by
  rw [← R.rows, List.length_map, Array.length_toList]
theorem txt_elems {l : List (Int × Value)} (h : ∀ e ∈ l, TxE w e) : ElemsOf (strKind P w) l := fun e he => by
  obtain ⟨x, t, e1, e2⟩ := h e he
  rw [e1]
  exact ⟨⟨x, strKind_is _ _ _ _, e2⟩, rfl⟩
theorem txt_is {e : Int × Value} (h : TxE w e) (x : Str) : (strKind P w).is x e.2 = true ↔ txOf e = x := by
  obtain ⟨y, t, e1, _⟩ := h
  unfold txOf
  rw [e1]
  constructor
  · intro z
    obtain ⟨t', q⟩ := Value.isStrOf_shape (x := x) (v := Value.str y t) z
    injection q
  · intro z
    have z' : y = x := z
    rw [z']
    exact strKind_is _ _ _ _
/-- the store, and the table laid anew where it is too full -/
theorem txt_store {o : Obj} (ho : s.heap.get? c = some o) (hex : o.ExactSet) (hd : o.data = .set xs k T) {ys : Array (Int × Value)} {T2 : SetTable} {M : List Str} (pm : (ys.toList.map txOf).Perm M) (h1 : ∀ e ∈ ys.toList, TxE w e) (h2 : M.Nodup) (h3 : T2.fits ys.size = true)
    (h4 : Ris T2.place.toList) (h5 : w.params.followText "set-order" = true ∨ T2.led = true) (h6 : M.length < 64) {dum : Bool} {g : Bool → Sem Unit} (hg : ∀ (b : Bool) (z : Shared) (Q' : Unit → Shared → Prop), Q' () z → wpAny (model P w) A (g b) Q' E z) {Q : Option Bool → Shared → Prop}
    (hQ : ∀ h' N' ys' k' T', Heap.SameBut c s.heap h' → XSet w h' c N' ys' k' T' → N'.Perm M → Q (some true) { s with heap := h' }) :
    wpAny (model P w) A (do
      storeSet c ys T2
      if (!dum && T2.tooFull) = true then do
          g (relayAll T2 ys (SetTable.grown ys.size)).2.2
          storeSet c (relayAll T2 ys (SetTable.grown ys.size)).1 (relayAll T2 ys (SetTable.grown ys.size)).2.1
          pure (some true)
        else pure (some true)) Q E s := by
  have num : ys.size = M.length := by
    have z := pm.length_eq
    rwa [List.length_map, Array.length_toList] at z
  refine wpAny_bind (wpAny_storeSet_of ho hd ?_ (by rw [num, sizeLine_eq]; omega))
  have ho1 := store_at (es' := ys) (t' := T2) ho hd
  have sb1 := Heap.SameBut.update s.heap c (Obj.putSet ys T2)
  refine wp_either ?_ (wpAny_pure (hQ _ _ ys (k + 1) T2 sb1 ⟨⟨_, ho1, hex, rfl⟩, h1, rfl, pm.nodup_iff.mpr h2, h3, h4, h5, by rw [pm.length_eq]; exact h6⟩ pm))
  have q1 := relayAll_perm T2 ys (SetTable.grown ys.size)
  have q2 := relayAll_fits T2 ys (SetTable.grown ys.size)
  have q3 := relayAll_ris T2 ys (SetTable.grown ys.size)
  have q4 := relayAll_led T2 ys (SetTable.grown ys.size)
  generalize relayAll T2 ys (SetTable.grown ys.size) = Z at q1 q2 q3 q4 ⊢
  obtain ⟨zs, T3, gave⟩ := Z
  dsimp only at q1 q2 q3 q4 ⊢
  have num2 : zs.size = M.length := by rw [← Array.length_toList, q1.length_eq, Array.length_toList, num]
  refine wpAny_bind (hg _ _ _ ?_)
  refine wpAny_bind (wpAny_storeSet_of ho1 rfl ?_ (by rw [num2, sizeLine_eq]; omega))
  have ho2 := store_at (es' := zs) (t' := T3) ho1 rfl
  have pm2 : (zs.toList.map txOf).Perm M := (q1.map txOf).trans pm
  exact wpAny_pure (hQ _ _ zs _ T3 (sb1.trans (Heap.SameBut.update _ c _)) ⟨⟨_, ho2, hex, rfl⟩, fun e he => h1 e (q1.mem_iff.mp he), rfl, pm2.nodup_iff.mpr h2, q2, q3, h5.imp id fun z => by rw [q4]; exact z, by rw [pm2.length_eq]; exact h6⟩ pm2)
/-- a text put into the set -/
theorem txt_in (R : XSet w s.heap c N xs k T) {x : Str} {t : Tok} (hf : N.length + 1 < 64) {Q : Bool → Shared → Prop}
    (hQ : ∀ r h' N' ys' k' T', Heap.SameBut c s.heap h' → XSet w h' c N' ys' k' T' → (x ∈ N → N' = N) → (x ∉ N → N'.Perm (x :: N)) → Q r { s with heap := h' }) :
    wpAny (model P w) A (setAddHashed c (.str x t) (hashStr w x)) Q E s := by
  obtain ⟨o, ho, hex, hd⟩ := R.ob
  have el : ElemsOf (strKind P w) xs.toList := txt_elems R.txt
  have num := R.num
  unfold setAddHashed setAddHashedIn
  refine wpAny_holding (wpAny_bind (wpAny_setState_of ho hd R.fit ?_))
  dsimp only
  rw [byScan_of (knd := strKind P w) (x := Value.str x t) rfl (by have := R.few; rw [num]; unfold scanBound; omega) el]
  simp only [↓reduceIte]
  unfold setAddByScan
  refine wpAny_bind (wpAny_bind (wpAny_rule (wpAny_bind ?_)))
  refine wpAny_setScan_of (knd := strKind P w) (k := x) (strKind_is _ _ _ _) ho hd R.fit el ?_
  cases hfi : List.findIdx? (fun e => (strKind P w).is x e.2) xs.toList with
  | some j =>
    dsimp only
    obtain ⟨hj, pj, _⟩ := List.findIdx?_eq_some_iff_getElem.mp hfi
    have hm : x ∈ N := by
      rw [← R.rows]
      exact List.mem_map.mpr ⟨_, List.getElem_mem hj, (txt_is (P := P) (R.txt _ (List.getElem_mem hj)) x).mp pj⟩
    exact wpAny_pure (wpAny_pure (hQ false s.heap N xs k T (Heap.SameBut.refl c s.heap) R (fun _ => rfl) fun z => absurd hm z))
  | none =>
    dsimp only
    have hm : x ∉ N := fun z => by
      rw [← R.rows] at z
      obtain ⟨e, he, q⟩ := List.mem_map.mp z
      have q2 := List.findIdx?_eq_none_iff.mp hfi e he
      rw [(txt_is (P := P) (R.txt e he) x).mpr q] at q2
      cases q2
    have p1 := layNew_perm T xs (hashStr w x) (.str x t)
    have p2 := layNew_fits T xs (hashStr w x) (.str x t)
    have p3 := layNew_ris T xs (hashStr w x) (.str x t) R.ris
    have p4 := layNew_led T xs (hashStr w x) (.str x t)
    generalize hZ : layNew T xs (hashStr w x) (.str x t) = Z at p1 p2 p3 p4 ⊢
    obtain ⟨ys, T1, dum, gave⟩ := Z
    dsimp only at p1 p2 p3 p4 ⊢
    rw [Array.toList_push] at p1
    have pc : ys.toList.Perm ((hashStr w x, Value.str x t) :: xs.toList) := p1.trans (List.perm_append_singleton _ _)
    have pm : (ys.toList.map txOf).Perm (x :: N) := by
      have z := pc.map txOf
      rw [List.map_cons, R.rows] at z
      exact z
    have g1 : ∀ e ∈ ys.toList, TxE w e := fun e he => by
      rcases List.mem_cons.mp (pc.mem_iff.mp he) with z | z
      · rw [z]; exact ⟨x, t, rfl, rfl⟩
      · exact R.txt e z
    have nd1 : (x :: N).Nodup := List.nodup_cons.mpr ⟨hm, R.nd⟩
    have led1 : w.params.followText "set-order" = true ∨ T1.led = true := R.led.imp id fun z => by rw [p4]; exact z
    have fin : ∀ h' N' ys' k' T', Heap.SameBut c s.heap h' → XSet w h' c N' ys' k' T' → N'.Perm (x :: N) → Q true { s with heap := h' } := fun h' N' ys' k' T' sb R' pq =>
      hQ true h' N' ys' k' T' sb R' (fun z => absurd z hm) fun _ => pq
    have hgw : ∀ (g : Bool → Sem Unit), (∀ b, g b = match b with | true => rule "set.scan.the-table-gave-way" | false => pure ()) → ∀ (b : Bool) (z : Shared) (Q' : Unit → Shared → Prop), Q' () z → wpAny (model P w) A (g b) Q' E z :=
      fun g hg b z Q' q => by rw [hg]; cases b <;> first | exact wpAny_pure q | exact wpAny_rule q
    refine wpAny_bind (hgw _ (fun b => by cases b <;> rfl) _ _ _ ?_)
    have few1 : (x :: N).length < 64 := by rw [List.length_cons]; exact hf
    split
    · refine wpAny_bind ?_
      rw [hashByValue_scannable 8 (x := Value.str x t) rfl]
      refine wpAny_pure ?_
      refine txt_store ho hex hd pm g1 nd1 ?_ ?_ ?_ few1 (hgw _ fun b => by cases b <;> rfl) fun h' N' ys' k' T' sb R' pq => ?_
      · first | (split <;> first | exact p2 | exact SetTable.fits_plain_off p2) | exact p2
      · first | (split <;> exact p3) | exact p3
      · first | (split <;> exact led1) | exact led1
      · dsimp only
        exact wpAny_pure (fin h' N' ys' k' T' sb R' pq)
    · refine wpAny_bind (wpAny_pure ?_)
      simp only [↓reduceIte]
      refine txt_store ho hex hd pm g1 nd1 p2 p3 led1 few1 (hgw _ fun b => by cases b <;> rfl) fun h' N' ys' k' T' sb R' pq => ?_
      dsimp only
      exact wpAny_pure (fin h' N' ys' k' T' sb R' pq)
end
end Wy

set_option Elab.async false
set_option linter.all false
set_option maxRecDepth 100000
set_option maxHeartbeats 4000000
/-! W17: sets as tracked things; set comprehensions of texts, of tuples. -/
namespace Wy
open PySem PySem.Spec PyProof.Rows L2
abbrev newSetO (w : World) : Obj := { cls := .type "set", dict := none, data := .set #[] 0 (.fresh 0 0 (!w.params.followText "set-order")) }
/-- what a kind of sets is: its things, what may be put in, what stands in behind that -/
structure SetK (α : Type) where
  ob : World → Addr → List α → HO
  can : Program → World → PySem.W.Frag → Hp → List α → V → α → Prop
  rel : List α → List α → α → Prop
  new : ∀ (P : Program) (w : World) (H : Hp) (h : Heap), ObjOk P w H (h.push (newSetO w)) h.objs.size (ob w h.objs.size [])
  add : ∀ (X : Cx) (pins : List (Addr × Obj)) (σ : L2.St) (H : Hp) (s : Shared) (E : Value → Shared → Prop) (c : Addr) (N : List α) (x : V) (u : Value) (y : α) (Q : Value → Shared → Prop),
    Inv X pins σ H s → X.A.units + 12 < cLine → H c = some (ob X.w c N) → RelV x u → can X.prog X.w X.K H N x y → N.length + 1 < 64 →
    (∀ N' z, rel N N' y → Inv X pins σ (upd H c (ob X.w c N')) z → Q .none z) → wpAny (model X.prog X.w) X.A (call (.builtin "set.add") [.ref c, u]) Q E s
/-! ### texts -/
def XSO (w : World) (c : Addr) (N : List Str) : HO := .ext fun h => ∃ xs k T, XSet w h c N xs k T
theorem XSet.at {w : World} {h h' : Heap} {c : Addr} {N : List Str} {xs : Array (Int × Value)} {k : Nat} {T : SetTable} (R : XSet w h c N xs k T) (kp : ∀ o, h.get? c = some o → h'.get? c = some o) : XSet w h' c N xs k T := by
  obtain ⟨⟨o, h1, h2⟩, h3, h4, h5, h6, h7, h8, h9⟩ := R
  exact ⟨⟨o, kp o h1, h2⟩, h3, h4, h5, h6, h7, h8, h9⟩
theorem xs_ok {P : Program} {w : World} {H : Hp} {h : Heap} {c : Addr} {N : List Str} {xs : Array (Int × Value)} {k : Nat} {T : SetTable} (R : XSet w h c N xs k T) : ObjOk P w H h c (XSO w c N) := by
  obtain ⟨o, h1, _⟩ := R.ob
  exact ⟨⟨xs, k, T, R⟩, ⟨o, h1⟩, fun a b ⟨x1, k1, t1, q⟩ kp => ⟨x1, k1, t1, q.at kp⟩⟩
theorem led_new (w : World) : w.params.followText "set-order" = true ∨ (!w.params.followText "set-order") = true := by
  cases w.params.followText "set-order"
  · exact .inr rfl
  · exact .inl rfl
theorem xs_new (w : World) (h : Heap) : XSet w (h.push (newSetO w)) h.objs.size [] #[] 0 (.fresh 0 0 (!w.params.followText "set-order")) :=
  ⟨⟨_, Heap.get?_push_size _ rfl, ⟨rfl, rfl, rfl⟩, rfl⟩, fun e he => by simp at he, rfl, List.nodup_nil, by rfl, List.Pairwise.nil, led_new w, by decide⟩
theorem xs_add (X : Cx) (pins : List (Addr × Obj)) (σ : L2.St) (H : Hp) (s : Shared) (E : Value → Shared → Prop) (c : Addr) (N : List Str) (x : V) (u : Value) (y : Str) (Q : Value → Shared → Prop)
    (I : Inv X pins σ H s) (hc : H c = some (XSO X.w c N)) (r : RelV x u) (e : x = .str y) (few : N.length + 1 < 64)
    (h : ∀ N' z, ((y ∈ N → N' = N) ∧ (y ∉ N → N'.Perm (y :: N))) → Inv X pins σ (upd H c (XSO X.w c N')) z → Q .none z) : wpAny (model X.prog X.w) X.A (call (.builtin "set.add") [.ref c, u]) Q E s := by
  subst e
  obtain ⟨t, rfl⟩ := r
  obtain ⟨⟨xs, k, T, R⟩, _⟩ := I.hok c _ hc
  have hT : s.TypeIs (.ref c) "set" := by
    obtain ⟨o, h1, h2, _⟩ := R.ob
    exact ⟨o, h1, h2.1⟩
  refine wpAny_call_entry F.slot_set_add hT F.entry_set_add ?_ (F.args_set_add_2 _ _)
  unfold Builtin.«set.add» Builtin.Frozenset.oneOther
  simp only [List.isEmpty_nil, bind_assoc]
  unfold Builtin.Frozenset.addrOf setAdd
  refine wpAny_bind (wpAny_pure ?_)
  try dsimp only
  refine wpAny_bind (wpAny_pure ?_)
  try dsimp only
  refine wpAny_bind (wpAny_holding (wpAny_bind (wpAny_pyHash_str ?_)))
  refine txt_in (s := { s with toks := s.toks + 1 }) R few fun b h' N' ys k' T' sb R' y1 y2 => ?_
  refine wpAny_pure ⟨_, rfl, h N' _ ⟨y1, y2⟩ ?_⟩
  have he : ∃ o, h'.get? c = some o := by
    obtain ⟨o, h1, _⟩ := R'.ob
    exact ⟨o, h1⟩
  exact I.write (e := c) (t' := s.toks + 1) (by rw [hc]; trivial) (.inl rfl) (fun b o hb ho => (sb.2 b hb).trans ho) he (xs_ok R')
def textSet : SetK Str where
  ob := XSO
  can := fun _ _ _ _ _ x y => x = .str y
  rel := fun N N' y => (y ∈ N → N' = N) ∧ (y ∉ N → N'.Perm (y :: N))
  new := fun P w H h => xs_ok (xs_new w h)
  add := fun X pins σ H s E c N x u y Q I _ hc r e few h => xs_add X pins σ H s E c N x u y Q I hc r e few h
/-! ### tuples -/
structure TSet0 (w : World) (h : Heap) (c : Addr) (N : List El) (xs : Array (Int × Value)) (k : Nat) (T : SetTable) : Prop where
  ob : ∃ o, h.get? c = some o ∧ o.ExactSet ∧ o.data = .set xs k T
  rows : xs.toList = N.map (row w)
  tab : TabOk T (N.map (hsh w))
  nd : (N.map (·.2)).Nodup
  led : w.params.followText "set-order" = true ∨ T.led = true
  room : 5 * N.length < 3 * T.mask
  few : N.length < 64
def TSO (w : World) (c : Addr) (N : List El) : HO := .ext fun h => ∃ xs k T, TSet0 w h c N xs k T
theorem TSet0.full {U : D → Prop} {w : World} {h : Heap} {c : Addr} {N : List El} {xs : Array (Int × Value)} {k : Nat} {T : SetTable} (R : TSet0 w h c N xs k T) (e : ∀ p ∈ N, KT U h p.1 p.2) : TSet U w h c N xs k T := ⟨R.ob, R.rows, R.tab, R.nd, e, R.led, R.room, R.few⟩
theorem TSet.shell {U : D → Prop} {w : World} {h : Heap} {c : Addr} {N : List El} {xs : Array (Int × Value)} {k : Nat} {T : SetTable} (R : TSet U w h c N xs k T) : TSet0 w h c N xs k T := ⟨R.ob, R.rows, R.tab, R.nd, R.led, R.room, R.few⟩
theorem ts_ok {P : Program} {w : World} {H : Hp} {h : Heap} {c : Addr} {N : List El} {xs : Array (Int × Value)} {k : Nat} {T : SetTable} (R : TSet0 w h c N xs k T) : ObjOk P w H h c (TSO w c N) := by
  obtain ⟨o, h1, _⟩ := R.ob
  refine ⟨⟨xs, k, T, R⟩, ⟨o, h1⟩, fun a b ⟨x1, k1, t1, q⟩ kp => ⟨x1, k1, t1, ?_⟩⟩
  obtain ⟨⟨o, h1, h2⟩, h3, h4, h5, h6, h7, h8⟩ := q
  exact ⟨⟨o, kp o h1, h2⟩, h3, h4, h5, h6, h7, h8⟩
theorem ts_new (w : World) (h : Heap) : TSet0 w (h.push (newSetO w)) h.objs.size [] #[] 0 (.fresh 0 0 (!w.params.followText "set-order")) :=
  ⟨⟨_, Heap.get?_push_size _ rfl, ⟨rfl, rfl, rfl⟩, rfl⟩, rfl, ⟨List.Pairwise.nil, rfl, rfl, .inl rfl, fun x hx => (by cases hx), fun i h j hi => (by simp at hi)⟩, List.nodup_nil, led_new w, by show 5 * 0 < 3 * 7; decide, by decide⟩
/-- the tuple at b, by what is known of the heap -/
def KV (U : D → Prop) (K : PySem.W.Frag) (H : Hp) (p : El) : Prop := Dp K H (.ref p.1) p.2 ∧ keyOkD p.2 = true ∧ p.2.depth ≤ 8 ∧ p.2.canLay0 = true ∧ U p.2
theorem KV.kt {U : D → Prop} {X : Cx} {pins : List (Addr × Obj)} {σ : L2.St} {H : Hp} {s : Shared} (I : Inv X pins σ H s) {p : El} (h : KV U X.K H p) : KT U s.heap p.1 p.2 := ⟨Dp.reads I p.2 _ (.ref p.1) h.1 rfl, h.2⟩
theorem ts_add (U : D → Prop) (hU : EqU U) (X : Cx) (pins : List (Addr × Obj)) (σ : L2.St) (H : Hp) (s : Shared) (E : Value → Shared → Prop) (c : Addr) (N : List El) (x : V) (u : Value) (y : El) (Q : Value → Shared → Prop)
    (I : Inv X pins σ H s) (hu : X.A.units + 12 < cLine) (hc : H c = some (TSO X.w c N)) (r : RelV x u) (e : x = .ref y.1 ∧ KV U X.K H y ∧ ∀ p ∈ N, KV U X.K H p) (few : N.length + 1 < 64)
    (h : ∀ N' z, ((y.2 ∈ N.map (·.2) → N' = N) ∧ (y.2 ∉ N.map (·.2) → N'.Perm (y :: N))) → Inv X pins σ (upd H c (TSO X.w c N')) z → Q .none z) : wpAny (model X.prog X.w) X.A (call (.builtin "set.add") [.ref c, u]) Q E s := by
  obtain ⟨rfl, ky, kn⟩ := e
  cases r
  obtain ⟨⟨xs, k, T, R0⟩, _⟩ := I.hok c _ hc
  have R : TSet U X.w s.heap c N xs k T := R0.full fun p hp => (kn p hp).kt I
  have kt := ky.kt I
  obtain ⟨⟨as, rd⟩, k2, d2, _⟩ := id kt
  have hT : s.TypeIs (.ref c) "set" := by
    obtain ⟨o, h1, h2, _⟩ := R.ob
    exact ⟨o, h1, h2.1⟩
  refine wpAny_call_entry F.slot_set_add hT F.entry_set_add ?_ (F.args_set_add_2 _ _)
  unfold Builtin.«set.add» Builtin.Frozenset.oneOther
  simp only [List.isEmpty_nil, bind_assoc]
  unfold Builtin.Frozenset.addrOf setAdd
  refine wpAny_bind (wpAny_pure ?_)
  try dsimp only
  refine wpAny_bind (wpAny_pure ?_)
  try dsimp only
  refine wpAny_bind (wpAny_holding (wpAny_bind (hash_at y.2 _ as _ _ _ k2 rd ?_ fun n => ?_)))
  · first | (rw [Around.in1_units]; omega) | omega
  refine put_in (s := { s with toks := n }) hU R kt ?_ few fun b h' N' ys k' T' sb R' y1 y2 => ?_
  · first | (rw [Around.in1_units]; omega) | omega
  refine wpAny_pure ⟨_, rfl, h N' _ ⟨y1, y2⟩ ?_⟩
  have he : ∃ o, h'.get? c = some o := by
    obtain ⟨o, h1, _⟩ := R'.ob
    exact ⟨o, h1⟩
  exact I.write (e := c) (t' := n) (by rw [hc]; trivial) (.inl rfl) (fun b o hb ho => (sb.2 b hb).trans ho) he (ts_ok R'.shell)
def tupSet (U : D → Prop) (hU : EqU U) : SetK El where
  ob := TSO
  can := fun _ _ K H N x y => x = .ref y.1 ∧ KV U K H y ∧ ∀ p ∈ N, KV U K H p
  rel := fun N N' y => (y.2 ∈ N.map (·.2) → N' = N) ∧ (y.2 ∉ N.map (·.2) → N'.Perm (y :: N))
  new := fun P w H h => ts_ok (ts_new w h)
  add := fun X pins σ H s E c N x u y Q I hu hc r e few h => ts_add U hU X pins σ H s E c N x u y Q I hu hc r e few h
end Wy

set_option Elab.async false
set_option linter.all false
set_option maxRecDepth 100000
set_option maxHeartbeats 4000000
/-! W18: {elt for target in iter if ..}, by a kind of sets. -/
namespace Wy
open PySem PySem.Spec PyProof.Rows L2
/-- the reading: D is the new set -/
def tSG {α : Type} (S : SetK α) (P : Program) (w : World) (K : PySem.W.Frag) (wi : TI) (g : TG) (tt : TT) (te : TE) (vs : List Nat) : TE := fun σ H Q => wi σ H fun J H1 =>
  ∀ D, H1 D = none → ∃ W : Nat → Nat → Hp → Prop, (∃ m, W 0 m (upd H1 D (S.ob w D []))) ∧ ∀ i m G, W i m G →
    (J.stop i G ∧ Q (.ref D) G) ∨ (J.go i G ∧ ∃ Nx : Hp → Prop, (∀ G', Nx G' → ∃ m', m' < m ∧ W (i + 1) m' G') ∧
      ∀ x G', J.yld i G x G' → g x (wipe σ vs) G' fun σ2 H2 => wipe σ2 vs = wipe σ vs ∧ tt σ2 H2 fun b H3 =>
        if b = true then te σ2 H3 fun y H4 => ∃ N z, H4 D = some (S.ob w D N) ∧ S.can P w K H4 N y z ∧ N.length + 1 < 64 ∧ ∀ N', S.rel N N' z → Nx (upd H4 D (S.ob w D N')) else Nx H3)
section
variable {α : Type} {X : Cx}
theorem sg_core (S : SetK α) {elt tg it : Expr} {ifs : List Expr} {scope : Scope} {own : List (PySem.Str × Nat)} {pos p' : Pos} {wi : TI} {g : TG} {tt : TT} {te : TE} {use : Option (Value → Sem Unit)} {Qf : Value → Shared → Prop}
    {pins : List (Addr × Obj)} {s : Shared} {σ : L2.St} {H : Hp} {Q : VK} (hu : X.A.units + 12 < cLine) (hc : X.calm = true) (hN : X.N.Nodup) (I : Inv X pins σ H s) (hi : PI X tg it wi) (ok : BlkOk X.N X.env.scope scope own)
    (hg : ∀ (z : Shared) (G : Hp) (C : Addr) (cl : List (PySem.Str × Addr)) (fp : List Addr), PG (X.blk z G scope (compEnvC scope cl C X.env) fp) tg g)
    (ht : ∀ (z : Shared) (G : Hp) (C : Addr) (cl : List (PySem.Str × Addr)) (fp : List Addr), PTs (X.blk z G scope (compEnvC scope cl C X.env) fp) ifs tt)
    (he : ∀ (z : Shared) (G : Hp) (C : Addr) (cl : List (PySem.Str × Addr)) (fp : List Addr), PE (X.blk z G scope (compEnvC scope cl C X.env) fp) elt te) (hs : ∀ x, foldedSetIterable it X.env x = pure x)
    (h : tSG S X.prog X.w X.K wi g tt te (own.map (·.2)) σ H Q)
    (back : ∀ D C z m G, Inv X pins σ G z → Q (.ref D) G → z.heap.Ns C m → FpOk X pins G C → compPost (model X.prog X.w) X.A X.xe use Qf (.ref D) C (.ok .next) z) :
    wpAny (model X.prog X.w) X.A (comprehension (.SetComp elt [⟨tg, it, ifs, 0⟩] scope pos) scope X.env p' (newSet (.type "set")) false (eval it X.env) use) Qf X.xe s := by
  have cells : ∀ y ∈ scope.names, y.2 = .free → ∃ c, X.env.cells.lookup y.1 = some c := fun y hy e => (ok.free y hy e).elim (fun k => I.ok.has _ (.inl k)) fun k => I.ok.has _ (.inr k)
  refine wpAny_comprehension_free (use := use) rfl hs (closure_ok cells) ok.kind (fun y hy e => by rw [ok.uniq y hy, e]) (thn (hi.run pins s σ H _ I h) fun xv s1 hx => thn hx fun itv s2 h2 => ?_)
  obtain ⟨ia, fp, tn, J, H2, e, I2, T, st2, f2, q⟩ := h2
  subst e
  refine PpSet.newSet_ok (newEnv_comp ?_)
  generalize hD : s2.heap.objs.size = D
  have nD : H2 D = none := I2.hok.fresh (Nat.le_of_eq hD)
  obtain ⟨W, ⟨m0, w0⟩, turn⟩ := q D nD
  generalize hs3 : ({ s2 with heap := s2.heap.push (newSetO X.w) } : Shared) = s3
  have h3 : s3.heap = s2.heap.push (newSetO X.w) := by rw [← hs3]
  have grow : ∀ b o, s2.heap.get? b = some o → s3.heap.get? b = some o := fun b o e => by rw [h3]; exact Heap.get?_push_of_some _ e
  have I3 : Inv X pins σ (upd H2 D (S.ob X.w D [])) s3 := by
    rw [← hs3]
    refine I2.laid (t' := s2.toks) (fun b o e => Heap.get?_push_of_some _ e) (Nat.le_of_eq hD) ?_
    rw [← hD]
    exact S.new ..
  have below : ∀ b ∈ fp, b < s2.heap.objs.size := fun b hb => let ⟨_, e, _⟩ := T.obj _ _ st2 b hb; Heap.lt_size e
  have f3 : ∀ b ∈ fp, FpOk X pins (upd H2 D (S.ob X.w D [])) b ∧ b < s3.heap.objs.size := fun b hb => by
    have lt := below b hb
    refine ⟨⟨?_, (f2 b hb).2⟩, by rw [h3, Heap.size_push]; exact Nat.lt_succ_of_lt lt⟩
    rw [upd_ne (hD ▸ Nat.ne_of_lt lt)]
    exact (f2 b hb).1
  have st3 : tn 0 s3.heap := T.keep _ _ _ st2 fun b _ o e => grow b o e
  have I4 := block_start I3 ok hN f3
  have pg := hg s3 (upd H2 D (S.ob X.w D [])) s3.heap.objs.size (cellsFrom (s3.heap.objs.size + 1) scope.names (cloFrom X.env.cells scope.names [])) fp
  have pt := ht s3 (upd H2 D (S.ob X.w D [])) s3.heap.objs.size (cellsFrom (s3.heap.objs.size + 1) scope.names (cloFrom X.env.cells scope.names [])) fp
  have pe := he s3 (upd H2 D (S.ob X.w D [])) s3.heap.objs.size (cellsFrom (s3.heap.objs.size + 1) scope.names (cloFrom X.env.cells scope.names [])) fp
  show codeAny _ _ (.compStart (.SetComp elt [⟨tg, it, ifs, 0⟩] scope pos) 0 (.ref ia) (.ref D) (compEnvC scope (cellsFrom (s3.heap.objs.size + 1) scope.names (cloFrom X.env.cells scope.names [])) s3.heap.objs.size X.env))
    (compPost (model X.prog X.w) X.A X.xe use Qf (.ref D) s3.heap.objs.size) { s3 with heap := pushCells (s3.heap.push { cls := .type "dict", data := .dict #[] }) scope.names }
  have nofp : ∀ b ∈ fp, (upd H2 D (S.ob X.w D [])) b = none := fun b hb => (f3 b hb).1.1
  generalize hce : compEnvC scope (cellsFrom (s3.heap.objs.size + 1) scope.names (cloFrom X.env.cells scope.names [])) s3.heap.objs.size X.env = ce at I4 pg pt pe ⊢
  have loc : ce.locals = s3.heap.objs.size := by rw [← hce]; rfl
  generalize hH3 : upd H2 D (S.ob X.w D []) = H3 at I3 I4 pg pt pe w0 nofp f3
  generalize hs4 : ({ s3 with heap := pushCells (s3.heap.push { cls := .type "dict", data := .dict #[] }) scope.names } : Shared) = s4 at I4 ⊢
  have st4 : tn 0 s4.heap := T.keep _ _ _ st3 fun b _ o e => by rw [← hs4]; exact pushCells_keeps _ _ _ _ (Heap.get?_push_of_some _ e)
  have foot : ∀ {τ : L2.St} {G : Hp} {z : Shared}, Inv (X.blk s3 H3 scope ce fp) [] τ G z → (∀ b ∈ fp, G b = none) → ∀ b ∈ fp, FpOk (X.blk s3 H3 scope ce fp) [] G b := fun J' hn b hb =>
    ⟨hn b hb, (J'.ok.exf b hb).1, J'.ok.exfs b hb, .inl hb, fun x c e => (J'.ok.exf b hb).2 x c e, fun p hp => absurd (show p ∈ ([] : List (Addr × Obj)) ++ [] from hp) (by simp)⟩
  have loop : codeAny (model X.prog X.w) X.A (.compLoop (.SetComp elt [⟨tg, it, ifs, 0⟩] scope pos) 0 (.ref ia) (.ref D) ce) (compPost (model X.prog X.w) X.A X.xe use Qf (.ref D) s3.heap.objs.size) s4 := by
    refine PpSet.compLoopS_any (fun n z => ∃ i G, Inv (X.blk s3 H3 scope ce fp) [] (wipe σ (own.map (·.2))) G z ∧ tn i z.heap ∧ (∀ b ∈ fp, G b = none) ∧ W i n G) ?_ m0 ⟨0, H3, I4, st4, nofp, w0⟩
    rintro n s5 ⟨i, H5, I5, st5, n5, w5⟩
    rcases turn i n H5 w5 with ⟨stop, qq⟩ | ⟨go, Nx, hNx, step⟩
    · refine thnF (T.done (X.blk s3 H3 scope ce fp) rfl rfl rfl hc i [] s5 _ H5 (fun _ _ => False) I5 (foot I5 n5) st5 stop) fun r s6 ⟨hr, I6⟩ => ?_
      subst hr
      have I7 : Inv X pins σ H5 s6 := I3.call' (ch := fp) I6.os I6.base I6.hok I6.bare fun b hb =>
        let z := (f3 b hb).1.2
        ⟨z.2.2.1, z.1, z.2.2.2.1, z.2.2.2.2⟩
      have free : H5 ce.locals = none := I6.free
      obtain ⟨m, hn, _⟩ := I6.loc
      have hn : s6.heap.Ns ce.locals m := hn
      rw [loc] at free hn
      exact back D s3.heap.objs.size s6 m H5 I7 qq hn (I3.fpOk (Nat.le_refl _) free)
    · refine thnF (T.item (X.blk s3 H3 scope ce fp) rfl rfl rfl hc i [] s5 _ H5 (fun _ _ => False) I5 (foot I5 n5) st5 go) fun r s6 ⟨u, hr, h6⟩ => ?_
      subst hr
      refine thnF h6 fun _ s7 ⟨x, H7, I7, r7, y7, st7, n7⟩ => ?_
      refine thnF (pg.run _ s7 _ H7 x u _ (I7.pinned (foot I7 n7) (T.obj _ _ st7)) r7 (step x H7 y7)) fun _ s8 ⟨σ8, H8, I8, hw8, q8⟩ => ?_
      refine thnF (pt.run _ s8 σ8 H8 _ I8 q8) fun b s9 ⟨H9, I9, q9⟩ => ?_
      have fin : ∀ {z : Shared} {G : Hp}, Inv (X.blk s3 H3 scope ce fp) ([] ++ pinsAt fp s7.heap) σ8 G z → Nx G →
          ∃ m, m < n ∧ ∃ i G, Inv (X.blk s3 H3 scope ce fp) [] (wipe σ (own.map (·.2))) G z ∧ tn i z.heap ∧ (∀ b ∈ fp, G b = none) ∧ W i m G := fun {z G} J' nx => by
        obtain ⟨m', hm, w'⟩ := hNx G nx
        have stay : ∀ b ∈ fp, ∀ o, s7.heap.get? b = some o → z.heap.get? b = some o ∧ G b = none := fun b hb o e =>
          let y := J'.pin (b, o) (List.mem_append_right _ (List.mem_append_right _ (mem_pinsAt hb e)))
          ⟨y.1, y.2.1⟩
        refine ⟨m', hm, i + 1, G, (J'.unpinned (pins := [])).weak (by rw [← hw8, wipe_length]) (fun j v e => ?_), T.keep _ _ _ st7 fun b hb o e => (stay b hb o e).1, fun b hb => ?_, w'⟩
        · rw [← hw8] at e
          exact (wipe_some e).1
        · obtain ⟨o, e, _⟩ := T.obj _ _ st7 b hb
          exact (stay b hb o e).2
      cases b with
      | false =>
        simp only [Bool.false_eq_true, if_false] at q9 ⊢
        exact fin I9 q9
      | true =>
        simp only [if_true] at q9 ⊢
        refine thnF (pe.run _ s9 σ8 H9 _ I9 q9) fun v s10 ⟨y, H10, I10, r10, N, z, hD10, can, few, nx⟩ => ?_
        exact S.add (X.blk s3 H3 scope ce fp) _ _ _ _ _ _ _ _ _ _ _ I10 hu hD10 r10 can few fun N' s11 rel I11 => fin I11 (nx N' rel)
  exact PpSet.codeAny_compStart_set loop (T.self X.A 0 _ _ _ st4 loop)
theorem pe_sg (S : SetK α) {elt tg it : Expr} {ifs : List Expr} {scope : Scope} {own : List (PySem.Str × Nat)} {pos : Pos} {wi : TI} {g : TG} {tt : TT} {te : TE} (hu : X.A.units + 12 < cLine) (hc : X.calm = true) (hN : X.N.Nodup) (hi : PI X tg it wi) (ok : BlkOk X.N X.env.scope scope own)
    (hg : ∀ (z : Shared) (G : Hp) (C : Addr) (cl : List (PySem.Str × Addr)) (fp : List Addr), PG (X.blk z G scope (compEnvC scope cl C X.env) fp) tg g)
    (ht : ∀ (z : Shared) (G : Hp) (C : Addr) (cl : List (PySem.Str × Addr)) (fp : List Addr), PTs (X.blk z G scope (compEnvC scope cl C X.env) fp) ifs tt)
    (he : ∀ (z : Shared) (G : Hp) (C : Addr) (cl : List (PySem.Str × Addr)) (fp : List Addr), PE (X.blk z G scope (compEnvC scope cl C X.env) fp) elt te) (hs : ∀ x, foldedSetIterable it X.env x = pure x := by intro _; rfl) :
    PE X (.SetComp elt [⟨tg, it, ifs, 0⟩] scope pos) (tSG S X.prog X.w X.K wi g tt te (own.map (·.2))) := by
  refine ⟨fun pins s σ H Q I h => ?_⟩
  rw [PpSet.eval_SetComp]
  refine sg_core S hu hc hN I hi ok hg ht he hs h fun D C z m G J q hn f => ⟨m, hn, fun h'' sb => ?_⟩
  obtain ⟨a0, a1, a2, a3, a4, a5⟩ := f
  exact ⟨.ref D, G, J.turned (t' := z.toks) (fun b o hb e => (sb.2 b hb).trans e) a0 a1 a3 a4 a5, rfl, q⟩
end
end Wy

set_option Elab.async false
set_option linter.all false
set_option maxRecDepth 100000
set_option maxHeartbeats 4000000
/-! W19: sorted of a list of data. -/
namespace Wy
open PySem PySem.Spec PyProof.Rows L2 PySem.W
abbrev leP : V × D → V × D → Bool := dataLe false fun b => b.2
abbrev leD : D → D → Bool := dataLe false fun d => d
def SortOk (ds : List D) : Prop := AllAlike ds ∧ Sortable ds ∧ ∀ d ∈ ds, d.depth ≤ 40 ∧ d.canLay0 = true
theorem each_of_vals : ∀ {bs : List (V × D)} {us : List Value}, Vals (bs.map (·.1)) us → EachIs (fun v (b : V × D) => RelV b.1 v) us bs
  | [], us, r => by cases r; exact .nil
  | b :: bs, us, r => by
    cases r with
    | cons h t => exact .cons h (each_of_vals t)
theorem vals_of_each : ∀ {bs : List (V × D)} {us : List Value}, EachIs (fun v (b : V × D) => RelV b.1 v) us bs → Vals (bs.map (·.1)) us
  | _, _, .nil => .nil
  | _, _, .cons h t => .cons h (vals_of_each t)
section
variable {X : Cx}
def rSortD (K : PySem.W.Frag) : List V → Hp → VK → Prop := fun vs H Q => ∃ (a : Addr) (bs : List (V × D)), vs = [.ref a] ∧ SqL K H a (bs.map (·.1)) ∧ (∀ b ∈ bs, Dp K H b.1 b.2) ∧ SortOk (bs.map (·.2)) ∧
  ∀ p, H p = none → Q (.ref p) (upd H p (.lst ((bs.mergeSort leP).map (·.1))))
theorem cr_sortD (hu : X.A.units + 65 < cLine) : CallR X (.builtin "sorted") (rSortD X.K) := by
  intro pins s σ H vs us Q I r h
  obtain ⟨a, bs, rfl, hs, hd, ⟨k1, k2, k3⟩, q⟩ := h
  obtain ⟨its, rv, hl, hz⟩ := I.list hs
  rw [Vals.ref1 r]
  have e1 := each_of_vals rv
  have er : EachIs (fun v (b : V × D) => ∃ as, Reads s.heap v b.2 as) its bs := (each_mem e1).mono fun v b ⟨x, hb⟩ => Dp.reads I b.2 b.1 v (hd b hb) x
  have hlen : bs.length ≤ sizeLine := by rwa [List.length_map] at hz
  refine PySem.W.sorted_data (bs := bs) (enc := fun b => b.2) hl.isList e1 er k1 k2 hlen (fun b hb => ?_) fun out ol oe => ?_
  · have := (k3 b.2 (List.mem_map.mpr ⟨b, hb, rfl⟩)).1
    omega
  · obtain ⟨ep, hp⟩ := PyProof.Rows.sortedAll_at s.heap its (List.toArray out)
    have vo := vals_of_each oe
    refine ⟨.ref _, upd H (s.heap.objs.size + 1) (.lst ((bs.mergeSort leP).map (·.1))), I.laid (t' := s.toks) (fun _ _ => PyProof.Rows.sortedAll_old) (Nat.le_succ _) ⟨?_, out, ep, vo, hp⟩, rfl, q _ (I.hok.fresh (Nat.le_succ _))⟩
    rw [List.length_map, List.length_mergeSort]
    exact hlen
/-- sorted(xs) -/
def oSortD : O1 := fun x Q => match x with
  | .list ds => SortOk ds ∧ Q (.list (ds.mergeSort leD))
  | _ => False
theorem RPs.zip {K : PySem.W.Frag} {bx : Bx} {T : Addr → Prop} {H : Hp} : ∀ {vs : List V} {ds : List D}, RPs K bx T H vs ds → (∀ b ∈ vs.zip ds, RP K bx T H b.1 b.2) ∧ (vs.zip ds).map (·.1) = vs ∧ (vs.zip ds).map (·.2) = ds
  | _, _, .nil => ⟨fun b h => (by cases h), rfl, rfl⟩
  | _, _, .cons h r => by
    obtain ⟨h1, h2, h3⟩ := RPs.zip r
    refine ⟨fun b hb => ?_, ?_, ?_⟩
    · rcases List.mem_cons.mp hb with rfl | hb
      · exact h
      · exact h1 b hb
    · rw [List.zip_cons_cons, List.map_cons, h2]
    · rw [List.zip_cons_cons, List.map_cons, h3]
theorem RPs.unzip {K : PySem.W.Frag} {bx : Bx} {T : Addr → Prop} {H : Hp} : ∀ {bs : List (V × D)}, (∀ b ∈ bs, RP K bx T H b.1 b.2) → RPs K bx T H (bs.map (·.1)) (bs.map (·.2))
  | [], _ => .nil
  | b :: bs, h => .cons (h b List.mem_cons_self) (RPs.unzip fun x hx => h x (List.mem_cons_of_mem _ hx))
theorem sort_snd (bs : List (V × D)) : (bs.mergeSort leP).map (·.2) = (bs.map (·.2)).mergeSort leD := List.map_mergeSort fun _ _ _ _ => rfl
theorem cb_sortD (hu : X.A.units + 65 < cLine) : CbW X (.builtin "sorted") (rSortD X.K) (on1 oSortD) := ⟨cr_sortD hu, snd_on1 fun bx T H x dx Qd Q g r p h => by
  cases r with
  | lst ha na ra =>
    obtain ⟨⟨k1, k2, k3⟩, h⟩ := h
    obtain ⟨z1, z2, z3⟩ := RPs.zip ra
    refine ⟨_, _, rfl, SqL.of (by rw [z2]; exact ha), fun b hb => (z1 b hb).dp ?_, by rw [z3]; exact ⟨k1, k2, k3⟩, fun q hq => ?_⟩
    · exact (k3 b.2 (by rw [← z3]; exact List.mem_map.mpr ⟨b, hb, rfl⟩)).2
    · refine p.lst g hq (RPs.unzip fun b hb => z1 b (List.mem_mergeSort.mp hb)) ?_
      rw [sort_snd, z3]
      exact h
  | _ => exact False.elim h⟩
end
end Wy

set_option Elab.async false
set_option linter.all false
set_option maxRecDepth 100000
set_option maxHeartbeats 4000000
/-! W20: one kind of sets, of texts or of tuples; what sorted and len make of it. -/
namespace Wy
open PySem PySem.Spec PyProof.Rows L2 PySem.W
abbrev Mb := Str ⊕ El
def mbD : Mb → D
  | .inl x => .str x
  | .inr p => p.2
def DSP (w : World) (c : Addr) (N : List Mb) (h : Heap) : Prop := (∃ o, h.get? c = some o ∧ o.cls = .type "set") ∧ (∀ M : List Str, N = M.map Sum.inl → ∃ xs k T, XSet w h c M xs k T) ∧ ∀ M : List El, N = M.map Sum.inr → ∃ xs k T, TSet0 w h c M xs k T
def DSO (w : World) (c : Addr) (N : List Mb) : HO := .ext (DSP w c N)
theorem TSet0.at {w : World} {h h' : Heap} {c : Addr} {N : List El} {xs : Array (Int × Value)} {k : Nat} {T : SetTable} (R : TSet0 w h c N xs k T) (kp : ∀ o, h.get? c = some o → h'.get? c = some o) : TSet0 w h' c N xs k T := by
  obtain ⟨⟨o, h1, h2⟩, h3, h4, h5, h6, h7, h8⟩ := R
  exact ⟨⟨o, kp o h1, h2⟩, h3, h4, h5, h6, h7, h8⟩
theorem ds_ok {P : Program} {w : World} {H : Hp} {h : Heap} {c : Addr} {N : List Mb} (R : DSP w c N h) : ObjOk P w H h c (DSO w c N) := by
  obtain ⟨o, h1, _⟩ := R.1
  refine ⟨R, ⟨o, h1⟩, fun a b ⟨⟨u, q0, q1⟩, q2, q3⟩ kp => ⟨⟨u, kp u q0, q1⟩, fun M e => ?_, fun M e => ?_⟩⟩
  · obtain ⟨xs, k, T, z⟩ := q2 M e
    exact ⟨xs, k, T, z.at kp⟩
  · obtain ⟨xs, k, T, z⟩ := q3 M e
    exact ⟨xs, k, T, z.at kp⟩
theorem ds_new (w : World) (h : Heap) : DSP w h.objs.size [] (h.push (newSetO w)) := by
  refine ⟨⟨_, Heap.get?_push_size _ rfl, rfl⟩, fun M e => ?_, fun M e => ?_⟩
  · have : M = [] := List.map_eq_nil_iff.mp e.symm
    subst this
    exact ⟨_, _, _, xs_new w h⟩
  · have : M = [] := List.map_eq_nil_iff.mp e.symm
    subst this
    exact ⟨_, _, _, ts_new w h⟩
theorem ds_txt {w : World} {h : Heap} {c : Addr} {M : List Str} {xs : Array (Int × Value)} {k : Nat} {T : SetTable} (R : XSet w h c M xs k T) (ne : M ≠ []) : DSP w c (M.map Sum.inl) h := by
  obtain ⟨o, h1, h2, _⟩ := R.ob
  refine ⟨⟨o, h1, h2.1⟩, fun M' e => ?_, fun M' e => ?_⟩
  · have : M = M' := (List.map_inj_right fun _ _ z => Sum.inl.inj z).mp e
    exact ⟨_, _, _, this ▸ R⟩
  · exfalso
    cases M with
    | nil => exact ne rfl
    | cons x M => cases M' with
      | nil => cases e
      | cons y M' => cases e
theorem ds_tup {w : World} {h : Heap} {c : Addr} {M : List El} {xs : Array (Int × Value)} {k : Nat} {T : SetTable} (R : TSet0 w h c M xs k T) (ne : M ≠ []) : DSP w c (M.map Sum.inr) h := by
  obtain ⟨o, h1, h2, _⟩ := R.ob
  refine ⟨⟨o, h1, h2.1⟩, fun M' e => ?_, fun M' e => ?_⟩
  · exfalso
    cases M with
    | nil => exact ne rfl
    | cons x M => cases M' with
      | nil => cases e
      | cons y M' => cases e
  · have : M = M' := (List.map_inj_right fun _ _ z => Sum.inr.inj z).mp e
    exact ⟨_, _, _, this ▸ R⟩
/-- x stands for y, and what is in is of y's kind -/
def mbCan (K : PySem.W.Frag) (H : Hp) (N : List Mb) (x : V) (y : Mb) : Prop :=
  (∃ (t : Str) (M : List Str), y = .inl t ∧ x = .str t ∧ N = M.map Sum.inl) ∨ (∃ (p : El) (M : List El) (U : D → Prop), y = .inr p ∧ x = .ref p.1 ∧ N = M.map Sum.inr ∧ EqU U ∧ KV U K H p ∧ ∀ q ∈ M, KV U K H q)
def mbRel (N N' : List Mb) (y : Mb) : Prop := (mbD y ∈ N.map mbD → N' = N) ∧ (mbD y ∉ N.map mbD → N'.Perm (y :: N))
theorem mem_inl {M : List Str} {t : Str} : mbD (.inl t) ∈ (M.map Sum.inl).map mbD ↔ t ∈ M := by
  rw [List.map_map]
  constructor
  · intro h
    obtain ⟨u, hu, e⟩ := List.mem_map.mp h
    have : PyData.str u = .str t := e
    cases this
    exact hu
  · intro h
    exact List.mem_map.mpr ⟨t, h, rfl⟩
theorem mem_inr {M : List El} {p : El} : mbD (.inr p) ∈ (M.map Sum.inr).map mbD ↔ p.2 ∈ M.map (·.2) := by
  rw [List.map_map]
  exact Iff.rfl
def dataSet : SetK Mb where
  ob := DSO
  can := fun _ _ K H N x y => mbCan K H N x y
  rel := mbRel
  new := fun P w H h => ds_ok (ds_new w h)
  add := fun X pins σ H s E c N x u y Q I hu hc r e few h => by
    obtain ⟨o0, r1, r2⟩ := (I.hok c _ hc).1
    rcases e with ⟨t, M, rfl, rfl, rfl⟩ | ⟨p, M, U, rfl, rfl, rfl, hU, kp, km⟩
    · obtain ⟨xs, k, T, R⟩ := r1 M rfl
      obtain ⟨t', rfl⟩ := r
      have hT : s.TypeIs (.ref c) "set" := by
        obtain ⟨o, h1, h2, _⟩ := R.ob
        exact ⟨o, h1, h2.1⟩
      refine wpAny_call_entry F.slot_set_add hT F.entry_set_add ?_ (F.args_set_add_2 _ _)
      unfold Builtin.«set.add» Builtin.Frozenset.oneOther
      simp only [List.isEmpty_nil, bind_assoc]
      unfold Builtin.Frozenset.addrOf setAdd
      refine wpAny_bind (wpAny_pure ?_)
      try dsimp only
      refine wpAny_bind (wpAny_pure ?_)
      try dsimp only
      refine wpAny_bind (wpAny_holding (wpAny_bind (wpAny_pyHash_str ?_)))
      refine txt_in (s := { s with toks := s.toks + 1 }) R (by rwa [List.length_map] at few) fun b h' N' ys k' T' sb R' y1 y2 => ?_
      have ne : N' ≠ [] := fun z => by
        by_cases m : t ∈ M
        · rw [y1 m] at z; rw [z] at m; cases m
        · have := (y2 m).length_eq; rw [z] at this; cases this
      refine wpAny_pure ⟨_, rfl, h (N'.map Sum.inl) _ ⟨fun m => by rw [y1 (mem_inl.mp m)], fun m => (y2 fun z => m (mem_inl.mpr z)).map Sum.inl⟩ ?_⟩
      have he : ∃ o, h'.get? c = some o := by
        obtain ⟨o, h1, _⟩ := R'.ob
        exact ⟨o, h1⟩
      exact I.write (e := c) (t' := s.toks + 1) (by rw [hc]; trivial) (.inl rfl) (fun b o hb ho => (sb.2 b hb).trans ho) he (ds_ok (ds_txt R' ne))
    · cases r
      obtain ⟨xs, k, T, R0⟩ := r2 M rfl
      have R : TSet U X.w s.heap c M xs k T := R0.full fun q hq => (km q hq).kt I
      have kt := kp.kt I
      obtain ⟨⟨as, rd⟩, k2, d2, _⟩ := id kt
      have hT : s.TypeIs (.ref c) "set" := by
        obtain ⟨o, h1, h2, _⟩ := R.ob
        exact ⟨o, h1, h2.1⟩
      refine wpAny_call_entry F.slot_set_add hT F.entry_set_add ?_ (F.args_set_add_2 _ _)
      unfold Builtin.«set.add» Builtin.Frozenset.oneOther
      simp only [List.isEmpty_nil, bind_assoc]
      unfold Builtin.Frozenset.addrOf setAdd
      refine wpAny_bind (wpAny_pure ?_)
      try dsimp only
      refine wpAny_bind (wpAny_pure ?_)
      try dsimp only
      refine wpAny_bind (wpAny_holding (wpAny_bind (hash_at p.2 _ as _ _ _ k2 rd ?_ fun n => ?_)))
      · first | (rw [Around.in1_units]; omega) | omega
      refine put_in (s := { s with toks := n }) hU R kt ?_ (by rwa [List.length_map] at few) fun b h' N' ys k' T' sb R' y1 y2 => ?_
      · first | (rw [Around.in1_units]; omega) | omega
      have ne : N' ≠ [] := fun z => by
        by_cases m : p.2 ∈ M.map (·.2)
        · rw [y1 m] at z; rw [z] at m; cases m
        · have := (y2 m).length_eq; rw [z] at this; cases this
      refine wpAny_pure ⟨_, rfl, h (N'.map Sum.inr) _ ⟨fun m => by rw [y1 (mem_inr.mp m)], fun m => (y2 fun z => m (mem_inr.mpr z)).map Sum.inr⟩ ?_⟩
      have he : ∃ o, h'.get? c = some o := by
        obtain ⟨o, h1, _⟩ := R'.ob
        exact ⟨o, h1⟩
      exact I.write (e := c) (t' := n) (by rw [hc]; trivial) (.inl rfl) (fun b o hb ho => (sb.2 b hb).trans ho) he (ds_ok (ds_tup R'.shell ne))
end Wy

set_option Elab.async false
set_option linter.all false
set_option maxRecDepth 100000
set_option maxHeartbeats 4000000
/-! W21: sorted and len of a set. -/
namespace Wy
open PySem PySem.Spec PyProof.Rows L2 PySem.W
theorem perm_each {α β : Type} {R : α → β → Prop} {vs us : List α} (p : vs.Perm us) : ∀ {bs : List β}, EachIs R us bs → ∃ bs' : List β, bs'.Perm bs ∧ EachIs R vs bs' := by
  induction p with
  | nil => intro bs e; cases e; exact ⟨[], .nil, .nil⟩
  | cons x _ ih =>
    intro bs e
    cases e with
    | cons h t =>
      obtain ⟨bs', q1, q2⟩ := ih t
      exact ⟨_ :: bs', q1.cons _, .cons h q2⟩
  | swap x y l =>
    intro bs e
    cases e with
    | cons h t => cases t with
      | cons h2 t2 => exact ⟨_ :: _ :: _, .swap _ _ _, .cons h2 (.cons h t2)⟩
  | trans _ _ ih1 ih2 =>
    intro bs e
    obtain ⟨b1, q1, q2⟩ := ih2 e
    obtain ⟨b2, q3, q4⟩ := ih1 q2
    exact ⟨b2, q3.trans q1, q4⟩
mutual
theorem key_noaddr {h : Heap} : ∀ (d : D) (v : Value) (as : List Addr), keyOkD d = true → Reads h v d as → as = []
  | .none, v, as, _, r => by cases r; rfl
  | .bool _, v, as, _, r => by cases r; rfl
  | .int _, v, as, _, r => by cases r; rfl
  | .str _, v, as, _, r => by cases r; rfl
  | .tuple ds, v, as, hk, r => by
    rw [keyOkD] at hk
    cases r with
    | tuple _ _ _ ra => exact keys_noaddr ds _ _ hk ra
  | .list _, v, as, hk, _ => by rw [keyOkD] at hk; cases hk
  | .dict _, v, as, hk, _ => by rw [keyOkD] at hk; cases hk
theorem keys_noaddr {h : Heap} : ∀ (ds : List D) (vs : List Value) (as : List Addr), keysOkD ds = true → ReadsAll h vs ds as → as = []
  | [], vs, as, _, r => by cases r; rfl
  | d :: ds, vs, as, hk, r => by
    rw [keysOkD, Bool.and_eq_true] at hk
    cases r with
    | cons r1 r2 => rw [key_noaddr d _ _ hk.1 r1, keys_noaddr ds _ _ hk.2 r2]; rfl
end
section
variable {P : Program} {w : World} {A : Around} {E : Value → Shared → Prop} {s : Shared}
theorem sorted_set_raw {β : Type} {enc : β → D} {R : Value → β → Prop} {c : Addr} {o : Obj} {xs : Array (Int × Value)} {k : Nat} {T : SetTable} {bs : List β} {Q : Value → Shared → Prop} (hh : A.handled = none)
    (ho : s.heap.get? c = some o) (hex : o.ExactSet) (hd : o.data = .set xs k T) (fit : T.fits xs.size = true) (few : xs.size < 64) (ris : Ris T.place.toList) (led : w.params.followText "set-order" = true ∨ T.led = true)
    (each : EachIs R (xs.toList.map (·.2)) bs) (er : ∀ v b, R v b → b ∈ bs → keyOkD (enc b) = true ∧ ∃ as, Reads s.heap v (enc b) as) (hal : AllAlike (bs.map enc)) (hk : Sortable (bs.map enc)) (hu : ∀ b ∈ bs, A.units + 3 + (enc b).depth < cLine)
    (hQ : ∀ z p (out : List Value) e (bs' : List β), bs'.Perm bs → (∀ b u, s.heap.get? b = some u → z.heap.get? b = some u) → z.gens = s.gens → z.os = s.os → s.heap.objs.size ≤ p → z.heap.get? p = some (seqObj "list" (List.toArray out) e) →
      EachIs R out (bs'.mergeSort (dataLe false enc)) → Q (.ref p) z) : wpAny (model P w) A (call (.builtin "sorted") [.ref c]) Q E s := by
  refine Calls.call_function_entry kind_sorted plain_sorted entry_sorted (args_sorted1 _) ?_
  unfold Builtin.«sorted»
  refine wpAny_bind (m := checkCount "sorted" 1 1 _) (wpAny_pure ?_)
  refine wpAny_bind (collect_set (A := A.in1) hh ⟨o, ho, hex.1, hd⟩ fit (by unfold scanBound; omega) ris led fun s1 vs k1 hz g1 o1 pm => ?_)
  obtain ⟨b1, pb, ev⟩ := perm_each pm each
  have hvl : vs.length = bs.length := by rw [ev.length, pb.length_eq]
  have hbl : bs.length < 64 := by
    have z := each.length
    rw [List.length_map, Array.length_toList] at z
    omega
  have mem : ∀ b ∈ b1, b ∈ bs := fun b hb => pb.mem_iff.mp hb
  have hal1 : AllAlike (b1.map enc) := fun d hd e he => hal d ((pb.map enc).mem_iff.mp hd) e ((pb.map enc).mem_iff.mp he)
  have hk1 : Sortable (b1.map enc) := hk.elim (fun z => .inl fun d hd => z d ((pb.map enc).mem_iff.mp hd)) fun z => .inr fun d hd => z d ((pb.map enc).mem_iff.mp hd)
  refine wpAny_bind (wpAny_newList ?_ (by rw [sizeLine_eq]; omega))
  have hoL : (s1.heap.push (seqObj "list" vs.toArray 0)).get? s1.heap.objs.size = some (seqObj "list" vs.toArray 0) := Heap.get?_push_size _ rfl
  have kp : ∀ b u, s.heap.get? b = some u → (s1.heap.push (seqObj "list" vs.toArray 0)).get? b = some u := fun b u e => Heap.get?_push_of_some _ (k1 b u e)
  have er1 : EachIs (fun v b => ∃ as, Reads (s1.heap.push (seqObj "list" vs.toArray 0)) v (enc b) as ∧ s1.heap.objs.size ∉ as) vs b1 := (each_mem ev).mono fun v b ⟨r, hb⟩ => by
    obtain ⟨kk, as, rd⟩ := er v b r (mem b hb)
    have e0 := key_noaddr _ _ _ kk rd
    subst e0
    exact ⟨[], PyProof.Rows.Reads.keeps kp rd, by simp⟩
  refine wpAny_bind (wpAny_holding (PySem.W.list_sort_data (s := { s1 with heap := s1.heap.push (seqObj "list" vs.toArray 0) }) hoL ev er1 hal1 hk1 (by rw [pb.length_eq, sizeLine_eq]; omega) (fun b hb => ?_) fun out ol oe => ?_))
  · have := hu b (mem b hb)
    first | (rw [Around.in1_units]; omega) | omega
  · obtain ⟨e, he⟩ := sortedHeap_at (vs := vs) (out := List.toArray out) hoL
    refine wpAny_pure ⟨_, rfl, hQ _ s1.heap.objs.size out e b1 pb (fun b u q => ?_) g1 o1 hz he oe⟩
    have lt := Heap.lt_size (k1 b u q)
    show (sortedHeap (s1.heap.push (seqObj "list" vs.toArray 0)) s1.heap.objs.size vs (List.toArray out)).get? b = some u
    rw [sortedHeap_old (Nat.ne_of_lt lt) (by rw [size_push']; exact Nat.lt_succ_of_lt lt)]
    exact kp b u q
end
def mbV : Mb → V
  | .inl t => .str t
  | .inr p => .ref p.1
abbrev leM : Mb → Mb → Bool := dataLe false mbD
def mbKind (N : List Mb) : Prop := (∃ M : List Str, N = M.map Sum.inl) ∨ ∃ M : List El, N = M.map Sum.inr
def SetV (K : PySem.W.Frag) (H : Hp) (N : List Mb) : Prop := (∀ y ∈ N, Dp K H (mbV y) (mbD y) ∧ keyOkD (mbD y) = true ∧ (mbD y).depth ≤ 8) ∧ mbKind N
section
variable {X : Cx}
theorem DSP.shape {w : World} {c : Addr} {N : List Mb} {h : Heap} (R : DSP w c N h) (kd : mbKind N) : ∃ o xs k T, h.get? c = some o ∧ o.ExactSet ∧ o.data = .set xs k T ∧ T.fits xs.size = true ∧ xs.size = N.length ∧ N.length < 64 ∧ Ris T.place.toList ∧ (w.params.followText "set-order" = true ∨ T.led = true) ∧
    EachIs (fun v y => RelV (mbV y) v) (xs.toList.map (·.2)) N := by
  rcases kd with ⟨M, rfl⟩ | ⟨M, rfl⟩
  · obtain ⟨xs, k, T, Z⟩ := R.2.1 M rfl
    obtain ⟨o, h1, h2, h3⟩ := Z.ob
    have num : xs.size = M.length := by rw [← Z.rows, List.length_map, Array.length_toList]
    refine ⟨o, xs, k, T, h1, h2, h3, Z.fit, by rw [List.length_map]; exact num, by rw [List.length_map]; exact Z.few, Z.ris, Z.led, ?_⟩
    have tx := Z.txt
    rw [← Z.rows]
    generalize xs.toList = l at tx
    induction l with
    | nil => exact .nil
    | cons e l ih =>
      obtain ⟨x, t, e1, _⟩ := tx e List.mem_cons_self
      refine .cons ?_ (ih fun y hy => tx y (List.mem_cons_of_mem _ hy))
      show RelV (.str (txOf e)) e.2
      unfold txOf
      rw [e1]
      exact ⟨t, rfl⟩
  · obtain ⟨xs, k, T, Z⟩ := R.2.2 M rfl
    obtain ⟨o, h1, h2, h3⟩ := Z.ob
    have num : xs.size = M.length := by
      have z := congrArg List.length Z.rows
      rwa [Array.length_toList, List.length_map] at z
    have plc : T.place.size = M.length := by
      have z := Z.tab.sz
      rwa [List.length_map] at z
    refine ⟨o, xs, k, T, h1, h2, h3, ?_, by rw [List.length_map]; exact num, by rw [List.length_map]; exact Z.few, Z.tab.ris, Z.led, ?_⟩
    · rw [num]
      exact fits_by Z.tab.dm plc (by have := Z.room; omega)
    · rw [Z.rows, List.map_map]
      clear Z num plc R
      induction M with
      | nil => exact .nil
      | cons p M ih => exact .cons rfl ih
def rSortS (w : World) (K : PySem.W.Frag) : List V → Hp → VK → Prop := fun vs H Q => ∃ (c : Addr) (N : List Mb), vs = [.ref c] ∧ H c = some (DSO w c N) ∧ SetV K H N ∧ AllAlike (N.map mbD) ∧ Sortable (N.map mbD) ∧
  ∀ p (N' : List Mb), N'.Perm N → H p = none → Q (.ref p) (upd H p (.lst ((N'.mergeSort leM).map mbV)))
theorem vals_each : ∀ {N : List Mb} {us : List Value}, EachIs (fun v y => RelV (mbV y) v) us N → Vals (N.map mbV) us
  | _, _, .nil => .nil
  | _, _, .cons h t => .cons h (vals_each t)
theorem cr_sortS (hc : X.calm = true) (hu : X.A.units + 65 < cLine) : CallR X (.builtin "sorted") (rSortS X.w X.K) := by
  intro pins s σ H vs us Q I r h
  obtain ⟨c, N, rfl, hN, ⟨sv, kd⟩, k1, k2, q⟩ := h
  rw [Vals.ref1 r]
  obtain ⟨o, xs, k, T, a1, a2, a3, a4, a5, a6, a7, a8, a9⟩ := DSP.shape (I.hok c _ hN).1 kd
  refine sorted_set_raw (enc := mbD) (I.ok.hd hc) a1 a2 a3 a4 (by omega) a7 a8 a9 (fun v y rv hy => ⟨(sv y hy).2.1, Dp.reads I (mbD y) (mbV y) v (sv y hy).1 rv⟩) k1 k2 (fun y hy => by have := (sv y hy).2.2; omega)
    fun z p out e N' pm kp g os hp he oe => ?_
  have hn : H p = none := I.hok.fresh hp
  have len : ((N'.mergeSort leM).map mbV).length ≤ sizeLine := by
    rw [List.length_map, List.length_mergeSort, pm.length_eq, sizeLine_eq]; omega
  have J : Inv X pins σ (upd H p (.lst ((N'.mergeSort leM).map mbV))) { s with heap := z.heap, gens := z.gens, drawn := z.drawn, toks := z.toks } :=
    I.call (ch := []) (Un.laid kp hp hn) (I.hok.laid kp hp ⟨len, out, e, vals_each oe, he⟩) (by rw [g]; exact I.bare) (fun _ y => nomatch y)
  have ez : z = { s with heap := z.heap, gens := z.gens, drawn := z.drawn, toks := z.toks } := by
    cases z
    cases s
    cases os
    rfl
  rw [ez]
  exact ⟨.ref p, _, J, rfl, q p N' pm hn⟩
end
end Wy

set_option Elab.async false
set_option linter.all false
set_option maxRecDepth 100000
set_option maxHeartbeats 4000000
/-! W22: set comprehensions by data. -/
namespace Wy
open PySem PySem.Spec PyProof.Rows L2 PySem.W
mutual
theorem alike_eqv : ∀ x y : D, alike x y = true → PyData.eqv x y = true → x = y
  | .none, y, h, e => by
    cases y with
    | none => rfl
    | _ => simp [alike] at h
  | .bool a, y, h, e => by
    cases y with
    | bool b => rw [PyData.eqv] at e; rw [eq_of_beq e]
    | _ => simp [alike] at h
  | .int a, y, h, e => by
    cases y with
    | int b => rw [PyData.eqv] at e; rw [eq_of_beq e]
    | _ => simp [alike] at h
  | .str a, y, h, e => by
    cases y with
    | str b => rw [PyData.eqv] at e; rw [eq_of_beq e]
    | _ => simp [alike] at h
  | .list xs, y, h, e => by
    cases y with
    | list ys => rw [alike] at h; rw [PyData.eqv] at e; rw [alikes_eqv xs ys h e]
    | _ => simp [alike] at h
  | .tuple xs, y, h, e => by
    cases y with
    | tuple ys => rw [alike] at h; rw [PyData.eqv] at e; rw [alikes_eqv xs ys h e]
    | _ => simp [alike] at h
  | .dict _, y, h, e => by cases y <;> simp [alike] at h
theorem alikes_eqv : ∀ xs ys : List D, alikeAll xs ys = true → PyData.eqvAll xs ys = true → xs = ys
  | [], [], _, _ => rfl
  | [], _ :: _, _, e => by rw [PyData.eqvAll] at e; cases e
  | _ :: _, [], _, e => by rw [PyData.eqvAll] at e; cases e
  | x :: xs, y :: ys, h, e => by
    rw [alikeAll, Bool.and_eq_true] at h
    rw [PyData.eqvAll, Bool.and_eq_true] at e
    rw [alike_eqv x y h.1 e.1, alikes_eqv xs ys h.2 e.2]
end
/-- the data that may come: few, alike, texts or tuples -/
structure FewOk (few : List D) : Prop where
  len : few.length ≤ 62
  al : AllAlike few
  ok : ∀ x ∈ few, keyOkD x = true ∧ x.depth ≤ 8 ∧ x.canLay0 = true
  kind : (∀ x ∈ few, ∃ t, x = PyData.str t) ∨ ∀ x ∈ few, ∃ xs, x = PyData.tuple xs
theorem FewOk.eqU {few : List D} (F : FewOk few) : EqU (· ∈ few) := fun x y hx hy => ⟨alike_eqv x y (F.al x hx y hy), fun e => by rw [← e]; exact eqv_refl_alike x (F.al x hx x hx)⟩
theorem nodup_len {α : Type} : ∀ {l m : List α}, l.Nodup → (∀ x ∈ l, x ∈ m) → l.length ≤ m.length
  | [], m, _, _ => Nat.zero_le _
  | x :: l, m, hn, hs => by
    classical
    obtain ⟨h1, h2⟩ := List.nodup_cons.mp hn
    have hx : x ∈ m := hs x List.mem_cons_self
    have ih := nodup_len (l := l) (m := m.erase x) h2 fun y hy => by
      have ne : y ≠ x := fun e => h1 (by rw [← e]; exact hy)
      exact (List.mem_erase_of_ne ne).2 (hs y (List.mem_cons_of_mem _ hy))
    have e := List.length_erase_of_mem hx
    have hp : 0 < m.length := List.length_pos_of_mem hx
    rw [List.length_cons]
    omega
theorem each_f {α β : Type} (f : β → α) : ∀ l : List β, EachIs (fun a b => a = f b) (l.map f) l
  | [] => .nil
  | b :: l => .cons rfl (each_f f l)
theorem of_each_f {α β : Type} {f : β → α} : ∀ {as : List α} {bs : List β}, EachIs (fun a b => a = f b) as bs → as = bs.map f
  | _, _, .nil => rfl
  | _, _, .cons h t => by rw [h, of_each_f t]; rfl
theorem perm_f {α β : Type} {f : β → α} {as : List α} {l : List β} (p : as.Perm (l.map f)) : ∃ l' : List β, as = l'.map f := by
  obtain ⟨l', _, q⟩ := perm_each p (each_f f l)
  exact ⟨l', of_each_f q⟩
def lcS (few : List D) (δ : DE) (is : List Nat) (u : D → Option (List D)) (wt : TW) (we : EW) : List D → List D → (List D → Prop) → Prop
  | [], acc, Q => Q acc
  | d :: r, acc, Q => ∃ ds, u d = some ds ∧ wt (putD δ is ds) fun b => if b = true then we (putD δ is ds) fun y => y ∈ few ∧ lcS few δ is u wt we r (acc ++ [y]) Q else lcS few δ is u wt we r acc Q
def wScN (wi : IW) (is : List Nat) (u : D → Option (List D)) (wt : TW) (we : EW) (vs : List Nat) : NW := fun δ Q => ∃ few, FewOk few ∧ wi δ fun ds => lcS few (wipeD δ vs) is u wt we ds [] Q
/-- what a set has got of the data acc -/
structure Has (few acc : List D) (N : List Mb) : Prop where
  nd : (N.map mbD).Nodup
  same : ∀ d, d ∈ N.map mbD ↔ d ∈ acc
  sub : ∀ d ∈ acc, d ∈ few
  kind : ((∀ x ∈ few, ∃ t, x = PyData.str t) ∧ ∃ M : List Str, N = M.map Sum.inl) ∨ ((∀ x ∈ few, ∃ xs, x = PyData.tuple xs) ∧ ∃ M : List El, N = M.map Sum.inr)
theorem Has.len {few acc : List D} {N : List Mb} (h : Has few acc N) (F : FewOk few) : N.length ≤ 62 := by
  have z := nodup_len h.nd fun d hd => h.sub d ((h.same d).mp hd)
  rw [List.length_map] at z
  exact Nat.le_trans z F.len
def SndSc (P : Program) (w : World) (K : PySem.W.Frag) (t : TE) (ww : NW) : Prop := ∀ bx T σ H δ (Qd : List D → Prop) (Q : VK), Good bx T H → RPe K bx T H σ δ →
  (∀ few acc N c H', Ext bx H H' → BoxOk bx H' → H' c = some (DSO w c N) → FewOk few → Has few acc N → (∀ y ∈ N, RP K bx (fun b => T b ∨ b = c) H' (mbV y) (mbD y)) → Qd acc → H c = none → Q (.ref c) H') → ww δ Qd → t σ H Q
theorem snd_sc {P : Program} {w : World} {K : PySem.W.Frag} {wi : TI} {g : TG} {tt : TT} {te : TE} {vs is : List Nat} {u : D → Option (List D)} {ww : IW} {wt : TW} {we : EW} (hi : SndI K wi ww) (hg : SndG K g is u) (ht : SndT K tt wt) (he : SndE K te we) (hsub : ∀ i ∈ is, i ∈ vs) :
    SndSc P w K (tSG dataSet P w K wi g tt te vs) (wScN ww is u wt we vs) := fun bx T σ H δ Qd Q gd en p q => by
  obtain ⟨few, F, q⟩ := q
  refine hi bx T σ H δ _ _ gd en (fun ds J H1 e1 b1 dr h1 => ?_) q
  intro c nc
  have g1 := gd.on e1 b1
  have nT : ¬ T c := g1.new nc
  have nB : ¬ isB bx c := fun ⟨a, z⟩ => by
    obtain ⟨_, _, _, h, _⟩ := b1 c a z
    rw [nc] at h; cases h
  have n0 : H c = none := by
    cases z : H c with
    | none => rfl
    | some o =>
      have := e1 c o nB z
      rw [nc] at this; cases this
  let T1 : Addr → Prop := fun a => T a ∨ a = c
  have kT : Kept T T1 H1 H1 := fun a o n h => ⟨h, fun z => z.elim n fun z => by rw [z, nc] at h; cases h⟩
  have en1 : RPe K bx T1 H1 (L2.wipe σ vs) (wipeD δ vs) := ((en.on gd e1).move kT).wipes vs
  have has0 : Has few [] [] := ⟨List.nodup_nil, fun d => Iff.rfl, fun d h => (by cases h), F.kind.imp (fun z => ⟨z, [], rfl⟩) fun z => ⟨z, [], rfl⟩⟩
  let St : Nat → Hp → Prop := fun i G => i ≤ ds.length ∧ Ext bx H1 G ∧ BoxOk bx G ∧ ∃ N acc, G c = some (DSO w c N) ∧ Has few acc N ∧ (∀ y ∈ N, RP K bx T1 G (mbV y) (mbD y)) ∧ lcS few (wipeD δ vs) is u wt we (ds.drop i) acc Qd
  refine ⟨fun i m G => m = ds.length - i ∧ St i G, ⟨_, rfl, Nat.zero_le _, ext_new nc, box_new nc b1, [], [], upd_same, has0, fun y hy => (by cases hy), h1⟩, ?_⟩
  rintro i m G ⟨rfl, hi2, e2, b2, N, acc, hD, has, mem, hl⟩
  have g2 : Good bx T G := g1.on e2 b2
  have gT1 : Good bx T1 G := ⟨b2, fun b a e => Or.inl (g2.bxT b a e), fun a z => by
    rcases z with z | z
    · exact g2.kn a z
    · exact ⟨_, by rw [z]; exact hD⟩⟩
  obtain ⟨hs, hn⟩ := dr T1 G (fun a o n h => ⟨(g1.ext e2 a o n h).1, (kT a o n h).2⟩) gT1.kn i
  by_cases hlt : i < ds.length
  · obtain ⟨d, hd⟩ : ∃ d, ds[i]? = some d := ⟨ds[i], List.getElem?_eq_getElem hlt⟩
    have hdr : ds.drop i = d :: ds.drop (i + 1) := by
      rw [List.drop_eq_getElem_cons hlt]
      rw [List.getElem?_eq_getElem hlt] at hd
      cases hd; rfl
    obtain ⟨hgo, hy⟩ := hn d hd
    refine Or.inr ⟨hgo, fun G' => St (i + 1) G', fun G' z => ⟨_, by omega, rfl, z⟩, fun x H3 hyl => ?_⟩
    obtain ⟨kp3, rx⟩ := hy x H3 hyl
    have e3 : Ext bx G H3 := fun a o _ h => kp3 a o h
    have b3 : BoxOk bx H3 := fun b a e => by
      obtain ⟨n, ds', k, z1, z2, z3⟩ := b2 b a e
      exact ⟨n, ds', k, kp3 _ _ z1, kp3 _ _ z2, z3⟩
    have g3 : Good bx T1 H3 := gT1.on e3 b3
    rw [hdr] at hl
    obtain ⟨us, hu, hw⟩ := hl
    refine hg bx T1 x d us _ H3 _ rx hu fun ws rw_ => ⟨(wipe_put hsub).trans (wipe_idem σ vs fun _ z => z), ?_⟩
    have en3 : RPe K bx T1 H3 (putV (L2.wipe σ vs) is ws) (putD (wipeD δ vs) is us) := (((en1.move fun a o n h => ⟨(g1.ext e2 a o (fun z => n (Or.inl z)) h).1, n⟩).on gT1 e3)).put rw_
    refine ht bx T1 _ H3 _ _ _ g3 en3 (fun b H4 e4 b4 h4 => ?_) hw
    have g4 : Good bx T1 H4 := g3.on e4 b4
    have hD4 : H4 c = some (DSO w c N) := e4 _ _ nB (kp3 _ _ hD)
    have mem4 : ∀ y ∈ N, RP K bx T1 H4 (mbV y) (mbD y) := fun y hy => ((mem y hy).on gT1 e3).on g3 e4
    cases b with
    | false => exact ⟨by omega, (e2.trans e3).trans e4, b4, N, acc, hD4, has, mem4, h4⟩
    | true =>
      refine he bx T1 _ H4 _ _ _ g4 (en3.on g3 e4) (fun y v H5 e5 b5 r5 h5 => ?_) h4
      have hD5 : H5 c = some (DSO w c N) := e5 _ _ nB hD4
      have mem5 : ∀ y ∈ N, RP K bx T1 H5 (mbV y) (mbD y) := fun y hy => (mem4 y hy).on g4 e5
      obtain ⟨yf, h5⟩ := h5
      have few1 : N.length + 1 < 64 := by have := has.len F; omega
      -- behind the putting in
      have behind : ∀ (z : Mb), mbV z = v → mbD z = y → (∀ N', mbRel N N' z → ((∀ x ∈ few, ∃ t, x = PyData.str t) ∧ ∃ M : List Str, N' = M.map Sum.inl) ∨ ((∀ x ∈ few, ∃ xs, x = PyData.tuple xs) ∧ ∃ M : List El, N' = M.map Sum.inr)) →
          ∀ N', mbRel N N' z → St (i + 1) (upd H5 c (DSO w c N')) := by
        intro z zv zd kd N' rel
        have kk : ∀ a o, ¬ T1 a → H5 a = some o → upd H5 c (DSO w c N') a = some o ∧ ¬ T1 a := fun a o n h => ⟨by
          rw [upd_ne (fun z => n (Or.inr z))]; exact h, n⟩
        have has' : Has few (acc ++ [y]) N' := by
          by_cases m : mbD z ∈ N.map mbD
          · have e := rel.1 m
            subst e
            refine ⟨has.nd, fun d => ?_, fun d hd => ?_, kd _ rel⟩
            · rw [has.same, List.mem_append, List.mem_singleton]
              refine ⟨Or.inl, fun h => h.elim id fun e => ?_⟩
              rw [e, ← zd]
              exact (has.same _).mp m
            · rcases List.mem_append.mp hd with h | h
              · exact has.sub d h
              · rw [List.mem_singleton] at h; rw [h]; exact yf
          · have pm := (rel.2 m).map mbD
            refine ⟨pm.nodup_iff.mpr (List.nodup_cons.mpr ⟨m, has.nd⟩), fun d => ?_, fun d hd => ?_, kd _ rel⟩
            · rw [pm.mem_iff, List.map_cons, List.mem_cons, has.same, List.mem_append, List.mem_singleton, zd]
              exact Or.comm
            · rcases List.mem_append.mp hd with h | h
              · exact has.sub d h
              · rw [List.mem_singleton] at h; rw [h]; exact yf
        have mem' : ∀ x ∈ N', RP K bx T1 (upd H5 c (DSO w c N')) (mbV x) (mbD x) := fun x hx => by
          by_cases m : mbD z ∈ N.map mbD
          · rw [rel.1 m] at hx
            exact (mem5 x hx).move (fun _ z => z) kk
          · rcases List.mem_cons.mp ((rel.2 m).mem_iff.mp hx) with e | hx
            · rw [e, zv, zd]
              exact r5.move (fun _ z => z) kk
            · exact (mem5 x hx).move (fun _ z => z) kk
        refine ⟨by omega, ?_, ?_, N', acc ++ [y], upd_same, has', mem', h5⟩
        · intro a o n h
          by_cases z : a = c
          · rw [z, nc] at h; cases h
          · rw [upd_ne z]
            exact e5 a o n (e4 a o n (kp3 a o (e2 a o n h)))
        · intro b a e
          obtain ⟨n, ds', k, z1, z2, z3⟩ := b5 b a e
          obtain ⟨_, _, _, y1, y2, _⟩ := b1 b a e
          refine ⟨n, ds', k, ?_, ?_, z3⟩
          · rw [upd_ne (ne_of_none y1 nc)]; exact z1
          · rw [upd_ne (ne_of_none y2 nc)]; exact z2
      rcases has.kind with ⟨tk, M, eM⟩ | ⟨tk, M, eM⟩
      · obtain ⟨t, et⟩ := tk y yf
        subst et
        cases r5 with
        | str t =>
          refine ⟨N, .inl t, hD5, Or.inl ⟨t, M, rfl, rfl, eM⟩, few1, behind (.inl t) rfl rfl fun N' rel => Or.inl ⟨tk, ?_⟩⟩
          by_cases m : mbD (.inl t) ∈ N.map mbD
          · exact ⟨M, by rw [rel.1 m]; exact eM⟩
          · have pm : N'.Perm ((t :: M).map Sum.inl) := by rw [List.map_cons, ← eM]; exact rel.2 m
            exact perm_f pm
      · obtain ⟨ys, et⟩ := tk y yf
        subst et
        obtain ⟨a, rfl⟩ : ∃ a, v = .ref a := by cases r5; exact ⟨_, rfl⟩
        have kv : ∀ (x : El), RP K bx T1 H5 (.ref x.1) x.2 → x.2 ∈ few → KV (· ∈ few) K H5 x := fun x rx hx => ⟨rx.dp (F.ok _ hx).2.2, (F.ok _ hx).1, (F.ok _ hx).2.1, (F.ok _ hx).2.2, hx⟩
        refine ⟨N, .inr (a, .tuple ys), hD5, Or.inr ⟨(a, .tuple ys), M, (· ∈ few), rfl, rfl, eM, F.eqU, kv (a, .tuple ys) r5 yf, fun x hx => ?_⟩, few1, behind (.inr (a, .tuple ys)) rfl rfl fun N' rel => Or.inr ⟨tk, ?_⟩⟩
        · have hx' : Sum.inr x ∈ N := by rw [eM]; exact List.mem_map.mpr ⟨x, hx, rfl⟩
          exact kv x (mem5 _ hx') (has.sub _ ((has.same _).mp (List.mem_map.mpr ⟨_, hx', rfl⟩)))
        · by_cases m : mbD (.inr (a, .tuple ys)) ∈ N.map mbD
          · exact ⟨M, by rw [rel.1 m]; exact eM⟩
          · have pm : N'.Perm (((a, .tuple ys) :: M).map Sum.inr) := by rw [List.map_cons, ← eM]; exact rel.2 m
            exact perm_f pm
  · have hi3 : i = ds.length := by omega
    subst hi3
    refine Or.inl ⟨hs (Nat.le_refl _), ?_⟩
    rw [List.drop_length] at hl
    exact p few acc N c G (e1.trans e2) b2 hD F has mem hl n0
end Wy

set_option Elab.async false
set_option linter.all false
set_option maxRecDepth 100000
set_option maxHeartbeats 4000000
/-! W23: sorted({..}) and len({..}) by data. -/
namespace Wy
open PySem PySem.Spec PyProof.Rows L2 PySem.W
/-- what sorted makes of the data ds: just they, each once, in order -/
def SortedU (ds out : List D) : Prop := out.Nodup ∧ (∀ x, x ∈ out ↔ x ∈ ds) ∧ out.Pairwise fun a b => leD a b = true
def wSortS (wi : IW) (is : List Nat) (u : D → Option (List D)) (wt : TW) (we : EW) (vs : List Nat) : EW := fun δ Q => wScN wi is u wt we vs δ fun ds => Sortable ds ∧ ∀ out, SortedU ds out → Q (.list out)
theorem sort_mb (N : List Mb) : (N.mergeSort leM).map mbD = (N.map mbD).mergeSort leD := List.map_mergeSort fun _ _ _ _ => rfl
theorem leD_sorted (ds : List D) : (ds.mergeSort leD).Pairwise fun a b => leD a b = true := by
  have t := sortLe_total (listOrd itemOrd) false keyToks
  exact List.pairwise_mergeSort (le := leD) (fun a b c => t.trans a b c) (fun a b => (Bool.or_eq_true _ _).mpr (t.total a b)) ds
theorem RPs.ofMb {K : PySem.W.Frag} {bx : Bx} {T : Addr → Prop} {H : Hp} : ∀ {N : List Mb}, (∀ y ∈ N, RP K bx T H (mbV y) (mbD y)) → RPs K bx T H (N.map mbV) (N.map mbD)
  | [], _ => .nil
  | y :: N, h => .cons (h y List.mem_cons_self) (RPs.ofMb fun x hx => h x (List.mem_cons_of_mem _ hx))
theorem snd_sortS {P : Program} {w : World} {K : PySem.W.Frag} {t : TE} {ww : NW} (h : SndSc P w K t ww) : SndE K (tCB (rSortS w K) (tCons t tNil)) (fun δ Q => ww δ fun ds => Sortable ds ∧ ∀ out, SortedU ds out → Q (.list out)) := fun bx T σ H δ Qd Q g en p q =>
  h bx T σ H δ _ _ g en (fun few acc N c H' e b hc F has mem ⟨hs, hq⟩ n0 => by
    have mem' : ∀ d, d ∈ N.map mbD ↔ d ∈ acc := has.same
    have fewOf : ∀ d ∈ N.map mbD, d ∈ few := fun d hd => has.sub d ((mem' d).mp hd)
    have g' := g.on e b
    have memT : ∀ y ∈ N, RP K bx T H' (mbV y) (mbD y) := fun y hy => (mem y hy).move (fun _ z => z) fun a o n h => ⟨h, fun z => n (Or.inl z)⟩
    have srt : Sortable (N.map mbD) := hs.elim (fun z => .inl fun d hd => z d ((mem' d).mp hd)) fun z => .inr fun d hd => z d ((mem' d).mp hd)
    have kd : mbKind N := has.kind.elim (fun z => .inl z.2) fun z => .inr z.2
    refine ⟨c, N, rfl, hc, ⟨fun y hy => ?_, kd⟩, fun d hd d' hd' => F.al d (fewOf d hd) d' (fewOf d' hd'), srt, fun p' N' pm hp => ?_⟩
    · have f := F.ok (mbD y) (fewOf _ (List.mem_map.mpr ⟨y, hy, rfl⟩))
      exact ⟨(memT y hy).dp f.2.2, f.1, f.2.1⟩
    · have pq : (N'.mergeSort leM).Perm N := (List.mergeSort_perm N' leM).trans pm
      have rps := RPs.ofMb (N := N'.mergeSort leM) fun y hy => memT y (pq.mem_iff.mp hy)
      refine (p.on e).lst g' hp rps ?_
      refine hq _ ⟨(pq.map mbD).nodup_iff.mpr has.nd, fun x => ((pq.map mbD).mem_iff).trans (mem' x), ?_⟩
      rw [sort_mb]
      exact leD_sorted _) q
section
variable {X : Cx} {K : PySem.W.Frag} {P : Program} {w : World} {elt tg it : Expr} {ifs : List Expr} {scope : Scope} {own : List (PySem.Str × Nat)} {pos p2 p3 : Pos} {wi : TI} {ww : IW} {g : TG} {is : List Nat} {u : D → Option (List D)} {tt : TT} {wt : TW} {te : TE} {we : EW}
theorem kSortS (hK : X.K = K := by rfl) (hP : X.prog = P := by rfl) (hw : X.w = w := by rfl) (hu : X.A.units + 65 < cLine) (hm : X.mg "sorted" = none) (hc : X.calm = true) (hN : X.N.Nodup) (hi : PIW X tg it wi ww) (ok : BlkOk X.N X.env.scope scope own)
    (hg : ∀ (s : Shared) (H : Hp) (C : Addr) (cl : List (PySem.Str × Addr)) (fp : List Addr), PGW (X.blk s H scope (compEnvC scope cl C X.env) fp) tg g is u)
    (ht : ∀ (s : Shared) (H : Hp) (C : Addr) (cl : List (PySem.Str × Addr)) (fp : List Addr), PTsW (X.blk s H scope (compEnvC scope cl C X.env) fp) ifs tt wt)
    (he : ∀ (s : Shared) (H : Hp) (C : Addr) (cl : List (PySem.Str × Addr)) (fp : List Addr), PEW (X.blk s H scope (compEnvC scope cl C X.env) fp) elt te we) (hsub : ∀ i ∈ is, i ∈ own.map (·.2) := by decide) (hs : ∀ x, foldedSetIterable it X.env x = pure x := by intro _; rfl)
    (hgs : Gl X "sorted" := by rfl) (hst : starEach [.SetComp elt [⟨tg, it, ifs, 0⟩] scope p3] X.env = [(false, eval (.SetComp elt [⟨tg, it, ifs, 0⟩] scope p3) X.env)] := by rfl) :
    PEW X (.Call (.Name "sorted" p2) [.SetComp elt [⟨tg, it, ifs, 0⟩] scope p3] [] pos) (tCB (rSortS w K) (tCons (tSG dataSet P w K wi g tt te (own.map (·.2))) tNil)) (wSortS ww is u wt we (own.map (·.2))) := by
  subst hK hP hw
  refine ⟨pe_callB (cr_sortS hc hu) hgs hm (by decide +kernel) (pa_cons (pe_sg dataSet (by omega) hc hN hi.pi ok (fun s H C cl fp => (hg s H C cl fp).pg) (fun s H C cl fp => (ht s H C cl fp).pt) (fun s H C cl fp => (he s H C cl fp).pe) hs) pa_nil hst), ?_⟩
  have z : Shared := {}
  exact snd_sortS (snd_sc hi.sn (hg z (fun _ => none) 0 [] []).sn (ht z (fun _ => none) 0 [] []).sn (he z (fun _ => none) 0 [] []).sn hsub)
/-- sorted(xs) of a list -/
theorem kb_sorted (hK : X.K = K := by rfl) (hu : X.A.units + 65 < cLine) : CbW X (.builtin "sorted") (rSortD K) (on1 oSortD) := by subst hK; exact cb_sortD hu
end
end Wy

set_option Elab.async false
set_option linter.all false
set_option maxRecDepth 100000
set_option maxHeartbeats 4000000
/-! W24: len({..}). -/
namespace Wy
open PySem PySem.Spec PyProof.Rows L2 PySem.W
def wLenSc (wi : IW) (is : List Nat) (u : D → Option (List D)) (wt : TW) (we : EW) (vs : List Nat) : EW := fun δ Q => wScN wi is u wt we vs δ fun ds => ∀ out : List D, out.Nodup → (∀ x, x ∈ out ↔ x ∈ ds) → Q (.int (out.length : Nat))
def rLenS (w : World) : List V → Hp → VK → Prop := fun vs H Q => ∃ (c : Addr) (N : List Mb), vs = [.ref c] ∧ H c = some (DSO w c N) ∧ mbKind N ∧ Q (.int (N.length : Nat)) H
section
variable {X : Cx} {K : PySem.W.Frag} {P : Program} {w : World} {elt tg it : Expr} {ifs : List Expr} {scope : Scope} {own : List (PySem.Str × Nat)} {pos p2 p3 : Pos} {wi : TI} {ww : IW} {g : TG} {is : List Nat} {u : D → Option (List D)} {tt : TT} {wt : TW} {te : TE} {we : EW}
theorem cr_lenS : CallR X (.builtin "len") (rLenS X.w) := by
  intro pins s σ H vs us Q I r h
  obtain ⟨c, N, rfl, hN, kd, q⟩ := h
  rw [Vals.ref1 r]
  obtain ⟨o, xs, k, T, a1, a2, a3, a4, a5, a6, a7, a8, a9⟩ := DSP.shape (I.hok c _ hN).1 kd
  exact call_len_set a1 a2 a3 a4 (by rw [a5]; omega) ⟨.int (N.length : Nat), H, I.tok _, ⟨_, by rw [a5]⟩, q⟩
theorem snd_lenS {t : TE} {nw : NW} (h : SndSc P w K t nw) : SndE K (tCB (rLenS w) (tCons t tNil)) (fun δ Q => nw δ fun ds => ∀ out : List D, out.Nodup → (∀ x, x ∈ out ↔ x ∈ ds) → Q (.int (out.length : Nat))) := fun bx T σ H δ Qd Q g en p q =>
  h bx T σ H δ _ _ g en (fun few acc N c H' e b hc F has mem hq n0 => by
    refine ⟨c, N, rfl, hc, has.kind.elim (fun z => .inl z.2) fun z => .inr z.2, ?_⟩
    have z := hq (N.map mbD) has.nd has.same
    rw [List.length_map] at z
    exact p (.int (N.length : Nat)) (.int (N.length : Nat)) H' e b (.int _) z) q
theorem kLenSc (hK : X.K = K := by rfl) (hP : X.prog = P := by rfl) (hw : X.w = w := by rfl) (hu : X.A.units + 65 < cLine) (hm : X.mg "len" = none) (hc : X.calm = true) (hN : X.N.Nodup) (hi : PIW X tg it wi ww) (ok : BlkOk X.N X.env.scope scope own)
    (hg : ∀ (s : Shared) (H : Hp) (C : Addr) (cl : List (PySem.Str × Addr)) (fp : List Addr), PGW (X.blk s H scope (compEnvC scope cl C X.env) fp) tg g is u)
    (ht : ∀ (s : Shared) (H : Hp) (C : Addr) (cl : List (PySem.Str × Addr)) (fp : List Addr), PTsW (X.blk s H scope (compEnvC scope cl C X.env) fp) ifs tt wt)
    (he : ∀ (s : Shared) (H : Hp) (C : Addr) (cl : List (PySem.Str × Addr)) (fp : List Addr), PEW (X.blk s H scope (compEnvC scope cl C X.env) fp) elt te we) (hsub : ∀ i ∈ is, i ∈ own.map (·.2) := by decide) (hs : ∀ x, foldedSetIterable it X.env x = pure x := by intro _; rfl)
    (hgs : Gl X "len" := by rfl) (hst : starEach [.SetComp elt [⟨tg, it, ifs, 0⟩] scope p3] X.env = [(false, eval (.SetComp elt [⟨tg, it, ifs, 0⟩] scope p3) X.env)] := by rfl) :
    PEW X (.Call (.Name "len" p2) [.SetComp elt [⟨tg, it, ifs, 0⟩] scope p3] [] pos) (tCB (rLenS w) (tCons (tSG dataSet P w K wi g tt te (own.map (·.2))) tNil)) (wLenSc ww is u wt we (own.map (·.2))) := by
  subst hK hP hw
  refine ⟨pe_callB cr_lenS hgs hm (by decide +kernel) (pa_cons (pe_sg dataSet (by omega) hc hN hi.pi ok (fun s H C cl fp => (hg s H C cl fp).pg) (fun s H C cl fp => (ht s H C cl fp).pt) (fun s H C cl fp => (he s H C cl fp).pe) hs) pa_nil hst), ?_⟩
  have z : Shared := {}
  exact snd_lenS (snd_sc hi.sn (hg z (fun _ => none) 0 [] []).sn (ht z (fun _ => none) 0 [] []).sn (he z (fun _ => none) 0 [] []).sn hsub)
end
end Wy

set_option Elab.async false
set_option linter.all false
set_option maxRecDepth 100000
set_option maxHeartbeats 4000000
/-! W25: list comprehensions of two clauses. -/
namespace Wy
open PySem L2
def lc2N (δ : DE) (is : List Nat) (u : D → Option (List D)) (wt : TW) (wi1 : IW) (is1 : List Nat) (u1 : D → Option (List D)) (wt1 : TW) (we : EW) (vs1 : List Nat) : List D → List D → (List D → Prop) → Prop
  | [], acc, Q => Q acc
  | d :: r, acc, Q => ∃ ds, u d = some ds ∧ wt (putD δ is ds) fun b =>
      if b = true then wi1 (putD δ is ds) fun es => lcN (wipeD (putD δ is ds) vs1) is1 u1 wt1 we es acc fun acc' => lc2N δ is u wt wi1 is1 u1 wt1 we vs1 r acc' Q
      else lc2N δ is u wt wi1 is1 u1 wt1 we vs1 r acc Q
def wLc2N (wi : IW) (is : List Nat) (u : D → Option (List D)) (wt : TW) (wi1 : IW) (is1 : List Nat) (u1 : D → Option (List D)) (wt1 : TW) (we : EW) (vs vs1 : List Nat) : NW := fun δ Q => wi δ fun ds => lc2N (wipeD δ vs) is u wt wi1 is1 u1 wt1 we vs1 ds [] Q
theorem snd_lc2N {K : PySem.W.Frag} {wi wi1 : TI} {g g1 : TG} {tt tt1 : TT} {te : TE} {vs vs1 is is1 : List Nat} {u u1 : D → Option (List D)} {ww ww1 : IW} {wt wt1 : TW} {we : EW} (hi : SndI K wi ww) (hg : SndG K g is u) (ht : SndT K tt wt) (hi1 : SndI K wi1 ww1) (hg1 : SndG K g1 is1 u1) (ht1 : SndT K tt1 wt1) (he : SndE K te we)
    (hsub : ∀ i ∈ is, i ∈ vs) (hsub1 : ∀ i ∈ is1, i ∈ vs1) : SndN K (tLc2 wi g tt wi1 g1 tt1 te vs vs1) (wLc2N ww is u wt ww1 is1 u1 wt1 we vs vs1) := fun bx T σ H δ Qd Q gd en p q => by
  refine hi bx T σ H δ _ _ gd en (fun ds J H1 e1 b1 dr h1 => ?_) q
  intro c nc
  have g1' := gd.on e1 b1
  have nB : ¬ isB bx c := fun ⟨a, z⟩ => by
    obtain ⟨_, _, _, h, _⟩ := b1 c a z
    rw [nc] at h; cases h
  have n0 : H c = none := by
    cases z : H c with
    | none => rfl
    | some o =>
      have := e1 c o nB z
      rw [nc] at this; cases this
  let T1 : Addr → Prop := fun a => T a ∨ a = c
  have kT : Kept T T1 H1 H1 := fun a o n h => ⟨h, fun z => z.elim n fun z => by rw [z, nc] at h; cases h⟩
  have en1 : RPe K bx T1 H1 (L2.wipe σ vs) (wipeD δ vs) := ((en.on gd e1).move kT).wipes vs
  have boxUpd : ∀ (G : Hp) (o : HO), BoxOk bx G → BoxOk bx (upd G c o) := fun G o bG b a e => by
    obtain ⟨n, ds', k, z1, z2, z3⟩ := bG b a e
    obtain ⟨_, _, _, y1, y2, _⟩ := b1 b a e
    exact ⟨n, ds', k, by rw [upd_ne (ne_of_none y1 nc)]; exact z1, by rw [upd_ne (ne_of_none y2 nc)]; exact z2, z3⟩
  have extUpd : ∀ (G : Hp) (o : HO), Ext bx H1 G → Ext bx H1 (upd G c o) := fun G o eG a u n h => by
    by_cases z : a = c
    · rw [z, nc] at h; cases h
    · rw [upd_ne z]; exact eG a u n h
  have goodT : ∀ {G : Hp} {xs : List V}, Ext bx H1 G → BoxOk bx G → G c = some (.lst xs) → Good bx T1 G := fun {G xs} eG bG hc => by
    have g2 := g1'.on eG bG
    exact ⟨bG, fun b a e => Or.inl (g2.bxT b a e), fun a z => by
      rcases z with z | z
      · exact g2.kn a z
      · exact ⟨_, by rw [z]; exact hc⟩⟩
  let St : Nat → Hp → Prop := fun i G => i ≤ ds.length ∧ Ext bx H1 G ∧ BoxOk bx G ∧ ∃ xs acc, G c = some (.lst xs) ∧ RPs K bx T1 G xs acc ∧ lc2N (wipeD δ vs) is u wt ww1 is1 u1 wt1 we vs1 (ds.drop i) acc Qd
  refine ⟨fun i m G => m = ds.length - i ∧ St i G, ⟨_, rfl, Nat.zero_le _, ext_new nc, box_new nc b1, [], [], upd_same, .nil, h1⟩, ?_⟩
  rintro i m G ⟨rfl, hi2, e2, b2, xs, acc, hD, ra, hl⟩
  have gT1 : Good bx T1 G := goodT e2 b2 hD
  obtain ⟨hs, hn⟩ := dr T1 G (fun a o n h => ⟨(g1'.ext e2 a o n h).1, (kT a o n h).2⟩) gT1.kn i
  by_cases hlt : i < ds.length
  case neg =>
    have hi3 : i = ds.length := by omega
    subst hi3
    refine Or.inl ⟨hs (Nat.le_refl _), ?_⟩
    rw [List.drop_length] at hl
    exact p _ _ _ G (e1.trans e2) b2 n0 hD ra hl
  obtain ⟨d, hd⟩ : ∃ d, ds[i]? = some d := ⟨ds[i], List.getElem?_eq_getElem hlt⟩
  have hdr : ds.drop i = d :: ds.drop (i + 1) := by
    rw [List.drop_eq_getElem_cons hlt]
    rw [List.getElem?_eq_getElem hlt] at hd
    cases hd; rfl
  obtain ⟨hgo, hy⟩ := hn d hd
  refine Or.inr ⟨hgo, fun G' => St (i + 1) G', fun G' z => ⟨_, by omega, rfl, z⟩, fun x H3 hyl => ?_⟩
  obtain ⟨kp3, rx⟩ := hy x H3 hyl
  have e3 : Ext bx G H3 := fun a o _ h => kp3 a o h
  have b3 : BoxOk bx H3 := fun b a e => by
    obtain ⟨n, ds', k, z1, z2, z3⟩ := b2 b a e
    exact ⟨n, ds', k, kp3 _ _ z1, kp3 _ _ z2, z3⟩
  have g3 : Good bx T1 H3 := gT1.on e3 b3
  rw [hdr] at hl
  obtain ⟨us, hu, hw⟩ := hl
  refine hg bx T1 x d us _ H3 _ rx hu fun ws rw_ => ⟨(wipe_put hsub).trans (wipe_idem σ vs fun _ z => z), ?_⟩
  have en3 : RPe K bx T1 H3 (putV (L2.wipe σ vs) is ws) (putD (wipeD δ vs) is us) := (((en1.move fun a o n h => ⟨(g1'.ext e2 a o (fun z => n (Or.inl z)) h).1, n⟩).on gT1 e3)).put rw_
  refine ht bx T1 _ H3 _ _ _ g3 en3 (fun b H4 e4 b4 h4 => ?_) hw
  have g4 : Good bx T1 H4 := g3.on e4 b4
  have hD4 : H4 c = some (.lst xs) := e4 _ _ nB (kp3 _ _ hD)
  have ra4 : RPs K bx T1 H4 xs acc := (ra.on gT1 e3).on g3 e4
  have e14 : Ext bx H1 H4 := (e2.trans e3).trans e4
  cases b with
  | false => exact ⟨by omega, e14, b4, xs, acc, hD4, ra4, h4⟩
  | true =>
    refine hi1 bx T1 _ H4 _ _ _ g4 (en3.on g3 e4) (fun es J1 H5 e5 b5 dr1 h5 => ?_) h4
    have g5 : Good bx T1 H5 := g4.on e5 b5
    have en5 : RPe K bx T1 H5 (L2.wipe (putV (L2.wipe σ vs) is ws) vs1) (wipeD (putD (wipeD δ vs) is us) vs1) := ((en3.on g3 e4).on g4 e5).wipes vs1
    have hD5 : H5 c = some (.lst xs) := e5 _ _ nB hD4
    have ra5 := ra4.on g4 e5
    have e15 := e14.trans e5
    let St1 : Nat → Hp → Prop := fun j F => j ≤ es.length ∧ (∀ a o, ¬ T1 a → H5 a = some o → F a = some o) ∧ Ext bx H1 F ∧ BoxOk bx F ∧ ∃ xs acc, F c = some (.lst xs) ∧ RPs K bx T1 F xs acc ∧
      lcN (wipeD (putD (wipeD δ vs) is us) vs1) is1 u1 wt1 we (es.drop j) acc fun acc' => lc2N (wipeD δ vs) is u wt ww1 is1 u1 wt1 we vs1 (ds.drop (i + 1)) acc' Qd
    refine ⟨fun j k F => k = es.length - j ∧ St1 j F, ⟨_, rfl, Nat.zero_le _, fun _ _ _ h => h, e15, b5, xs, acc, hD5, ra5, h5⟩, ?_⟩
    rintro j k F ⟨rfl, hj, kF, eF, bF, ys, ac, hF, rF, hl1⟩
    have gF : Good bx T1 F := goodT eF bF hF
    obtain ⟨hs1, hn1⟩ := dr1 T1 F (fun a o n h => ⟨kF a o n h, n⟩) gF.kn j
    by_cases hlt1 : j < es.length
    case neg =>
      have hj3 : j = es.length := by omega
      subst hj3
      refine Or.inl ⟨hs1 (Nat.le_refl _), ?_⟩
      rw [List.drop_length] at hl1
      exact ⟨by omega, eF, bF, ys, ac, hF, rF, hl1⟩
    obtain ⟨d1, hd1⟩ : ∃ d1, es[j]? = some d1 := ⟨es[j], List.getElem?_eq_getElem hlt1⟩
    have hdr1 : es.drop j = d1 :: es.drop (j + 1) := by
      rw [List.drop_eq_getElem_cons hlt1]
      rw [List.getElem?_eq_getElem hlt1] at hd1
      cases hd1; rfl
    obtain ⟨hgo1, hy1⟩ := hn1 d1 hd1
    refine Or.inr ⟨hgo1, fun F' => St1 (j + 1) F', fun F' z => ⟨_, by omega, rfl, z⟩, fun x1 H6 hyl1 => ?_⟩
    obtain ⟨kp6, rx1⟩ := hy1 x1 H6 hyl1
    have e6 : Ext bx F H6 := fun a o _ h => kp6 a o h
    have b6 : BoxOk bx H6 := fun b a e => by
      obtain ⟨n, ds', k, z1, z2, z3⟩ := bF b a e
      exact ⟨n, ds', k, kp6 _ _ z1, kp6 _ _ z2, z3⟩
    have g6 : Good bx T1 H6 := gF.on e6 b6
    rw [hdr1] at hl1
    obtain ⟨us1, hu1, hw1⟩ := hl1
    refine hg1 bx T1 x1 d1 us1 _ H6 _ rx1 hu1 fun ws1 rw1 => ⟨(wipe_put hsub1).trans (wipe_idem _ vs1 fun _ z => z), ?_⟩
    have en6 : RPe K bx T1 H6 (putV (L2.wipe (putV (L2.wipe σ vs) is ws) vs1) is1 ws1) (putD (wipeD (putD (wipeD δ vs) is us) vs1) is1 us1) := ((en5.move fun a o n h => ⟨kF a o n h, n⟩).on gF e6).put rw1
    refine ht1 bx T1 _ H6 _ _ _ g6 en6 (fun b H7 e7 b7 h7 => ?_) hw1
    have g7 : Good bx T1 H7 := g6.on e7 b7
    have hD7 : H7 c = some (.lst ys) := e7 _ _ nB (kp6 _ _ hF)
    have r7 : RPs K bx T1 H7 ys ac := (rF.on gF e6).on g6 e7
    have e17 : Ext bx H1 H7 := (eF.trans e6).trans e7
    have k7 : ∀ a o, ¬ T1 a → H5 a = some o → H7 a = some o := fun a o n h => e7 a o (fun z => n (Or.inl (g1'.bxT _ _ z.choose_spec))) (kp6 a o (kF a o n h))
    cases b with
    | false => exact ⟨by omega, k7, e17, b7, ys, ac, hD7, r7, h7⟩
    | true =>
      refine he bx T1 _ H7 _ _ _ g7 (en6.on g6 e7) (fun y v H8 e8 b8 r8 h8 => ?_) h7
      have hD8 : H8 c = some (.lst ys) := e8 _ _ nB hD7
      refine ⟨ys, hD8, by rw [r7.length]; exact h8.1, by omega, fun a o n h => ?_, extUpd _ _ (e17.trans e8), boxUpd _ _ b8, ys ++ [v], ac ++ [y], upd_same, ?_, h8.2⟩
      · rw [upd_ne (fun z => n (Or.inr z))]
        exact e8 a o (fun z => n (Or.inl (g1'.bxT _ _ z.choose_spec))) (k7 a o n h)
      · have kk : ∀ a o, ¬ T1 a → H8 a = some o → upd H8 c (.lst (ys ++ [v])) a = some o ∧ ¬ T1 a := fun a o n h => ⟨by
          rw [upd_ne (fun z => n (Or.inr z))]; exact h, n⟩
        exact (((r7.on g7 e8).move (fun _ z => z) kk)).append (.cons (r8.move (fun _ z => z) kk) .nil)
end Wy

set_option Elab.async false
set_option linter.all false
set_option maxRecDepth 100000
set_option maxHeartbeats 2000000
/-! W26: two clauses: as an expression, stored, stored as an own list. -/
namespace Wy
open PySem L2
section
variable {X : Cx} {elt tg it tg1 it1 : Expr} {ifs ifs1 : List Expr} {scope : Scope} {own : List (PySem.Str × Nat)} {pos pos' : Pos} {ti ti1 : TI} {wi wi1 : IW} {g g1 : TG} {is is1 vs1 : List Nat} {u u1 : D → Option (List D)} {tt tt1 : TT} {wt wt1 : TW} {te : TE} {we : EW}
abbrev wLc2 (wi : IW) (is : List Nat) (u : D → Option (List D)) (wt : TW) (wi1 : IW) (is1 : List Nat) (u1 : D → Option (List D)) (wt1 : TW) (we : EW) (vs vs1 : List Nat) : EW := wN (wLc2N wi is u wt wi1 is1 u1 wt1 we vs vs1)
abbrev EachB (X : Cx) (scope : Scope) (f : Cx → Prop) : Prop := ∀ (s : Shared) (H : Hp) (C : Addr) (cl : List (PySem.Str × Addr)) (fp : List Addr), f (X.blk s H scope (compEnvC scope cl C X.env) fp)
theorem snd2_of (hi : PIW X tg it ti wi) (hg : EachB X scope fun Y => PGW Y tg g is u) (ht : EachB X scope fun Y => PTsW Y ifs tt wt) (hi1 : EachB X scope fun Y => PIW Y tg1 it1 ti1 wi1) (hg1 : EachB X scope fun Y => PGW Y tg1 g1 is1 u1)
    (ht1 : EachB X scope fun Y => PTsW Y ifs1 tt1 wt1) (he : EachB X scope fun Y => PEW Y elt te we) (hsub : ∀ i ∈ is, i ∈ own.map (·.2)) (hsub1 : ∀ i ∈ is1, i ∈ vs1) :
    SndN X.K (tLc2 ti g tt ti1 g1 tt1 te (own.map (·.2)) vs1) (wLc2N wi is u wt wi1 is1 u1 wt1 we (own.map (·.2)) vs1) := by
  have z : Shared := {}
  exact snd_lc2N hi.sn (hg z (fun _ => none) 0 [] []).sn (ht z (fun _ => none) 0 [] []).sn (hi1 z (fun _ => none) 0 [] []).sn (hg1 z (fun _ => none) 0 [] []).sn (ht1 z (fun _ => none) 0 [] []).sn (he z (fun _ => none) 0 [] []).sn hsub hsub1
theorem nlc2 (hc : X.calm = true) (hN : X.N.Nodup) (hi : PIW X tg it ti wi) (ok : BlkOk X.N X.env.scope scope own) (hg : EachB X scope fun Y => PGW Y tg g is u) (ht : EachB X scope fun Y => PTsW Y ifs tt wt) (hi1 : EachB X scope fun Y => PIW Y tg1 it1 ti1 wi1)
    (hg1 : EachB X scope fun Y => PGW Y tg1 g1 is1 u1) (ht1 : EachB X scope fun Y => PTsW Y ifs1 tt1 wt1) (he : EachB X scope fun Y => PEW Y elt te we) (hv : ∀ i ∈ vs1, i ∈ own.map (·.2) := by decide) (hsub : ∀ i ∈ is, i ∈ own.map (·.2) := by decide)
    (hsub1 : ∀ i ∈ is1, i ∈ vs1 := by decide) (hs : ∀ x, foldedSetIterable it X.env x = pure x := by intro _; rfl) (hs1 : ∀ env x, foldedSetIterable it1 env x = pure x := by intro _ _; rfl) :
    PNW X (.ListComp elt [⟨tg, it, ifs, 0⟩, ⟨tg1, it1, ifs1, 0⟩] scope pos) (tLc2 ti g tt ti1 g1 tt1 te (own.map (·.2)) vs1) (wLc2N wi is u wt wi1 is1 u1 wt1 we (own.map (·.2)) vs1) :=
  ⟨pe_lc2 hc hN hi.pi ok hv (fun s H C cl fp => (hg s H C cl fp).pg) (fun s H C cl fp => (ht s H C cl fp).pt) (fun s H C cl fp => (hi1 s H C cl fp).pi) (fun s H C cl fp => (hg1 s H C cl fp).pg) (fun s H C cl fp => (ht1 s H C cl fp).pt) (fun s H C cl fp => (he s H C cl fp).pe) hs hs1,
    snd2_of hi hg ht hi1 hg1 ht1 he hsub hsub1⟩
theorem elc2 (hc : X.calm = true) (hN : X.N.Nodup) (hi : PIW X tg it ti wi) (ok : BlkOk X.N X.env.scope scope own) (hg : EachB X scope fun Y => PGW Y tg g is u) (ht : EachB X scope fun Y => PTsW Y ifs tt wt) (hi1 : EachB X scope fun Y => PIW Y tg1 it1 ti1 wi1)
    (hg1 : EachB X scope fun Y => PGW Y tg1 g1 is1 u1) (ht1 : EachB X scope fun Y => PTsW Y ifs1 tt1 wt1) (he : EachB X scope fun Y => PEW Y elt te we) (hv : ∀ i ∈ vs1, i ∈ own.map (·.2) := by decide) (hsub : ∀ i ∈ is, i ∈ own.map (·.2) := by decide)
    (hsub1 : ∀ i ∈ is1, i ∈ vs1 := by decide) (hs : ∀ x, foldedSetIterable it X.env x = pure x := by intro _; rfl) (hs1 : ∀ env x, foldedSetIterable it1 env x = pure x := by intro _ _; rfl) :
    PEW X (.ListComp elt [⟨tg, it, ifs, 0⟩, ⟨tg1, it1, ifs1, 0⟩] scope pos) (tLc2 ti g tt ti1 g1 tt1 te (own.map (·.2)) vs1) (wLc2 wi is u wt wi1 is1 u1 wt1 we (own.map (·.2)) vs1) :=
  let h := nlc2 (pos := pos) hc hN hi ok hg ht hi1 hg1 ht1 he hv hsub hsub1 hs hs1
  ⟨h.pe, h.sn.e⟩
theorem psetC2 (i : Nat) {y : PySem.Str} {py : Pos} (hc : X.calm = true) (hN : X.N.Nodup) (hi : PIW X tg it ti wi) (ok : BlkOk X.N X.env.scope scope own) (hg : EachB X scope fun Y => PGW Y tg g is u) (ht : EachB X scope fun Y => PTsW Y ifs tt wt) (hi1 : EachB X scope fun Y => PIW Y tg1 it1 ti1 wi1)
    (hg1 : EachB X scope fun Y => PGW Y tg1 g1 is1 u1) (ht1 : EachB X scope fun Y => PTsW Y ifs1 tt1 wt1) (he : EachB X scope fun Y => PEW Y elt te we) (hy : X.N[i]? = some y) (hyl : X.env.scope.names.lookup y = some .local)
    (hsw : swapsWith (.ListComp elt [⟨tg, it, ifs, 0⟩, ⟨tg1, it1, ifs1, 0⟩] scope pos) (some (.Name y py)) pos'.line X.env = pure true) (hv : ∀ i ∈ vs1, i ∈ own.map (·.2)) (hs : ∀ x, foldedSetIterable it X.env x = pure x) (hs1 : ∀ env x, foldedSetIterable it1 env x = pure x) :
    PS X (.Assign [.Name y py] (.ListComp elt [⟨tg, it, ifs, 0⟩, ⟨tg1, it1, ifs1, 0⟩] scope pos) pos') (tAsg (tLc2 ti g tt ti1 g1 tt1 te (own.map (·.2)) vs1) (gName i)) :=
  ps_setLc2 hc hN hy hyl hsw hi.pi ok hv (fun s H C cl fp => (hg s H C cl fp).pg) (fun s H C cl fp => (ht s H C cl fp).pt) (fun s H C cl fp => (hi1 s H C cl fp).pi) (fun s H C cl fp => (hg1 s H C cl fp).pg) (fun s H C cl fp => (ht1 s H C cl fp).pt) (fun s H C cl fp => (he s H C cl fp).pe) hs hs1
theorem ssetC2 (i : Nat) {y : PySem.Str} {py : Pos} (hc : X.calm = true) (hN : X.N.Nodup) (hi : PIW X tg it ti wi) (ok : BlkOk X.N X.env.scope scope own) (hg : EachB X scope fun Y => PGW Y tg g is u) (ht : EachB X scope fun Y => PTsW Y ifs tt wt) (hi1 : EachB X scope fun Y => PIW Y tg1 it1 ti1 wi1)
    (hg1 : EachB X scope fun Y => PGW Y tg1 g1 is1 u1) (ht1 : EachB X scope fun Y => PTsW Y ifs1 tt1 wt1) (he : EachB X scope fun Y => PEW Y elt te we) (hy : X.N[i]? = some y := by rfl) (hyl : X.env.scope.names.lookup y = some .local := by rfl)
    (hsw : swapsWith (.ListComp elt [⟨tg, it, ifs, 0⟩, ⟨tg1, it1, ifs1, 0⟩] scope pos) (some (.Name y py)) pos'.line X.env = pure true := by exact sw_true rfl rfl rfl (by decide +kernel)) (hv : ∀ i ∈ vs1, i ∈ own.map (·.2) := by decide) (hsub : ∀ i ∈ is, i ∈ own.map (·.2) := by decide)
    (hsub1 : ∀ i ∈ is1, i ∈ vs1 := by decide) (hs : ∀ x, foldedSetIterable it X.env x = pure x := by intro _; rfl) (hs1 : ∀ env x, foldedSetIterable it1 env x = pure x := by intro _ _; rfl) :
    PSW X (.Assign [.Name y py] (.ListComp elt [⟨tg, it, ifs, 0⟩, ⟨tg1, it1, ifs1, 0⟩] scope pos) pos') (tAsg (tLc2 ti g tt ti1 g1 tt1 te (own.map (·.2)) vs1) (gName i)) (wAsg i (wLc2 wi is u wt wi1 is1 u1 wt1 we (own.map (·.2)) vs1)) :=
  ⟨psetC2 i hc hN hi ok hg ht hi1 hg1 ht1 he hy hyl hsw hv hs hs1, snd_asg (snd2_of hi hg ht hi1 hg1 ht1 he hsub hsub1).e⟩
theorem sownC2 (i : Nat) {y : PySem.Str} {py : Pos} (hc : X.calm = true) (hN : X.N.Nodup) (hi : PIW X tg it ti wi) (ok : BlkOk X.N X.env.scope scope own) (hg : EachB X scope fun Y => PGW Y tg g is u) (ht : EachB X scope fun Y => PTsW Y ifs tt wt) (hi1 : EachB X scope fun Y => PIW Y tg1 it1 ti1 wi1)
    (hg1 : EachB X scope fun Y => PGW Y tg1 g1 is1 u1) (ht1 : EachB X scope fun Y => PTsW Y ifs1 tt1 wt1) (he : EachB X scope fun Y => PEW Y elt te we) (hy : X.N[i]? = some y := by rfl) (hyl : X.env.scope.names.lookup y = some .local := by rfl)
    (hsw : swapsWith (.ListComp elt [⟨tg, it, ifs, 0⟩, ⟨tg1, it1, ifs1, 0⟩] scope pos) (some (.Name y py)) pos'.line X.env = pure true := by exact sw_true rfl rfl rfl (by decide +kernel)) (hv : ∀ i ∈ vs1, i ∈ own.map (·.2) := by decide) (hsub : ∀ i ∈ is, i ∈ own.map (·.2) := by decide)
    (hsub1 : ∀ i ∈ is1, i ∈ vs1 := by decide) (hs : ∀ x, foldedSetIterable it X.env x = pure x := by intro _; rfl) (hs1 : ∀ env x, foldedSetIterable it1 env x = pure x := by intro _ _; rfl) :
    PSW X (.Assign [.Name y py] (.ListComp elt [⟨tg, it, ifs, 0⟩, ⟨tg1, it1, ifs1, 0⟩] scope pos) pos') (tAsg (tLc2 ti g tt ti1 g1 tt1 te (own.map (·.2)) vs1) (gName i)) (wOwn i (wLc2N wi is u wt wi1 is1 u1 wt1 we (own.map (·.2)) vs1)) :=
  ⟨psetC2 i hc hN hi ok hg ht hi1 hg1 ht1 he hy hyl hsw hv hs hs1, snd_own (snd2_of hi hg ht hi1 hg1 ht1 he hsub hsub1)⟩
end
end Wy

set_option Elab.async false
set_option linter.all false
set_option maxRecDepth 100000
set_option maxHeartbeats 2000000
/-! W27: x, y = .. and x, y, z = .. with lists of the def's own among them. -/
namespace Wy
open PySem L2

section
variable {K : PySem.W.Frag} {bx : Bx} {M W W' W1 : Addr → Prop} {H H1 H' : Hp} {σ σ' : L2.St} {ρ ρ' : SE}
/-- the same things at other places -/
theorem RS.at (r : RS K bx M W H σ ρ) (F : Nat → Nat → Prop) (hl : ρ'.length ≤ σ'.length) (hi : ∀ i j k, F i k → F j k → i = j)
    (h : ∀ (i : Nat) x, ρ'[i]? = some (some x) → ∃ k, F i k ∧ ρ[k]? = some (some x) ∧ σ'[i]? = σ[k]?) : RS K bx M W H σ' ρ' := by
  refine ⟨hl, fun i d e => ?_, fun i l e => ?_, fun i j l l' p n ei ej si sj => ?_⟩
  · obtain ⟨k, _, a, b⟩ := h i _ e
    obtain ⟨v, c, d⟩ := r.dat k _ a
    exact ⟨v, b.trans c, d⟩
  · obtain ⟨k, _, a, b⟩ := h i _ e
    obtain ⟨p, vs, c, d⟩ := r.own k _ a
    exact ⟨p, vs, b.trans c, d⟩
  · obtain ⟨k, f1, a1, b1⟩ := h i _ ei
    obtain ⟨m, f2, a2, b2⟩ := h j _ ej
    refine r.ne k m l l' p (fun z => n (hi i j k f1 (z ▸ f2))) a1 a2 (b1.symm.trans si) (b2.symm.trans sj)
theorem RS.consN (r : RS K bx M W H σ ρ) : RS K bx M W H (none :: σ) (none :: ρ) := r.at (fun i k => i = k + 1) (Nat.succ_le_succ r.len) (fun i j k a b => a.trans b.symm) fun i x e => by
  cases i with
  | zero => cases e
  | succ i => exact ⟨i, rfl, e, rfl⟩
theorem RS.tail {pv : L2.St} {ps : SE} (hl : ps.length = pv.length) (hs : ρ.length ≤ σ.length) (r : RS K bx M W H (pv ++ σ) (ps ++ ρ)) : RS K bx M W H σ ρ := r.at (fun i k => k = i + ps.length) hs (fun i j k a b => by omega) fun i x e => by
  refine ⟨i + ps.length, rfl, ?_, ?_⟩
  · rw [List.getElem?_append_right (by omega)]; rw [Nat.add_sub_cancel]; exact e
  · rw [hl, List.getElem?_append_right (by omega), Nat.add_sub_cancel]
theorem RS.put1 {i : Nat} {v : Option V} {a : Sl} (r : RS K bx M W H (v :: σ) (some a :: ρ)) : RS K bx M W H (σ.set i v) (ρ.set i (some a)) := r.at (fun j k => (j = i ∧ k = 0) ∨ (j ≠ i ∧ k = j + 1))
    (by rw [List.length_set, List.length_set]; exact Nat.le_of_succ_le_succ r.len) (fun x y k a b => by omega) fun j x e => by
  have ln : ρ.length ≤ σ.length := Nat.le_of_succ_le_succ r.len
  by_cases q : i = j
  · subst q
    have hl : i < ρ.length := by
      have := (List.getElem?_eq_some_iff.mp e).1
      rwa [List.length_set] at this
    rw [List.getElem?_set_self hl] at e
    exact ⟨0, .inl ⟨rfl, rfl⟩, e, by rw [List.getElem?_set_self (Nat.lt_of_lt_of_le hl ln)]; rfl⟩
  · rw [List.getElem?_set_ne q] at e
    exact ⟨j + 1, .inr ⟨fun z => q z.symm, rfl⟩, e, by rw [List.getElem?_set_ne q]; rfl⟩
/-- stored one after another: the last value lies first -/
theorem RS.put2 {i : Nat} {v w : Option V} {a b : Sl} (r : RS K bx M W H (w :: v :: σ) (some b :: some a :: ρ)) : RS K bx M W H (w :: σ.set i v) (some b :: ρ.set i (some a)) := r.at (fun j k => (j = 0 ∧ k = 0) ∨ (j = i + 1 ∧ k = 1) ∨ (j ≠ i + 1 ∧ j ≠ 0 ∧ k = j + 1))
    (by simp only [List.length_cons, List.length_set]; exact Nat.le_of_succ_le_succ r.len) (fun x y k a b => by omega) fun j x e => by
  have ln : ρ.length ≤ σ.length := Nat.le_of_succ_le_succ (Nat.le_of_succ_le_succ r.len)
  cases j with
  | zero => exact ⟨0, .inl ⟨rfl, rfl⟩, e, rfl⟩
  | succ j =>
    have e : (ρ.set i (some a))[j]? = some (some x) := e
    show ∃ k, _ ∧ _ ∧ (σ.set i v)[j]? = _
    by_cases q : i = j
    · subst q
      have hl : i < ρ.length := by
        have := (List.getElem?_eq_some_iff.mp e).1
        rwa [List.length_set] at this
      rw [List.getElem?_set_self hl] at e
      exact ⟨1, .inr (.inl ⟨rfl, rfl⟩), e, by rw [List.getElem?_set_self (Nat.lt_of_lt_of_le hl ln)]; rfl⟩
    · rw [List.getElem?_set_ne q] at e
      exact ⟨j + 2, .inr (.inr ⟨by omega, by omega, rfl⟩), e, by rw [List.getElem?_set_ne q]; rfl⟩
theorem RS.put3 {i : Nat} {u v w : Option V} {a b c : Sl} (r : RS K bx M W H (w :: v :: u :: σ) (some c :: some b :: some a :: ρ)) : RS K bx M W H (w :: v :: σ.set i u) (some c :: some b :: ρ.set i (some a)) := r.at (fun j k => (j = 0 ∧ k = 0) ∨ (j = 1 ∧ k = 1) ∨ (j = i + 2 ∧ k = 2) ∨ (j ≠ i + 2 ∧ j ≠ 0 ∧ j ≠ 1 ∧ k = j + 1))
    (by simp only [List.length_cons, List.length_set]; exact Nat.le_of_succ_le_succ r.len) (fun x y k a b => by omega) fun j x e => by
  have ln : ρ.length ≤ σ.length := Nat.le_of_succ_le_succ (Nat.le_of_succ_le_succ (Nat.le_of_succ_le_succ r.len))
  cases j with
  | zero => exact ⟨0, .inl ⟨rfl, rfl⟩, e, rfl⟩
  | succ j =>
    cases j with
    | zero => exact ⟨1, .inr (.inl ⟨rfl, rfl⟩), e, rfl⟩
    | succ j =>
      have e : (ρ.set i (some a))[j]? = some (some x) := e
      show ∃ k, _ ∧ _ ∧ (σ.set i u)[j]? = _
      by_cases q : i = j
      · subst q
        have hl : i < ρ.length := by
          have := (List.getElem?_eq_some_iff.mp e).1
          rwa [List.length_set] at this
        rw [List.getElem?_set_self hl] at e
        exact ⟨2, .inr (.inr (.inl ⟨rfl, rfl⟩)), e, by rw [List.getElem?_set_self (Nat.lt_of_lt_of_le hl ln)]; rfl⟩
      · rw [List.getElem?_set_ne q] at e
        exact ⟨j + 3, .inr (.inr (.inr ⟨by omega, by omega, by omega, rfl⟩)), e, by rw [List.getElem?_set_ne q]; rfl⟩
end
/-! ### arguments, new lists among them -/
abbrev XW := DE → (List Sl → Prop) → Prop
def SndX (K : PySem.W.Frag) (t : TA) (w : XW) : Prop := ∀ bx M W σ H ρ (pv : L2.St) (ps : SE) (Qd : List Sl → Prop) (Q : List V → Hp → Prop), Gd bx M W H → ps.length = pv.length → ρ.length ≤ σ.length → RS K bx M W H (pv ++ σ) (ps ++ ρ) →
  (∀ W' vs ls H', Stp bx W H W' H' → Gd bx M W' H' → vs.length = ls.length → RS K bx M W' H' ((vs.map some).reverse ++ pv ++ σ) ((ls.map some).reverse ++ ps ++ ρ) → Qd ls → Q vs H') → w (vH ρ) Qd → t σ H Q
def wXn : XW := fun _ Q => Q []
def wXd (w : EW) (r : XW) : XW := fun δ Q => w δ fun d => r δ fun ls => Q (.dat d :: ls)
def wXo (w : NW) (r : XW) : XW := fun δ Q => w δ fun l => r δ fun ls => Q (.own l :: ls)
theorem snd_xn {K : PySem.W.Frag} : SndX K tNil wXn := fun bx M W σ H ρ pv ps Qd Q g hl hs r p q => p W [] [] H (Stp.refl bx W H) g rfl r q
theorem snd_xd {K : PySem.W.Frag} {te : TE} {tr : TA} {we : EW} {wr : XW} (he : SndE K te we) (hr : SndX K tr wr) : SndX K (tCons te tr) (wXd we wr) := fun bx M W σ H ρ pv ps Qd Q g hl hs r p q =>
  he bx (UM M W) σ H (vH ρ) _ _ g.good (r.tail hl hs).eH (fun d v H1 e b rv hq =>
    hr bx M W σ H1 ρ (some v :: pv) (some (.dat d) :: ps) _ _ (g.on e b) (by simp only [List.length_cons, hl]) hs (((r.on g e).consN).set 0 rv) (fun W' vs ls H' s g' n r' hq' =>
      p W' (v :: vs) (.dat d :: ls) H' ((Stp.of e).trans s) g' (by simp only [List.length_cons, n]) (by simpa only [List.map_cons, List.reverse_cons, List.append_assoc, List.cons_append, List.nil_append] using r') hq') hq) q
theorem snd_xo {K : PySem.W.Frag} {te : TE} {tr : TA} {we : NW} {wr : XW} (he : SndN K te we) (hr : SndX K tr wr) : SndX K (tCons te tr) (wXo we wr) := fun bx M W σ H ρ pv ps Qd Q g hl hs r p q =>
  he bx (UM M W) σ H (vH ρ) _ _ g.good (r.tail hl hs).eH (fun ds vs0 a H1 e b na ha rv hq => by
    obtain ⟨g1, r1, s1⟩ := own_new g r.consN e b na ha rv 0
    exact hr bx M _ σ H1 ρ (some (.ref a) :: pv) (some (.own ds) :: ps) _ _ g1 (by simp only [List.length_cons, hl]) hs r1 (fun W' vs ls H' s g' n r' hq' =>
      p W' (.ref a :: vs) (.own ds :: ls) H' (s1.trans s) g' (by simp only [List.length_cons, n]) (by simpa only [List.map_cons, List.reverse_cons, List.append_assoc, List.cons_append, List.nil_append] using r') hq') hq) q
structure PXW (X : Cx) (es : List Expr) (t : TA) (w : XW) : Prop where
  pa : PA X es t
  sn : SndX X.K t w
section
variable {X : Cx} {e : Expr} {es : List Expr} {te : TE} {tr : TA} {we : EW} {wn : NW} {wr : XW}
theorem xn : PXW X [] tNil wXn := ⟨pa_nil, snd_xn⟩
theorem xd (ha : PEW X e te we) (hr : PXW X es tr wr) (hs : starEach (e :: es) X.env = (false, eval e X.env) :: starEach es X.env := by rfl) : PXW X (e :: es) (tCons te tr) (wXd we wr) := ⟨pa_cons ha.pe hr.pa hs, snd_xd ha.sn hr.sn⟩
theorem xo (ha : PNW X e te wn) (hr : PXW X es tr wr) (hs : starEach (e :: es) X.env = (false, eval e X.env) :: starEach es X.env := by rfl) : PXW X (e :: es) (tCons te tr) (wXo wn wr) := ⟨pa_cons ha.pe hr.pa hs, snd_xo ha.sn hr.sn⟩
def wPar2 (i j : Nat) (a : XW) : SW := fun ρ P => a (vH ρ) fun ls => match ls with
  | [x, y] => P.nx ((ρ.set i (some x)).set j (some y))
  | _ => False
def wPar3 (i j l : Nat) (a : XW) : SW := fun ρ P => a (vH ρ) fun ls => match ls with
  | [x, y, z] => P.nx (((ρ.set i (some x)).set j (some y)).set l (some z))
  | _ => False
theorem spar2 {i j : Nat} {x y : Str} {a b : Expr} {ta : TA} {wa : XW} {px py pt pos : Pos} {kt k2 pt2} (hc : X.calm = true) (hN : X.N.Nodup) (ha : PXW X [a, b] ta wa) (hi : X.N[i]? = some x := by rfl) (hj : X.N[j]? = some y := by rfl) (hij : i ≠ j := by decide)
    (hx : X.env.scope.names.lookup x = some .local := by rfl) (hy : X.env.scope.names.lookup y = some .local := by rfl)
    (hw : swappedStores [.Tuple [.Name x px, .Name y py] kt pt] (.Tuple [a, b] k2 pt2) X.env = pure (some [x, y]) := by rfl)
    (hs : swapsWithSole [.Tuple [.Name x px, .Name y py] kt pt] (.Tuple [a, b] k2 pt2) pos.line X.env = pure false := by rfl) :
    PSW X (.Assign [.Tuple [.Name x px, .Name y py] kt pt] (.Tuple [a, b] k2 pt2) pos) (tPar i j ta) (wPar2 i j wa) := ⟨ps_par hc hN hi hj hij hx hy ha.pa hw hs, fun bx M W σ H ρ P Dn g r p q =>
  ha.sn bx M W σ H ρ [] [] _ _ g rfl r.len r (fun W' vs ls H' s g' n r' hq => by
    match ls, vs, n, hq with
    | [s1, s2], [v1, v2], _, hq => exact ⟨v1, v2, rfl, p.nx W' _ H' _ s g' (r'.put2.put1) hq⟩) q⟩
theorem spar3 {i j l : Nat} {x y z : Str} {a b c : Expr} {ta : TA} {wa : XW} {px py pz pt pos : Pos} {kt k2 pt2} (hc : X.calm = true) (hN : X.N.Nodup) (ha : PXW X [a, b, c] ta wa) (hi : X.N[i]? = some x := by rfl) (hj : X.N[j]? = some y := by rfl) (hl : X.N[l]? = some z := by rfl)
    (hij : i ≠ j := by decide) (hil : i ≠ l := by decide) (hjl : j ≠ l := by decide)
    (hx : X.env.scope.names.lookup x = some .local := by rfl) (hy : X.env.scope.names.lookup y = some .local := by rfl) (hz : X.env.scope.names.lookup z = some .local := by rfl)
    (hw : swappedStores [.Tuple [.Name x px, .Name y py, .Name z pz] kt pt] (.Tuple [a, b, c] k2 pt2) X.env = pure (some [x, y, z]) := by rfl)
    (hs : swapsWithSole [.Tuple [.Name x px, .Name y py, .Name z pz] kt pt] (.Tuple [a, b, c] k2 pt2) pos.line X.env = pure false := by rfl) :
    PSW X (.Assign [.Tuple [.Name x px, .Name y py, .Name z pz] kt pt] (.Tuple [a, b, c] k2 pt2) pos) (tPar3 i j l ta) (wPar3 i j l wa) := ⟨ps_par3 hc hN hi hj hl hij hil hjl hx hy hz ha.pa hw hs, fun bx M W σ H ρ P Dn g r p q =>
  ha.sn bx M W σ H ρ [] [] _ _ g rfl r.len r (fun W' vs ls H' s g' n r' hq => by
    match ls, vs, n, hq with
    | [s1, s2, s3], [v1, v2, v3], _, hq => exact ⟨v1, v2, v3, rfl, p.nx W' _ H' _ s g' (r'.put3.put2.put1) hq⟩) q⟩
end
end Wy

set_option Elab.async false
set_option linter.all false
set_option maxRecDepth 100000
set_option maxHeartbeats 4000000
/-! W28: list comprehensions of any number of clauses: one clause's loop over what lies within it (after HandS.Comp's two). -/
namespace Wy
open PySem L2

def MidEq (elt : Expr) (gens : List Comprehension) (scope : Scope) (pos : Pos) (k : Nat) (t0 i0 : Expr) (ifs0 : List Expr) (i1 : Expr) : Prop := ∀ it acc env,
    compTurn (.ListComp elt gens scope pos) k it acc env = (do
      standAt i0.pos
      match ← pyNext it with
      | none => pure (.done .next)
      | some v =>
        letOwnedTupleGo t0 it v
        assign t0 env v
        let mut ok := true
        for c in ifs0 do
          if ok then ok ← isTrue c env (eval c env)
        if ok then
          let x ← eval i1 env
          standAt i1.pos
          let x ← foldedSetIterable i1 env x
          let _ ← runOwn (.compStart (.ListComp elt gens scope pos) (k + 1) (← holding [x] (pyIter x)) acc env) env
        again (.compLoop (.ListComp elt gens scope pos) k it acc env))
def LastEq (elt : Expr) (gens : List Comprehension) (scope : Scope) (pos : Pos) (k : Nat) (t1 i1 : Expr) (ifs1 : List Expr) : Prop := ∀ it acc env,
    compTurn (.ListComp elt gens scope pos) k it acc env = (do
      standAt i1.pos
      match ← pyNext it with
      | none => pure (.done .next)
      | some v =>
        letOwnedTupleGo t1 it v
        assign t1 env v
        let mut ok := true
        for c in ifs1 do
          if ok then ok ← isTrue c env (eval c env)
        if ok then
          (do let _ ← call (.builtin "list.append") [acc, ← eval elt env])
        again (.compLoop (.ListComp elt gens scope pos) k it acc env))
theorem mid3_0 (elt t0 i0 t1 i1 t2 i2 : Expr) (f0 f1 f2 : List Expr) (scope : Scope) (pos : Pos) : MidEq elt [⟨t0, i0, f0, 0⟩, ⟨t1, i1, f1, 0⟩, ⟨t2, i2, f2, 0⟩] scope pos 0 t0 i0 f0 i1 := fun _ _ _ => rfl
theorem mid3_1 (elt t0 i0 t1 i1 t2 i2 : Expr) (f0 f1 f2 : List Expr) (scope : Scope) (pos : Pos) : MidEq elt [⟨t0, i0, f0, 0⟩, ⟨t1, i1, f1, 0⟩, ⟨t2, i2, f2, 0⟩] scope pos 1 t1 i1 f1 i2 := fun _ _ _ => rfl
theorem last3 (elt t0 i0 t1 i1 t2 i2 : Expr) (f0 f1 f2 : List Expr) (scope : Scope) (pos : Pos) : LastEq elt [⟨t0, i0, f0, 0⟩, ⟨t1, i1, f1, 0⟩, ⟨t2, i2, f2, 0⟩] scope pos 2 t2 i2 f2 := fun _ _ _ => rfl
section
variable {prog : Program} {w : World} {A : Around} {R : Result → Shared → Prop} {s : Shared} {elt t0 i0 t1 i1 : Expr} {ifs0 ifs1 : List Expr} {gens : List Comprehension} {scope : Scope} {pos : Pos} {it acc : Value} {env : Env} {k : Nat}
theorem compLoopM (he : MidEq elt gens scope pos k t0 i0 ifs0 i1) (hs : ∀ x, foldedSetIterable i1 env x = pure x) (I : Nat → Shared → Prop)
    (turn : ∀ n s, I n s → wpAny (model prog w) A (pyNext it) (fun r s₁ => match r with
      | none => R (.ok .next) s₁
      | some v => wpAny (model prog w) A (letOwnedTupleGo t0 it v) (fun _ s₁' => wpAny (model prog w) A (assign t0 env v) (fun _ s₂ =>
          wpAny (model prog w) A (forIn ifs0 true fun c r => if r = true then do let ok ← isTrue c env (eval c env); pure (ForInStep.yield ok) else pure (ForInStep.yield r)) (fun ok s₃ =>
            if ok = true then wpAny (model prog w) A (eval i1 env) (fun x s₄ => wpAny (model prog w) A (pyIter x) (fun it1 s₅ =>
              codeAny (model prog w) A (.compStart (.ListComp elt gens scope pos) (k + 1) it1 acc env) (fun r s' => match r with
                | .ok _ => ∃ m, m < n ∧ I m s'
                | .error _ => False) s₅) (notedBy (model prog w) A env fun e s' => R (.error e) s') s₄) (notedBy (model prog w) A env fun e s' => R (.error e) s') s₃
            else ∃ m, m < n ∧ I m s₃) (notedBy (model prog w) A env fun e s' => R (.error e) s') s₂) (notedBy (model prog w) A env fun e s' => R (.error e) s') s₁') (notedBy (model prog w) A env fun e s' => R (.error e) s') s₁) (notedBy (model prog w) A env fun e s' => R (.error e) s') s)
    (n : Nat) (h : I n s) :
    codeAny (model prog w) A (.compLoop (.ListComp elt gens scope pos) k it acc env) R s := by
  refine codeAny_loop rfl I (fun n s hI => ?_) n h
  show wpAny _ A ((compTurn (.ListComp elt gens scope pos) k it acc env).onRaise (fun x => do noteFrame x env; theTreesLotGoes x)) _ _ s
  refine wpAny_noted ?_
  rw [he it acc env]
  refine wpAny_bind (wpAny_standAt (wpAny_bind (wpAny_mono (turn n s hI) (fun r s₁ h₁ => ?_) fun _ _ h' => h')))
  cases r with
  | none => exact wpAny_pure h₁
  | some v =>
    refine wpAny_bind (wpAny_mono h₁ (fun _ s₁' h₁' => ?_) fun _ _ h' => h')
    refine wpAny_bind (wpAny_mono h₁' (fun _ s₂ h₂ => wpAny_bind (wpAny_mono h₂ (fun ok s₃ h₃ => ?_) fun _ _ h' => h')) fun _ _ h' => h')
    cases ok with
    | false => exact wpAny_pure ⟨rfl, h₃⟩
    | true =>
      refine wpAny_bind (wpAny_mono h₃ (fun x s₄ h₄ => ?_) fun _ _ h' => h')
      refine wpAny_bind (wpAny_standAt (wpAny_bind (wpAny_of_eq (hs x) (wpAny_bind (wpAny_holding (wpAny_mono h₄ (fun it1 s₅ h₅ => ?_) fun _ _ h' => h'))))))
      refine wpAny_bind (wpAny_runOwn ?_)
      rw [Around.mark_none]
      refine codeAny_mono h₅ fun r s' hr => ?_
      cases r with
      | ok f =>
        first
          | exact wpAny_pure ⟨rfl, hr⟩
          | exact wpAny_bind (wpAny_pure (wpAny_pure ⟨rfl, hr⟩))
      | error e => exact hr.elim
theorem compLoopL (he : LastEq elt gens scope pos k t1 i1 ifs1) (I : Nat → Shared → Prop)
    (turn : ∀ n s, I n s → wpAny (model prog w) A (pyNext it) (fun r s₁ => match r with
      | none => R (.ok .next) s₁
      | some v => wpAny (model prog w) A (letOwnedTupleGo t1 it v) (fun _ s₁' => wpAny (model prog w) A (assign t1 env v) (fun _ s₂ =>
          wpAny (model prog w) A (forIn ifs1 true fun c r => if r = true then do let ok ← isTrue c env (eval c env); pure (ForInStep.yield ok) else pure (ForInStep.yield r)) (fun ok s₃ =>
            if ok = true then wpAny (model prog w) A (eval elt env) (fun x s₄ =>
              wpAny (model prog w) A (call (.builtin "list.append") [acc, x]) (fun _ s₅ => ∃ m, m < n ∧ I m s₅) (notedBy (model prog w) A env fun e s' => R (.error e) s') s₄) (notedBy (model prog w) A env fun e s' => R (.error e) s') s₃
            else ∃ m, m < n ∧ I m s₃) (notedBy (model prog w) A env fun e s' => R (.error e) s') s₂) (notedBy (model prog w) A env fun e s' => R (.error e) s') s₁') (notedBy (model prog w) A env fun e s' => R (.error e) s') s₁) (notedBy (model prog w) A env fun e s' => R (.error e) s') s)
    (n : Nat) (h : I n s) :
    codeAny (model prog w) A (.compLoop (.ListComp elt gens scope pos) k it acc env) R s := by
  refine codeAny_loop rfl I (fun n s hI => ?_) n h
  show wpAny _ A ((compTurn (.ListComp elt gens scope pos) k it acc env).onRaise (fun x => do noteFrame x env; theTreesLotGoes x)) _ _ s
  refine wpAny_noted ?_
  rw [he it acc env]
  refine wpAny_bind (wpAny_standAt (wpAny_bind (wpAny_mono (turn n s hI) (fun r s₁ h₁ => ?_) fun _ _ h' => h')))
  cases r with
  | none => exact wpAny_pure h₁
  | some v =>
    refine wpAny_bind (wpAny_mono h₁ (fun _ s₁' h₁' => ?_) fun _ _ h' => h')
    refine wpAny_bind (wpAny_mono h₁' (fun _ s₂ h₂ => wpAny_bind (wpAny_mono h₂ (fun ok s₃ h₃ => ?_) fun _ _ h' => h')) fun _ _ h' => h')
    cases ok with
    | false => exact wpAny_pure ⟨rfl, h₃⟩
    | true =>
      exact wpAny_bind (wpAny_bind (wpAny_mono h₃ (fun x s₄ h₄ => wpAny_bind (wpAny_mono h₄ (fun _ s₅ h₅ => wpAny_pure (wpAny_pure ⟨rfl, h₅⟩)) fun _ _ h' => h')) fun _ _ h' => h'))
theorem compStartN (hk : gens[k]? = some ⟨t1, i1, ifs1, 0⟩) (h0 : codeAny (model prog w) A (.compLoop (.ListComp elt gens scope pos) k it acc env) R s)
    (h : wpAny (model prog w) A (pyIter it) (fun it' s' => codeAny (model prog w) A (.compLoop (.ListComp elt gens scope pos) k it' acc env) R s')
      (notedBy (model prog w) A env fun x s' => R (.error x) s') s) :
    codeAny (model prog w) A (.compStart (.ListComp elt gens scope pos) k it acc env) R s := by
  refine codeAny_of_tree ?_
  show wpAny _ _ ((compStart (.ListComp elt gens scope pos) k it acc env).onRaise (fun x => do noteFrame x env; standAt theWindowsPlace)) _ _ s
  refine wpAny_notedAt ?_
  unfold compStart
  have hc : (clausesOf (.ListComp elt gens scope pos))[k]? = some ⟨t1, i1, ifs1, 0⟩ := hk
  rw [hc]
  show wpAny _ _ (ask >>= _) _ _ s
  refine wpAny_bind (wpAny_askSetting (wpAny_ite ?_))
  split
  · first
      | exact wpAny_bind (wpAny_pure (wpAny_pure (And.intro rfl h0)))
      | exact wpAny_pure (And.intro rfl h0)
  · first
      | exact wpAny_bind (wpAny_rule (wpAny_bind (wpAny_standAt (wpAny_bind (wpAny_mono h (fun it' s' h' => wpAny_pure (And.intro rfl h')) fun _ _ x => x)))))
      | (refine wpAny_bind (wpAny_rule ?_); show wpAny _ _ (standAt i1.pos >>= _) _ _ s; exact wpAny_bind (wpAny_standAt (wpAny_bind (wpAny_mono h (fun it' s' h' => wpAny_pure (And.intro rfl h')) fun _ _ x => x))))
end
end Wy

set_option Elab.async false
set_option linter.all false
set_option maxRecDepth 100000
set_option maxHeartbeats 4000000
/-! W29: comprehensions of any number of clauses: what a clause does, what the whole does. -/
namespace Wy
open PySem L2

/-- what lies within a clause: from the slots and the heap, the new list at the address, to N -/
abbrev TB := Addr → L2.St → Hp → (Hp → Prop) → Prop
def bElt (te : TE) : TB := fun D σ H N => te σ H fun y H4 => ∃ acc, H4 D = some (.lst acc) ∧ acc.length < sizeLine ∧ N (upd H4 D (.lst (acc ++ [y])))
def bCl (wi : TI) (g : TG) (tt : TT) (vs : List Nat) (B : TB) : TB := fun D σ H N => wi σ H fun J H1 => ∃ W : Nat → Nat → Hp → Prop, (∃ m, W 0 m H1) ∧ ∀ j k H, W j k H →
  (J.stop j H ∧ N H) ∨ (J.go j H ∧ ∃ Nx : Hp → Prop, (∀ H', Nx H' → ∃ k', k' < k ∧ W (j + 1) k' H') ∧ ∀ x H', J.yld j H x H' → g x (L2.wipe σ vs) H' fun σ3 H5 => L2.wipe σ3 vs = L2.wipe σ vs ∧ tt σ3 H5 fun b H6 =>
    if b = true then B D σ3 H6 Nx else Nx H6)
def tLcM (wi : TI) (g : TG) (tt : TT) (B : TB) (vs : List Nat) : TE := fun σ H Q => wi σ H fun J H1 => ∀ D, H1 D = none → ∃ W : Nat → Nat → Hp → Prop, (∃ m, W 0 m (upd H1 D (.lst []))) ∧ ∀ i m H, W i m H →
  (J.stop i H ∧ Q (.ref D) H) ∨ (J.go i H ∧ ∃ Nx : Hp → Prop, (∀ H', Nx H' → ∃ m', m' < m ∧ W (i + 1) m' H') ∧ ∀ x H', J.yld i H x H' → g x (L2.wipe σ vs) H' fun σ2 H2 => L2.wipe σ2 vs = L2.wipe σ vs ∧ tt σ2 H2 fun b H3 =>
    if b = true then B D σ2 H3 Nx else Nx H3)
section
variable {X : Cx}
/-- the clause at k, from its source on -/
def ClauseOk (Y : Cx) (ce : Env) (elt : Expr) (gens : List Comprehension) (scope : Scope) (pos : Pos) (k : Nat) (iter : Expr) (vs : List Nat) (B : TB) : Prop :=
  ∀ (pins : List (Addr × Obj)) (s : Shared) (σ : L2.St) (H : Hp) (D : Addr) (N : Hp → Prop), Inv Y pins σ H s → B D σ H N →
    wpAny (model Y.prog Y.w) Y.A (eval iter ce) (fun xv s1 => wpAny (model Y.prog Y.w) Y.A (pyIter xv) (fun it s2 => codeAny (model Y.prog Y.w) Y.A (.compStart (.ListComp elt gens scope pos) k it (.ref D) ce) (fun r s' => match r with
      | .ok _ => ∃ H', Inv Y pins (L2.wipe σ vs) H' s' ∧ N H'
      | .error _ => False) s2) (fun _ _ => False) s1) (fun _ _ => False) s
section
variable {s3 : Shared} {H3 : Hp} {sc : Scope} {ce : Env} {fp : List Addr} {elt tg1 iter1 iter2 : Expr} {ifs1 : List Expr} {gens : List Comprehension} {scope : Scope} {pos : Pos} {k : Nat} {wi1 : TI} {g1 : TG} {tt1 : TT} {te : TE} {vs1 vs2 : List Nat} {B : TB}
theorem clause_last (hc : X.calm = true) (hk : gens[k]? = some ⟨tg1, iter1, ifs1, 0⟩) (heq : LastEq elt gens scope pos k tg1 iter1 ifs1) (pi1 : PI (X.blk s3 H3 sc ce fp) tg1 iter1 wi1) (pg1 : PG (X.blk s3 H3 sc ce fp) tg1 g1) (pt1 : PTs (X.blk s3 H3 sc ce fp) ifs1 tt1) (pe : PE (X.blk s3 H3 sc ce fp) elt te) :
    ClauseOk (X.blk s3 H3 sc ce fp) ce elt gens scope pos k iter1 vs1 (bCl wi1 g1 tt1 vs1 (bElt te)) := fun pins s σ H D N I q => by
  refine thnF (pi1.run _ s σ H _ I q) fun xv s10 hx => thnF hx fun itv s11 h11 => ?_
  obtain ⟨it1, fp1, tn1, J1, H11, e1, I11, T1, st11, f11, W1, ⟨m1, w1⟩, turn1⟩ := h11
  subst e1
  have stat1 : ∀ {H' : Hp}, (∀ b ∈ fp1, H' b = none) → ∀ b ∈ fp1, FpOk (X.blk s3 H3 sc ce fp) pins H' b := fun hn b hb => ⟨hn b hb, (f11 b hb).2⟩
  have loop1 : codeAny (model X.prog X.w) X.A (.compLoop (.ListComp elt gens scope pos) k (.ref it1) (.ref D) ce)
      (fun r s' => match r with
        | .ok _ => ∃ H', Inv (X.blk s3 H3 sc ce fp) pins (L2.wipe σ vs1) H' s' ∧ N H'
        | .error _ => False) s11 := by
    refine compLoopL heq (fun k s' => ∃ j H', Inv (X.blk s3 H3 sc ce fp) pins (L2.wipe σ vs1) H' s' ∧ tn1 j s'.heap ∧ (∀ b ∈ fp1, H' b = none) ∧ W1 j k H') ?_ m1 ⟨0, H11, I11.weak (wipe_length _ _) (fun j v e => (wipe_some e).1), st11, fun b hb => (f11 b hb).1, w1⟩
    rintro k s12 ⟨j, H12, I12, st12, n12, w12⟩
    rcases turn1 j k H12 w12 with ⟨stop1, nx1⟩ | ⟨go1, Nx1, hNx1, step1⟩
    · refine thnF (T1.done (X.blk s3 H3 sc ce fp) rfl rfl rfl hc j _ s12 (L2.wipe σ vs1) H12 (fun _ _ => False) I12 (stat1 n12) st12 stop1) fun r s13 ⟨hr, I13⟩ => ?_
      subst hr
      exact ⟨_, I13, nx1⟩
    · refine thnF (T1.item (X.blk s3 H3 sc ce fp) rfl rfl rfl hc j _ s12 (L2.wipe σ vs1) H12 (fun _ _ => False) I12 (stat1 n12) st12 go1) fun r s13 ⟨u1, hr, h13⟩ => ?_
      subst hr
      refine thnF h13 fun _ s14 ⟨x1, H14, I14, r14, y14, st14, n14⟩ => ?_
      have I14' := I14.pinned (stat1 n14) (T1.obj _ _ st14)
      refine thnF (pg1.run _ s14 (L2.wipe σ vs1) H14 x1 u1 _ I14' r14 (step1 x1 H14 y14)) fun _ s15 ⟨σ15, H15, I15, hw15, q15⟩ => ?_
      refine thnF (pt1.run _ s15 σ15 H15 _ I15 q15) fun b1 s16 ⟨H16, I16, q16⟩ => ?_
      have fin1 : ∀ {s' : Shared} {H' : Hp}, Inv (X.blk s3 H3 sc ce fp) (pins ++ pinsAt fp1 s14.heap) σ15 H' s' → Nx1 H' → ∃ m, m < k ∧ ∃ j H', Inv (X.blk s3 H3 sc ce fp) pins (L2.wipe σ vs1) H' s' ∧ tn1 j s'.heap ∧ (∀ b ∈ fp1, H' b = none) ∧ W1 j m H' := fun {s' H'} I' nx => by
        obtain ⟨m', hm, w'⟩ := hNx1 H' nx
        have pin' : ∀ b ∈ fp1, ∀ o, s14.heap.get? b = some o → s'.heap.get? b = some o ∧ H' b = none := fun b hb o e =>
          let z := I'.pin (b, o) (List.mem_append_right _ (List.mem_append_right _ (mem_pinsAt hb e)))
          ⟨z.1, z.2.1⟩
        refine ⟨m', hm, j + 1, H', I'.unpinned.weak (by rw [← hw15, wipe_length]) (fun j v e => by rw [← hw15] at e; exact (wipe_some e).1), T1.keep _ _ _ st14 fun b hb o e => (pin' b hb o e).1, fun b hb => ?_, w'⟩
        obtain ⟨o, e, _⟩ := T1.obj _ _ st14 b hb
        exact (pin' b hb o e).2
      cases b1 with
      | false =>
        simp only [Bool.false_eq_true, if_false] at q16 ⊢
        exact fin1 I16 q16
      | true =>
        simp only [if_true] at q16 ⊢
        refine thnF (pe.run _ s16 σ15 H16 _ I16 q16) fun z s17 ⟨yv, H17, I17, r17, acc, hD17, hz17, nx⟩ => ?_
        exact app_ok (X := X.blk s3 H3 sc ce fp) I17 hD17 hz17 r17 fun s18 I18 => fin1 I18 nx
  exact compStartN hk loop1 (T1.self X.A 0 _ _ _ st11 loop1)
theorem clause_mid (hc : X.calm = true) (hk : gens[k]? = some ⟨tg1, iter1, ifs1, 0⟩) (heq : MidEq elt gens scope pos k tg1 iter1 ifs1 iter2) (hs : ∀ x, foldedSetIterable iter2 ce x = pure x) (pi1 : PI (X.blk s3 H3 sc ce fp) tg1 iter1 wi1) (pg1 : PG (X.blk s3 H3 sc ce fp) tg1 g1) (pt1 : PTs (X.blk s3 H3 sc ce fp) ifs1 tt1)
    (hv : ∀ i ∈ vs2, i ∈ vs1) (hin : ClauseOk (X.blk s3 H3 sc ce fp) ce elt gens scope pos (k + 1) iter2 vs2 B) :
    ClauseOk (X.blk s3 H3 sc ce fp) ce elt gens scope pos k iter1 vs1 (bCl wi1 g1 tt1 vs1 B) := fun pins s σ H D N I q => by
  refine thnF (pi1.run _ s σ H _ I q) fun xv s10 hx => thnF hx fun itv s11 h11 => ?_
  obtain ⟨it1, fp1, tn1, J1, H11, e1, I11, T1, st11, f11, W1, ⟨m1, w1⟩, turn1⟩ := h11
  subst e1
  have stat1 : ∀ {H' : Hp}, (∀ b ∈ fp1, H' b = none) → ∀ b ∈ fp1, FpOk (X.blk s3 H3 sc ce fp) pins H' b := fun hn b hb => ⟨hn b hb, (f11 b hb).2⟩
  have loop1 : codeAny (model X.prog X.w) X.A (.compLoop (.ListComp elt gens scope pos) k (.ref it1) (.ref D) ce)
      (fun r s' => match r with
        | .ok _ => ∃ H', Inv (X.blk s3 H3 sc ce fp) pins (L2.wipe σ vs1) H' s' ∧ N H'
        | .error _ => False) s11 := by
    refine compLoopM heq hs (fun k s' => ∃ j H', Inv (X.blk s3 H3 sc ce fp) pins (L2.wipe σ vs1) H' s' ∧ tn1 j s'.heap ∧ (∀ b ∈ fp1, H' b = none) ∧ W1 j k H') ?_ m1 ⟨0, H11, I11.weak (wipe_length _ _) (fun j v e => (wipe_some e).1), st11, fun b hb => (f11 b hb).1, w1⟩
    rintro k s12 ⟨j, H12, I12, st12, n12, w12⟩
    rcases turn1 j k H12 w12 with ⟨stop1, nx1⟩ | ⟨go1, Nx1, hNx1, step1⟩
    · refine thnF (T1.done (X.blk s3 H3 sc ce fp) rfl rfl rfl hc j _ s12 (L2.wipe σ vs1) H12 (fun _ _ => False) I12 (stat1 n12) st12 stop1) fun r s13 ⟨hr, I13⟩ => ?_
      subst hr
      exact ⟨_, I13, nx1⟩
    · refine thnF (T1.item (X.blk s3 H3 sc ce fp) rfl rfl rfl hc j _ s12 (L2.wipe σ vs1) H12 (fun _ _ => False) I12 (stat1 n12) st12 go1) fun r s13 ⟨u1, hr, h13⟩ => ?_
      subst hr
      refine thnF h13 fun _ s14 ⟨x1, H14, I14, r14, y14, st14, n14⟩ => ?_
      have I14' := I14.pinned (stat1 n14) (T1.obj _ _ st14)
      refine thnF (pg1.run _ s14 (L2.wipe σ vs1) H14 x1 u1 _ I14' r14 (step1 x1 H14 y14)) fun _ s15 ⟨σ15, H15, I15, hw15, q15⟩ => ?_
      refine thnF (pt1.run _ s15 σ15 H15 _ I15 q15) fun b1 s16 ⟨H16, I16, q16⟩ => ?_
      have fin1 : ∀ {σ9 : L2.St} {s' : Shared} {H' : Hp}, Inv (X.blk s3 H3 sc ce fp) (pins ++ pinsAt fp1 s14.heap) σ9 H' s' → (L2.wipe σ vs1).length = σ9.length → (∀ (j : Nat) v, (L2.wipe σ vs1)[j]? = some (some v) → σ9[j]? = some (some v)) → Nx1 H' → ∃ m, m < k ∧ ∃ j H', Inv (X.blk s3 H3 sc ce fp) pins (L2.wipe σ vs1) H' s' ∧ tn1 j s'.heap ∧ (∀ b ∈ fp1, H' b = none) ∧ W1 j m H' := fun {σ9 s' H'} I' hl hk nx => by
        obtain ⟨m', hm, w'⟩ := hNx1 H' nx
        have pin' : ∀ b ∈ fp1, ∀ o, s14.heap.get? b = some o → s'.heap.get? b = some o ∧ H' b = none := fun b hb o e =>
          let z := I'.pin (b, o) (List.mem_append_right _ (List.mem_append_right _ (mem_pinsAt hb e)))
          ⟨z.1, z.2.1⟩
        refine ⟨m', hm, j + 1, H', I'.unpinned.weak hl hk, T1.keep _ _ _ st14 fun b hb o e => (pin' b hb o e).1, fun b hb => ?_, w'⟩
        obtain ⟨o, e, _⟩ := T1.obj _ _ st14 b hb
        exact (pin' b hb o e).2
      have hl8 : (L2.wipe σ vs1).length = σ15.length := by rw [← hw15, wipe_length]
      have hk8 : ∀ (j : Nat) v, (L2.wipe σ vs1)[j]? = some (some v) → σ15[j]? = some (some v) := fun j v e => by
        rw [← hw15] at e
        exact (wipe_some e).1
      have hk9 : ∀ (j : Nat) v, (L2.wipe σ vs1)[j]? = some (some v) → (L2.wipe σ15 vs2)[j]? = some (some v) := fun j v e => by
        rw [← hw15] at e
        obtain ⟨e1, e2⟩ := wipe_some e
        rw [wipe_out fun z => e2 (hv j z)]
        exact e1
      cases b1 with
      | false =>
        simp only [Bool.false_eq_true, if_false] at q16 ⊢
        exact fin1 I16 hl8 hk8 q16
      | true =>
        simp only [if_true] at q16 ⊢
        refine thnF (hin _ s16 σ15 H16 D Nx1 I16 q16) fun xv s17 hx => thnF hx fun itv s18 h18 => codeAny_mono h18 fun r s' hr => ?_
        cases r with
        | ok f =>
          obtain ⟨H', I', nx⟩ := hr
          exact fin1 I' (hl8.trans (wipe_length σ15 vs2).symm) hk9 nx
        | error e => exact hr.elim
  exact compStartN hk loop1 (T1.self X.A 0 _ _ _ st11 loop1)
end
end
end Wy

set_option Elab.async false
set_option linter.all false
set_option maxRecDepth 100000
set_option maxHeartbeats 4000000
/-! W30: the whole comprehension of several clauses. -/
namespace Wy
open PySem L2

section
variable {X : Cx}
abbrev EachB' (X : Cx) (scope : Scope) (P : Cx → Env → Prop) : Prop := ∀ (s : Shared) (H : Hp) (C : Addr) (cl : List (Str × Addr)) (fp : List Addr), P (X.blk s H scope (compEnvC scope cl C X.env) fp) (compEnvC scope cl C X.env)
theorem compStart0 {gens : List Comprehension} {elt : Expr} {scope : Scope} {pos : Pos} {t1 i1 : Expr} {ifs1 : List Expr} {prog : Program} {w : World} {A : Around} {R : Result → Shared → Prop} {s : Shared} {it acc : Value} {env : Env} (hk : gens[0]? = some ⟨t1, i1, ifs1, 0⟩) (h0 : codeAny (model prog w) A (.compLoop (.ListComp elt gens scope pos) 0 it acc env) R s)
    (h : wpAny (model prog w) A (pyIter it) (fun it' s' => codeAny (model prog w) A (.compLoop (.ListComp elt gens scope pos) 0 it' acc env) R s')
      (notedBy (model prog w) A env fun x s' => R (.error x) s') s) :
    codeAny (model prog w) A (.compStart (.ListComp elt gens scope pos) 0 it acc env) R s := compStartN hk h0 h
theorem lcM_core {pins : List (Addr × Obj)} {s : Shared} {σ : L2.St} {H : Hp} {Q : VK} {elt tg iter iter1 : Expr} {ifs : List Expr} {gs : List Comprehension} {scope : Scope} {own : List (Str × Nat)} {vs1 : List Nat} {pos pos' : Pos} {wi : TI} {g : TG} {tt : TT} {B : TB} {use : Option (Value → Sem Unit)} {Qf : Value → Shared → Prop}
    (hc : X.calm = true) (hN : X.N.Nodup) (I : Inv X pins σ H s) (hi : PI X tg iter wi) (ok : BlkOk X.N X.env.scope scope own) (hv : ∀ i ∈ vs1, i ∈ own.map (·.2))
    (hg : EachB' X scope fun Y _ => PG Y tg g) (ht : EachB' X scope fun Y _ => PTs Y ifs tt) (hs : ∀ x, foldedSetIterable iter X.env x = pure x)
    (heq : MidEq elt (⟨tg, iter, ifs, 0⟩ :: gs) scope pos 0 tg iter ifs iter1) (hs1 : ∀ env x, foldedSetIterable iter1 env x = pure x)
    (hB : EachB' X scope fun Y ce => ClauseOk Y ce elt (⟨tg, iter, ifs, 0⟩ :: gs) scope pos 1 iter1 vs1 B)
    (h : tLcM wi g tt B (own.map (·.2)) σ H Q)
    (hRR : ∀ D C s' m H', Inv X pins σ H' s' → Q (.ref D) H' → s'.heap.Ns C m → FpOk X pins H' C → compPost (model X.prog X.w) X.A X.xe use Qf (.ref D) C (.ok .next) s') :
    wpAny (model X.prog X.w) X.A (comprehension (.ListComp elt (⟨tg, iter, ifs, 0⟩ :: gs) scope pos) scope X.env pos' (newList []) false (eval iter X.env) use) Qf X.xe s := by
  have hfree : ∀ y ∈ scope.names, y.2 = .free → ∃ c, X.env.cells.lookup y.1 = some c := fun y hy e => by
    rcases ok.free y hy e with k | k
    · exact I.ok.has _ (.inl k)
    · exact I.ok.has _ (.inr k)
  refine wpAny_comprehension_free (use := use) rfl hs (closure_ok hfree) ok.kind (fun y hy e => by rw [ok.uniq y hy, e])
    (thn (hi.run pins s σ H _ I h) fun xv s1 hx => thn hx fun itv s2 h2 => ?_)
  obtain ⟨it, fp, tn, J, H2, e, I2, T, st2, f2, q⟩ := h2
  subst e
  refine wpAny_newObj_type (newEnv_comp ?_) (by show 0 ≤ sizeLine; decide)
  generalize hD : s2.heap.objs.size = D
  have hDn : H2 D = none := I2.hok.fresh (Nat.le_of_eq hD)
  obtain ⟨W, ⟨m0, w0⟩, turn⟩ := q D hDn
  generalize hs3 : ({ s2 with heap := s2.heap.push { cls := .type "list", data := .seq ([] : List Value).toArray } } : Shared) = s3
  have I3 : Inv X pins σ (upd H2 D (.lst [])) s3 := by
    rw [← hs3]
    refine I2.laid (t' := s2.toks) (fun b o e => Heap.get?_push_of_some _ e) (Nat.le_of_eq hD) ⟨Nat.zero_le _, [], 0, .nil, ?_⟩
    rw [← hD]
    exact Heap.get?_push_size _ rfl
  have h3 : s3.heap = s2.heap.push { cls := .type "list", data := .seq ([] : List Value).toArray } := by rw [← hs3]
  have sz : ∀ b ∈ fp, b < s2.heap.objs.size := fun b hb => by
    obtain ⟨o, e, _⟩ := T.obj _ _ st2 b hb
    exact Heap.lt_size e
  have f3 : ∀ b ∈ fp, FpOk X pins (upd H2 D (.lst [])) b ∧ b < s3.heap.objs.size := fun b hb => by
    have hlt := sz b hb
    refine ⟨⟨?_, (f2 b hb).2⟩, by rw [h3, Heap.size_push]; exact Nat.lt_succ_of_lt hlt⟩
    rw [upd_ne (by rw [← hD]; exact Nat.ne_of_lt hlt)]
    exact (f2 b hb).1
  have st3 : tn 0 s3.heap := T.keep _ _ _ st2 fun b _ o e => by rw [h3]; exact Heap.get?_push_of_some _ e
  have I4 := block_start I3 ok hN f3
  have pg := hg s3 (upd H2 D (.lst [])) s3.heap.objs.size (cellsFrom (s3.heap.objs.size + 1) scope.names (cloFrom X.env.cells scope.names [])) fp
  have pt := ht s3 (upd H2 D (.lst [])) s3.heap.objs.size (cellsFrom (s3.heap.objs.size + 1) scope.names (cloFrom X.env.cells scope.names [])) fp
  have pB := hB s3 (upd H2 D (.lst [])) s3.heap.objs.size (cellsFrom (s3.heap.objs.size + 1) scope.names (cloFrom X.env.cells scope.names [])) fp
  show codeAny _ _ (.compStart (.ListComp elt (⟨tg, iter, ifs, 0⟩ :: gs) scope pos) 0 (.ref it) (.ref D) (compEnvC scope (cellsFrom (s3.heap.objs.size + 1) scope.names (cloFrom X.env.cells scope.names [])) s3.heap.objs.size X.env)) (compPost (model X.prog X.w) X.A X.xe use Qf (.ref D) s3.heap.objs.size) { s3 with heap := pushCells (s3.heap.push { cls := .type "dict", data := .dict #[] }) scope.names }
  have nfp : ∀ b ∈ fp, (upd H2 D (.lst [])) b = none := fun b hb => (f3 b hb).1.1
  generalize hce : compEnvC scope (cellsFrom (s3.heap.objs.size + 1) scope.names (cloFrom X.env.cells scope.names [])) s3.heap.objs.size X.env = ce at I4 pg pt pB ⊢
  have cL : ce.locals = s3.heap.objs.size := by subst hce; rfl
  generalize hH3 : upd H2 D (.lst []) = H3 at I3 I4 pg pt pB w0 nfp f3
  generalize hs4 : ({ s3 with heap := pushCells (s3.heap.push { cls := .type "dict", data := .dict #[] }) scope.names } : Shared) = s4 at I4 ⊢
  have st4 : tn 0 s4.heap := T.keep _ _ _ st3 fun b _ o e => by rw [← hs4]; exact pushCells_keeps _ _ _ _ (Heap.get?_push_of_some _ e)
  have stat : ∀ {σ' : L2.St} {H' : Hp} {s' : Shared}, Inv (X.blk s3 H3 scope ce fp) [] σ' H' s' → (∀ b ∈ fp, H' b = none) → ∀ b ∈ fp, FpOk (X.blk s3 H3 scope ce fp) [] H' b := fun {σ' H' s'} I' hn b hb =>
    ⟨hn b hb, (I'.ok.exf b hb).1, I'.ok.exfs b hb, .inl hb, fun x c e => (I'.ok.exf b hb).2 x c e, fun p hp => absurd (show p ∈ ([] : List (Addr × Obj)) ++ [] from hp) (by simp)⟩
  have loop : codeAny (model X.prog X.w) X.A (.compLoop (.ListComp elt (⟨tg, iter, ifs, 0⟩ :: gs) scope pos) 0 (.ref it) (.ref D) ce) (compPost (model X.prog X.w) X.A X.xe use Qf (.ref D) s3.heap.objs.size) s4 := by
    refine compLoopM heq (hs1 ce) (fun n s' => ∃ i H', Inv (X.blk s3 H3 scope ce fp) [] (L2.wipe σ (own.map (·.2))) H' s' ∧ tn i s'.heap ∧ (∀ b ∈ fp, H' b = none) ∧ W i n H') ?_ m0 ⟨0, H3, I4, st4, nfp, w0⟩
    rintro n s5 ⟨i, H5, I5, st5, n5, w5⟩
    rcases turn i n H5 w5 with ⟨stop, qq⟩ | ⟨go, Nx, hNx, step⟩
    · have td := T.done (X.blk s3 H3 scope ce fp) rfl rfl rfl hc i [] s5 _ H5 (fun _ _ => False) I5 (stat I5 n5) st5 stop
      refine thnF td fun r s6 ⟨hr, I6⟩ => ?_
      subst hr
      have I7 : Inv X pins σ H5 s6 := I3.call' (ch := fp) I6.os I6.base I6.hok I6.bare fun b hb => ⟨(f3 b hb).1.2.2.2.1, (f3 b hb).1.2.1, (f3 b hb).1.2.2.2.2.1, (f3 b hb).1.2.2.2.2.2⟩
      have nC : H5 s3.heap.objs.size = none := by
        have z : H5 ce.locals = none := I6.free
        rw [cL] at z
        exact z
      obtain ⟨m, hn, _⟩ := I6.loc
      have hn : s6.heap.Ns ce.locals m := hn
      rw [cL] at hn
      exact hRR D s3.heap.objs.size s6 m H5 I7 qq hn (I3.fpOk (Nat.le_refl _) nC)
    · have ti := T.item (X.blk s3 H3 scope ce fp) rfl rfl rfl hc i [] s5 _ H5 (fun _ _ => False) I5 (stat I5 n5) st5 go
      refine thnF ti fun r s6 ⟨u, hr, h6⟩ => ?_
      subst hr
      refine thnF h6 fun _ s7 ⟨x, H7, I7, r7, y7, st7, n7⟩ => ?_
      have I7' := I7.pinned (stat I7 n7) (T.obj _ _ st7)
      refine thnF (pg.run _ s7 _ H7 x u _ I7' r7 (step x H7 y7)) fun _ s8 ⟨σ8, H8, I8, hw8, q8⟩ => ?_
      refine thnF (pt.run _ s8 σ8 H8 _ I8 q8) fun b s9 ⟨H9, I9, q9⟩ => ?_
      have fin : ∀ {σ9 : L2.St} {s' : Shared} {H' : Hp}, Inv (X.blk s3 H3 scope ce fp) ([] ++ pinsAt fp s7.heap) σ9 H' s' → (L2.wipe σ (own.map (·.2))).length = σ9.length → (∀ (j : Nat) v, (L2.wipe σ (own.map (·.2)))[j]? = some (some v) → σ9[j]? = some (some v)) → Nx H' →
          ∃ m, m < n ∧ ∃ i H', Inv (X.blk s3 H3 scope ce fp) [] (L2.wipe σ (own.map (·.2))) H' s' ∧ tn i s'.heap ∧ (∀ b ∈ fp, H' b = none) ∧ W i m H' := fun {σ9 s' H'} I' hl hk nx => by
        obtain ⟨m', hm, w'⟩ := hNx H' nx
        have pin' : ∀ b ∈ fp, ∀ o, s7.heap.get? b = some o → s'.heap.get? b = some o ∧ H' b = none := fun b hb o e =>
          let z := I'.pin (b, o) (List.mem_append_right _ (List.mem_append_right _ (mem_pinsAt hb e)))
          ⟨z.1, z.2.1⟩
        refine ⟨m', hm, i + 1, H', (I'.unpinned (pins := [])).weak hl hk, T.keep _ _ _ st7 fun b hb o e => (pin' b hb o e).1, fun b hb => ?_, w'⟩
        obtain ⟨o, e, _⟩ := T.obj _ _ st7 b hb
        exact (pin' b hb o e).2
      have hl8 : (L2.wipe σ (own.map (·.2))).length = σ8.length := by rw [← hw8, wipe_length]
      have hk8 : ∀ (j : Nat) v, (L2.wipe σ (own.map (·.2)))[j]? = some (some v) → σ8[j]? = some (some v) := fun j v e => by
        rw [← hw8] at e
        exact (wipe_some e).1
      have hk9 : ∀ (j : Nat) v, (L2.wipe σ (own.map (·.2)))[j]? = some (some v) → (L2.wipe σ8 vs1)[j]? = some (some v) := fun j v e => by
        rw [← hw8] at e
        obtain ⟨e1, e2⟩ := wipe_some e
        rw [wipe_out fun z => e2 (hv j z)]
        exact e1
      cases b with
      | false =>
        simp only [Bool.false_eq_true, if_false] at q9 ⊢
        exact fin I9 hl8 hk8 q9
      | true =>
        simp only [if_true] at q9 ⊢
        refine thnF (pB _ s9 σ8 H9 D Nx I9 q9) fun xv s10 hx => thnF hx fun itv s11 h11 => codeAny_mono h11 fun r s' hr => ?_
        cases r with
        | ok f =>
          obtain ⟨H', I', nx⟩ := hr
          exact fin I' (hl8.trans (wipe_length σ8 vs1).symm) hk9 nx
        | error e => exact hr.elim
  exact compStartN (k := 0) rfl loop (T.self X.A 0 _ _ _ st4 loop)
theorem pe_lcM {elt tg iter iter1 : Expr} {ifs : List Expr} {gs : List Comprehension} {scope : Scope} {own : List (Str × Nat)} {vs1 : List Nat} {pos : Pos} {wi : TI} {g : TG} {tt : TT} {B : TB} (hc : X.calm = true) (hN : X.N.Nodup) (hi : PI X tg iter wi) (ok : BlkOk X.N X.env.scope scope own) (hv : ∀ i ∈ vs1, i ∈ own.map (·.2))
    (hg : EachB' X scope fun Y _ => PG Y tg g) (ht : EachB' X scope fun Y _ => PTs Y ifs tt) (heq : MidEq elt (⟨tg, iter, ifs, 0⟩ :: gs) scope pos 0 tg iter ifs iter1)
    (hB : EachB' X scope fun Y ce => ClauseOk Y ce elt (⟨tg, iter, ifs, 0⟩ :: gs) scope pos 1 iter1 vs1 B) (hs : ∀ x, foldedSetIterable iter X.env x = pure x := by intro _; rfl) (hs1 : ∀ env x, foldedSetIterable iter1 env x = pure x := by intro _ _; rfl) :
    PE X (.ListComp elt (⟨tg, iter, ifs, 0⟩ :: gs) scope pos) (tLcM wi g tt B (own.map (·.2))) := by
  refine ⟨fun pins s σ H Q I h => ?_⟩
  rw [eval_ListComp]
  refine lcM_core hc hN I hi ok hv hg ht hs heq hs1 hB h fun D C s' m H' I' q hn f => ⟨m, hn, fun h'' sb => ?_⟩
  obtain ⟨f0, f1, f2, f3, f4, f5⟩ := f
  exact ⟨.ref D, H', I'.turned (t' := s'.toks) (fun b o hb e => (sb.2 b hb).trans e) f0 f1 f3 f4 f5, rfl, q⟩
end
end Wy

set_option Elab.async false
set_option linter.all false
set_option maxRecDepth 100000
set_option maxHeartbeats 4000000
/-! W31: comprehensions of several clauses by data. -/
namespace Wy
open PySem L2
abbrev BW := DE → List D → (List D → Prop) → Prop
def wbElt (we : EW) : BW := fun δ acc Q => we δ fun y => acc.length < sizeLine ∧ Q (acc ++ [y])
def bLoop (δ : DE) (is : List Nat) (u : D → Option (List D)) (wt : TW) (B : BW) : List D → List D → (List D → Prop) → Prop
  | [], acc, Q => Q acc
  | d :: r, acc, Q => ∃ ds, u d = some ds ∧ wt (putD δ is ds) fun b => if b = true then B (putD δ is ds) acc fun acc' => bLoop δ is u wt B r acc' Q else bLoop δ is u wt B r acc Q
def wbCl (wi : IW) (is : List Nat) (u : D → Option (List D)) (wt : TW) (vs : List Nat) (B : BW) : BW := fun δ acc Q => wi δ fun es => bLoop (wipeD δ vs) is u wt B es acc Q
def wLcMN (wi : IW) (is : List Nat) (u : D → Option (List D)) (wt : TW) (B : BW) (vs : List Nat) : NW := fun δ Q => wi δ fun ds => bLoop (wipeD δ vs) is u wt B ds [] Q
def ExtC (bx : Bx) (c : Addr) (H H' : Hp) : Prop := ∀ a o, a ≠ c → ¬ isB bx a → H a = some o → H' a = some o
section
variable {K : PySem.W.Frag} {bx : Bx} {T : Addr → Prop} {H H1 H2 : Hp} {c : Addr}
theorem ExtC.of (e : Ext bx H H1) : ExtC bx c H H1 := fun a o _ n h => e a o n h
theorem ExtC.trans (a : ExtC bx c H H1) (b : ExtC bx c H1 H2) : ExtC bx c H H2 := fun x o n m h => b x o n m (a x o n m h)
theorem ExtC.good (g : Good bx T H) (e : ExtC bx c H H1) (b : BoxOk bx H1) (hc : ∃ o, H1 c = some o) : Good bx T H1 := ⟨b, g.bxT, fun a z => by
  by_cases q : a = c
  · subst q; exact hc
  · by_cases n : isB bx a
    · obtain ⟨x, e⟩ := n
      obtain ⟨_, _, _, h, _⟩ := b a x e
      exact ⟨_, h⟩
    · obtain ⟨o, ho⟩ := g.kn a z
      exact ⟨o, e a o q n ho⟩⟩
theorem ExtC.kept (g : Good bx T H) (e : ExtC bx c H H1) (tc : T c) : Kept T T H H1 := fun a o n h => ⟨e a o (fun z => n (z ▸ tc)) (fun ⟨x, y⟩ => n (g.bxT a x y)) h, n⟩
end
def SndB (K : PySem.W.Frag) (B : TB) (w : BW) : Prop := ∀ bx T c σ H δ acc xs (Qd : List D → Prop) (N : Hp → Prop), Good bx T H → ¬ isB bx c → T c → (∀ b a, bx = some (b, a) → c ≠ b ∧ c ≠ a) → H c = some (.lst xs) → RPs K bx T H xs acc → RPe K bx T H σ δ →
  (∀ H' xs' acc', ExtC bx c H H' → BoxOk bx H' → H' c = some (.lst xs') → RPs K bx T H' xs' acc' → Qd acc' → N H') → w δ acc Qd → B c σ H N
theorem snd_bElt {K : PySem.W.Frag} {te : TE} {we : EW} (he : SndE K te we) : SndB K (bElt te) (wbElt we) := fun bx T c σ H δ acc xs Qd N gd nB tc nb hD ra en p q => by
  refine he bx T σ H δ _ _ gd en (fun y v H8 e8 b8 r8 h8 => ?_) q
  have r7 := ra.on gd e8
  have hD8 : H8 c = some (.lst xs) := e8 _ _ nB hD
  have g8 := gd.on e8 b8
  have ec : ExtC bx c H8 (upd H8 c (.lst (xs ++ [v]))) := fun a o n _ h => by rw [upd_ne n]; exact h
  have kk : ∀ a o, ¬ T a → H8 a = some o → upd H8 c (.lst (xs ++ [v])) a = some o ∧ ¬ T a := ec.kept g8 tc
  refine ⟨xs, hD8, by rw [r7.length]; exact h8.1, p _ _ _ ((ExtC.of e8).trans ec) (fun b a e => ?_) upd_same ((r7.move (fun _ z => z) kk).append (.cons (r8.move (fun _ z => z) kk) .nil)) h8.2⟩
  obtain ⟨n, ds', k, z1, z2, z3⟩ := b8 b a e
  exact ⟨n, ds', k, by rw [upd_ne (nb b a e).1.symm]; exact z1, by rw [upd_ne (nb b a e).2.symm]; exact z2, z3⟩
theorem snd_bCl {K : PySem.W.Frag} {wi : TI} {g : TG} {tt : TT} {B : TB} {vs is : List Nat} {u : D → Option (List D)} {ww : IW} {wt : TW} {wB : BW} (hi : SndI K wi ww) (hg : SndG K g is u) (ht : SndT K tt wt) (hB : SndB K B wB) (hsub : ∀ i ∈ is, i ∈ vs) :
    SndB K (bCl wi g tt vs B) (wbCl ww is u wt vs wB) := fun bx T c σ H δ acc xs Qd N gd nB tc nb hD ra en p q => by
  refine hi bx T σ H δ _ _ gd en (fun es J H1 e1 b1 dr h1 => ?_) q
  have g1 := gd.on e1 b1
  have en1 := (en.on gd e1).wipes vs
  have hD1 : H1 c = some (.lst xs) := e1 _ _ nB hD
  let St : Nat → Hp → Prop := fun j F => j ≤ es.length ∧ ExtC bx c H1 F ∧ BoxOk bx F ∧ ∃ xs acc, F c = some (.lst xs) ∧ RPs K bx T F xs acc ∧ bLoop (wipeD δ vs) is u wt wB (es.drop j) acc Qd
  refine ⟨fun j k F => k = es.length - j ∧ St j F, ⟨_, rfl, Nat.zero_le _, fun _ _ _ _ h => h, b1, xs, acc, hD1, ra.on gd e1, h1⟩, ?_⟩
  rintro j k F ⟨rfl, hj, eF, bF, ys, ac, hF, rF, hl⟩
  have gF : Good bx T F := ExtC.good g1 eF bF ⟨_, hF⟩
  obtain ⟨hs1, hn1⟩ := dr T F (ExtC.kept g1 eF tc) gF.kn j
  by_cases hlt : j < es.length
  case neg =>
    have hj3 : j = es.length := by omega
    subst hj3
    refine Or.inl ⟨hs1 (Nat.le_refl _), ?_⟩
    rw [List.drop_length] at hl
    exact p F ys ac ((ExtC.of e1).trans eF) bF hF rF hl
  obtain ⟨d1, hd1⟩ : ∃ d1, es[j]? = some d1 := ⟨es[j], List.getElem?_eq_getElem hlt⟩
  have hdr : es.drop j = d1 :: es.drop (j + 1) := by
    rw [List.drop_eq_getElem_cons hlt]
    rw [List.getElem?_eq_getElem hlt] at hd1
    cases hd1; rfl
  obtain ⟨hgo, hy⟩ := hn1 d1 hd1
  refine Or.inr ⟨hgo, fun F' => St (j + 1) F', fun F' z => ⟨_, by omega, rfl, z⟩, fun x1 H6 hyl => ?_⟩
  obtain ⟨kp6, rx⟩ := hy x1 H6 hyl
  have e6 : Ext bx F H6 := fun a o _ h => kp6 a o h
  have b6 : BoxOk bx H6 := fun b a e => by
    obtain ⟨n, ds', k, z1, z2, z3⟩ := bF b a e
    exact ⟨n, ds', k, kp6 _ _ z1, kp6 _ _ z2, z3⟩
  have g6 : Good bx T H6 := gF.on e6 b6
  rw [hdr] at hl
  obtain ⟨us, hu, hw⟩ := hl
  refine hg bx T x1 d1 us _ H6 _ rx hu fun ws rw_ => ⟨(wipe_put hsub).trans (wipe_idem _ vs fun _ z => z), ?_⟩
  have en6 : RPe K bx T H6 (putV (L2.wipe σ vs) is ws) (putD (wipeD δ vs) is us) := ((en1.move (ExtC.kept g1 eF tc)).on gF e6).put rw_
  refine ht bx T _ H6 _ _ _ g6 en6 (fun b H7 e7 b7 h7 => ?_) hw
  have g7 : Good bx T H7 := g6.on e7 b7
  have hD7 : H7 c = some (.lst ys) := e7 _ _ nB (kp6 _ _ hF)
  have r7 : RPs K bx T H7 ys ac := (rF.on gF e6).on g6 e7
  have e17 : ExtC bx c H1 H7 := (eF.trans (ExtC.of e6)).trans (ExtC.of e7)
  cases b with
  | false => exact ⟨by omega, e17, b7, ys, ac, hD7, r7, h7⟩
  | true => exact hB bx T c _ H7 _ ac ys _ _ g7 nB tc nb hD7 r7 (en6.on g6 e7) (fun H8 xs8 acc8 e8 b8 h8 r8 q8 => ⟨by omega, e17.trans e8, b8, xs8, acc8, h8, r8, q8⟩) h7
theorem snd_lcMN {K : PySem.W.Frag} {wi : TI} {g : TG} {tt : TT} {B : TB} {vs is : List Nat} {u : D → Option (List D)} {ww : IW} {wt : TW} {wB : BW} (hi : SndI K wi ww) (hg : SndG K g is u) (ht : SndT K tt wt) (hB : SndB K B wB) (hsub : ∀ i ∈ is, i ∈ vs) :
    SndN K (tLcM wi g tt B vs) (wLcMN ww is u wt wB vs) := fun bx T σ H δ Qd Q gd en p q => by
  refine hi bx T σ H δ _ _ gd en (fun ds J H1 e1 b1 dr h1 => ?_) q
  intro c nc
  have g1' := gd.on e1 b1
  have nB : ¬ isB bx c := fun ⟨a, z⟩ => by
    obtain ⟨_, _, _, h, _⟩ := b1 c a z
    rw [nc] at h; cases h
  have nb : ∀ b a, bx = some (b, a) → c ≠ b ∧ c ≠ a := fun b a e => by
    obtain ⟨_, _, _, y1, y2, _⟩ := b1 b a e
    exact ⟨(ne_of_none y1 nc).symm, (ne_of_none y2 nc).symm⟩
  have n0 : H c = none := by
    cases z : H c with
    | none => rfl
    | some o =>
      have := e1 c o nB z
      rw [nc] at this; cases this
  let T1 : Addr → Prop := fun a => T a ∨ a = c
  have kT : Kept T T1 H1 H1 := fun a o n h => ⟨h, fun z => z.elim n fun z => by rw [z, nc] at h; cases h⟩
  have en1 : RPe K bx T1 H1 (L2.wipe σ vs) (wipeD δ vs) := ((en.on gd e1).move kT).wipes vs
  have extO : ∀ {G : Hp}, ExtC bx c H1 G → Ext bx H1 G := fun {G} e a o n h => e a o (fun z => by rw [z, nc] at h; cases h) n h
  have goodT : ∀ {G : Hp} {xs : List V}, ExtC bx c H1 G → BoxOk bx G → G c = some (.lst xs) → Good bx T1 G := fun {G xs} eG bG hc => by
    have g2 := g1'.on (extO eG) bG
    exact ⟨bG, fun b a e => Or.inl (g2.bxT b a e), fun a z => by
      rcases z with z | z
      · exact g2.kn a z
      · exact ⟨_, by rw [z]; exact hc⟩⟩
  let St : Nat → Hp → Prop := fun i G => i ≤ ds.length ∧ ExtC bx c H1 G ∧ BoxOk bx G ∧ ∃ xs acc, G c = some (.lst xs) ∧ RPs K bx T1 G xs acc ∧ bLoop (wipeD δ vs) is u wt wB (ds.drop i) acc Qd
  refine ⟨fun i m G => m = ds.length - i ∧ St i G, ⟨_, rfl, Nat.zero_le _, ExtC.of (ext_new nc), box_new nc b1, [], [], upd_same, .nil, h1⟩, ?_⟩
  rintro i m G ⟨rfl, hi2, e2, b2, xs, acc, hD, ra, hl⟩
  have gT1 : Good bx T1 G := goodT e2 b2 hD
  have kG : Kept T T1 H1 G := fun a o n h => ⟨(g1'.ext (extO e2) a o n h).1, (kT a o n h).2⟩
  obtain ⟨hs, hn⟩ := dr T1 G kG gT1.kn i
  by_cases hlt : i < ds.length
  case neg =>
    have hi3 : i = ds.length := by omega
    subst hi3
    refine Or.inl ⟨hs (Nat.le_refl _), ?_⟩
    rw [List.drop_length] at hl
    exact p _ _ _ G (e1.trans (extO e2)) b2 n0 hD ra hl
  obtain ⟨d, hd⟩ : ∃ d, ds[i]? = some d := ⟨ds[i], List.getElem?_eq_getElem hlt⟩
  have hdr : ds.drop i = d :: ds.drop (i + 1) := by
    rw [List.drop_eq_getElem_cons hlt]
    rw [List.getElem?_eq_getElem hlt] at hd
    cases hd; rfl
  obtain ⟨hgo, hy⟩ := hn d hd
  refine Or.inr ⟨hgo, fun G' => St (i + 1) G', fun G' z => ⟨_, by omega, rfl, z⟩, fun x H3 hyl => ?_⟩
  obtain ⟨kp3, rx⟩ := hy x H3 hyl
  have e3 : Ext bx G H3 := fun a o _ h => kp3 a o h
  have b3 : BoxOk bx H3 := fun b a e => by
    obtain ⟨n, ds', k, z1, z2, z3⟩ := b2 b a e
    exact ⟨n, ds', k, kp3 _ _ z1, kp3 _ _ z2, z3⟩
  have g3 : Good bx T1 H3 := gT1.on e3 b3
  rw [hdr] at hl
  obtain ⟨us, hu, hw⟩ := hl
  refine hg bx T1 x d us _ H3 _ rx hu fun ws rw_ => ⟨(wipe_put hsub).trans (wipe_idem σ vs fun _ z => z), ?_⟩
  have en3 : RPe K bx T1 H3 (putV (L2.wipe σ vs) is ws) (putD (wipeD δ vs) is us) := (((en1.move fun a o n h => ⟨(g1'.ext (extO e2) a o (fun z => n (Or.inl z)) h).1, n⟩).on gT1 e3)).put rw_
  refine ht bx T1 _ H3 _ _ _ g3 en3 (fun b H4 e4 b4 h4 => ?_) hw
  have g4 : Good bx T1 H4 := g3.on e4 b4
  have hD4 : H4 c = some (.lst xs) := e4 _ _ nB (kp3 _ _ hD)
  have ra4 : RPs K bx T1 H4 xs acc := (ra.on gT1 e3).on g3 e4
  have e14 : ExtC bx c H1 H4 := (e2.trans (ExtC.of e3)).trans (ExtC.of e4)
  cases b with
  | false => exact ⟨by omega, e14, b4, xs, acc, hD4, ra4, h4⟩
  | true => exact hB bx T1 c _ H4 _ acc xs _ _ g4 nB (Or.inr rfl) nb hD4 ra4 (en3.on g3 e4) (fun H8 xs8 acc8 e8 b8 h8 r8 q8 => ⟨by omega, e14.trans e8, b8, xs8, acc8, h8, r8, q8⟩) h4
end Wy

set_option Elab.async false
set_option linter.all false
set_option maxRecDepth 100000
set_option maxHeartbeats 4000000
/-! W32: list comprehensions of three clauses. -/
namespace Wy
open PySem L2
section
variable {X : Cx} {elt tg it tg1 it1 tg2 it2 : Expr} {ifs ifs1 ifs2 : List Expr} {scope : Scope} {own : List (PySem.Str × Nat)} {pos pos' : Pos} {ti ti1 ti2 : TI} {wi wi1 wi2 : IW} {g g1 g2 : TG} {is is1 is2 vs1 vs2 : List Nat} {u u1 u2 : D → Option (List D)} {tt tt1 tt2 : TT} {wt wt1 wt2 : TW} {te : TE} {we : EW}
abbrev tLc3 (ti : TI) (g : TG) (tt : TT) (ti1 : TI) (g1 : TG) (tt1 : TT) (ti2 : TI) (g2 : TG) (tt2 : TT) (te : TE) (vs vs1 vs2 : List Nat) : TE := tLcM ti g tt (bCl ti1 g1 tt1 vs1 (bCl ti2 g2 tt2 vs2 (bElt te))) vs
abbrev wLc3N (wi : IW) (is : List Nat) (u : D → Option (List D)) (wt : TW) (wi1 : IW) (is1 : List Nat) (u1 : D → Option (List D)) (wt1 : TW) (wi2 : IW) (is2 : List Nat) (u2 : D → Option (List D)) (wt2 : TW) (we : EW) (vs vs1 vs2 : List Nat) : NW := wLcMN wi is u wt (wbCl wi1 is1 u1 wt1 vs1 (wbCl wi2 is2 u2 wt2 vs2 (wbElt we))) vs
abbrev wLc3 (wi : IW) (is : List Nat) (u : D → Option (List D)) (wt : TW) (wi1 : IW) (is1 : List Nat) (u1 : D → Option (List D)) (wt1 : TW) (wi2 : IW) (is2 : List Nat) (u2 : D → Option (List D)) (wt2 : TW) (we : EW) (vs vs1 vs2 : List Nat) : EW := wN (wLc3N wi is u wt wi1 is1 u1 wt1 wi2 is2 u2 wt2 we vs vs1 vs2)
theorem nlc3 (hc : X.calm = true) (hN : X.N.Nodup) (hi : PIW X tg it ti wi) (ok : BlkOk X.N X.env.scope scope own) (hg : EachB X scope fun Y => PGW Y tg g is u) (ht : EachB X scope fun Y => PTsW Y ifs tt wt) (hi1 : EachB X scope fun Y => PIW Y tg1 it1 ti1 wi1)
    (hg1 : EachB X scope fun Y => PGW Y tg1 g1 is1 u1) (ht1 : EachB X scope fun Y => PTsW Y ifs1 tt1 wt1) (hi2 : EachB X scope fun Y => PIW Y tg2 it2 ti2 wi2)
    (hg2 : EachB X scope fun Y => PGW Y tg2 g2 is2 u2) (ht2 : EachB X scope fun Y => PTsW Y ifs2 tt2 wt2) (he : EachB X scope fun Y => PEW Y elt te we) (hv : ∀ i ∈ vs1, i ∈ own.map (·.2) := by decide) (hv2 : ∀ i ∈ vs2, i ∈ vs1 := by decide) (hsub : ∀ i ∈ is, i ∈ own.map (·.2) := by decide)
    (hsub1 : ∀ i ∈ is1, i ∈ vs1 := by decide) (hsub2 : ∀ i ∈ is2, i ∈ vs2 := by decide) (hs : ∀ x, foldedSetIterable it X.env x = pure x := by intro _; rfl) (hs1 : ∀ env x, foldedSetIterable it1 env x = pure x := by intro _ _; rfl) (hs2 : ∀ env x, foldedSetIterable it2 env x = pure x := by intro _ _; rfl) :
    PNW X (.ListComp elt [⟨tg, it, ifs, 0⟩, ⟨tg1, it1, ifs1, 0⟩, ⟨tg2, it2, ifs2, 0⟩] scope pos) (tLc3 ti g tt ti1 g1 tt1 ti2 g2 tt2 te (own.map (·.2)) vs1 vs2) (wLc3N wi is u wt wi1 is1 u1 wt1 wi2 is2 u2 wt2 we (own.map (·.2)) vs1 vs2) :=
  ⟨pe_lcM hc hN hi.pi ok hv (fun s H C cl fp => (hg s H C cl fp).pg) (fun s H C cl fp => (ht s H C cl fp).pt) (mid3_0 _ _ _ _ _ _ _ _ _ _ _ _) (fun s H C cl fp =>
      clause_mid hc rfl (mid3_1 _ _ _ _ _ _ _ _ _ _ _ _) (hs2 _) (hi1 s H C cl fp).pi (hg1 s H C cl fp).pg (ht1 s H C cl fp).pt hv2 (clause_last hc rfl (last3 _ _ _ _ _ _ _ _ _ _ _ _) (hi2 s H C cl fp).pi (hg2 s H C cl fp).pg (ht2 s H C cl fp).pt (he s H C cl fp).pe)) hs hs1, by
    have z : Shared := {}
    exact snd_lcMN hi.sn (hg z (fun _ => none) 0 [] []).sn (ht z (fun _ => none) 0 [] []).sn (snd_bCl (hi1 z (fun _ => none) 0 [] []).sn (hg1 z (fun _ => none) 0 [] []).sn (ht1 z (fun _ => none) 0 [] []).sn
      (snd_bCl (hi2 z (fun _ => none) 0 [] []).sn (hg2 z (fun _ => none) 0 [] []).sn (ht2 z (fun _ => none) 0 [] []).sn (snd_bElt (he z (fun _ => none) 0 [] []).sn) hsub2) hsub1) hsub⟩
theorem elc3 (hc : X.calm = true) (hN : X.N.Nodup) (hi : PIW X tg it ti wi) (ok : BlkOk X.N X.env.scope scope own) (hg : EachB X scope fun Y => PGW Y tg g is u) (ht : EachB X scope fun Y => PTsW Y ifs tt wt) (hi1 : EachB X scope fun Y => PIW Y tg1 it1 ti1 wi1)
    (hg1 : EachB X scope fun Y => PGW Y tg1 g1 is1 u1) (ht1 : EachB X scope fun Y => PTsW Y ifs1 tt1 wt1) (hi2 : EachB X scope fun Y => PIW Y tg2 it2 ti2 wi2)
    (hg2 : EachB X scope fun Y => PGW Y tg2 g2 is2 u2) (ht2 : EachB X scope fun Y => PTsW Y ifs2 tt2 wt2) (he : EachB X scope fun Y => PEW Y elt te we) (hv : ∀ i ∈ vs1, i ∈ own.map (·.2) := by decide) (hv2 : ∀ i ∈ vs2, i ∈ vs1 := by decide) (hsub : ∀ i ∈ is, i ∈ own.map (·.2) := by decide)
    (hsub1 : ∀ i ∈ is1, i ∈ vs1 := by decide) (hsub2 : ∀ i ∈ is2, i ∈ vs2 := by decide) (hs : ∀ x, foldedSetIterable it X.env x = pure x := by intro _; rfl) (hs1 : ∀ env x, foldedSetIterable it1 env x = pure x := by intro _ _; rfl) (hs2 : ∀ env x, foldedSetIterable it2 env x = pure x := by intro _ _; rfl) :
    PEW X (.ListComp elt [⟨tg, it, ifs, 0⟩, ⟨tg1, it1, ifs1, 0⟩, ⟨tg2, it2, ifs2, 0⟩] scope pos) (tLc3 ti g tt ti1 g1 tt1 ti2 g2 tt2 te (own.map (·.2)) vs1 vs2) (wLc3 wi is u wt wi1 is1 u1 wt1 wi2 is2 u2 wt2 we (own.map (·.2)) vs1 vs2) :=
  let h := nlc3 (pos := pos) hc hN hi ok hg ht hi1 hg1 ht1 hi2 hg2 ht2 he hv hv2 hsub hsub1 hsub2 hs hs1 hs2
  ⟨h.pe, h.sn.e⟩
end
end Wy

set_option Elab.async false
set_option linter.all false
set_option maxRecDepth 100000
set_option maxHeartbeats 4000000
/-! W33: name = a list comprehension of three clauses, on one line. -/
namespace Wy
open PySem L2
section
variable {X : Cx}
theorem ps_setLcM {i : Nat} {y : PySem.Str} {py : Pos} {elt tg iter iter1 : Expr} {ifs : List Expr} {gs : List Comprehension} {scope : Scope} {own : List (PySem.Str × Nat)} {vs1 : List Nat} {pos spos : Pos} {wi : TI} {g : TG} {tt : TT} {B : TB} (hc : X.calm = true) (hN : X.N.Nodup) (hy : X.N[i]? = some y) (hyl : X.env.scope.names.lookup y = some .local)
    (hsw : swapsWith (.ListComp elt (⟨tg, iter, ifs, 0⟩ :: gs) scope pos) (some (.Name y py)) spos.line X.env = pure true) (hi : PI X tg iter wi) (ok : BlkOk X.N X.env.scope scope own) (hv : ∀ i ∈ vs1, i ∈ own.map (·.2))
    (hg : EachB' X scope fun Y _ => PG Y tg g) (ht : EachB' X scope fun Y _ => PTs Y ifs tt) (heq : MidEq elt (⟨tg, iter, ifs, 0⟩ :: gs) scope pos 0 tg iter ifs iter1)
    (hB : EachB' X scope fun Y ce => ClauseOk Y ce elt (⟨tg, iter, ifs, 0⟩ :: gs) scope pos 1 iter1 vs1 B) (hs : ∀ x, foldedSetIterable iter X.env x = pure x := by intro _; rfl) (hs1 : ∀ env x, foldedSetIterable iter1 env x = pure x := by intro _ _; rfl) :
    PS X (.Assign [.Name y py] (.ListComp elt (⟨tg, iter, ifs, 0⟩ :: gs) scope pos) spos) (tAsg (tLcM wi g tt B (own.map (·.2))) (gName i)) := by
  refine ⟨fun pins s σ H D I h => ?_⟩
  rw [exec_Assign_Name_used _ _ _ _ hsw]
  refine wpAny_bind (wpAny_standAt (wpAny_bind ?_))
  show wpAny _ X.A (do let _ ← comprehension (.ListComp elt (⟨tg, iter, ifs, 0⟩ :: gs) scope pos) scope X.env (firstIterPos (⟨tg, iter, ifs, 0⟩ :: gs) pos) (newList []) false (eval iter X.env) (some (assign (.Name y py) X.env))) _ _ s
  have h : tLcM wi g tt B (own.map (·.2)) σ H (fun x H1 => gName i x σ H1 D.nx) := h
  refine wpAny_bind (thn (lcM_core (Qf := fun _ s' => SP X pins D .next s') hc hN I hi ok hv hg ht hs heq hs1 hB h fun L C s' m H' I' q hn f => ?_) fun _ s' hq => wpAny_pure (wpAny_pure hq))
  show wpAny _ _ (assign (.Name y py) X.env (.ref L)) _ _ _
  refine wpAny_assign_Name (store_ok2 (v := V.ref L) I' hN hy (.inl hyl) rfl (fun s2 I2 ⟨a, sb, ha⟩ => ?_) (.inr hyl))
  obtain ⟨f0, f1, f2, f3, f4, f5⟩ := f
  have haC : C ≠ a := by
    rcases ha with z | z
    · rw [z]; exact f1
    · exact fun e => f4 y a z e.symm
  refine ⟨m, hn.sameBut sb haC, fun h3 sb3 => ?_⟩
  exact ⟨_, H', I2.turned (t' := s2.toks) (fun b o hb e => (sb3.2 b hb).trans e) f0 f1 f3 f4 f5, q⟩
end
section
variable {X : Cx} {elt tg it tg1 it1 tg2 it2 : Expr} {ifs ifs1 ifs2 : List Expr} {scope : Scope} {own : List (PySem.Str × Nat)} {pos pos' : Pos} {ti ti1 ti2 : TI} {wi wi1 wi2 : IW} {g g1 g2 : TG} {is is1 is2 vs1 vs2 : List Nat} {u u1 u2 : D → Option (List D)} {tt tt1 tt2 : TT} {wt wt1 wt2 : TW} {te : TE} {we : EW}
theorem ssetC3 (i : Nat) {y : PySem.Str} {py : Pos} (hc : X.calm = true) (hN : X.N.Nodup) (hi : PIW X tg it ti wi) (ok : BlkOk X.N X.env.scope scope own) (hg : EachB X scope fun Y => PGW Y tg g is u) (ht : EachB X scope fun Y => PTsW Y ifs tt wt) (hi1 : EachB X scope fun Y => PIW Y tg1 it1 ti1 wi1)
    (hg1 : EachB X scope fun Y => PGW Y tg1 g1 is1 u1) (ht1 : EachB X scope fun Y => PTsW Y ifs1 tt1 wt1) (hi2 : EachB X scope fun Y => PIW Y tg2 it2 ti2 wi2)
    (hg2 : EachB X scope fun Y => PGW Y tg2 g2 is2 u2) (ht2 : EachB X scope fun Y => PTsW Y ifs2 tt2 wt2) (he : EachB X scope fun Y => PEW Y elt te we) (hy : X.N[i]? = some y := by rfl) (hyl : X.env.scope.names.lookup y = some .local := by rfl)
    (hsw : swapsWith (.ListComp elt [⟨tg, it, ifs, 0⟩, ⟨tg1, it1, ifs1, 0⟩, ⟨tg2, it2, ifs2, 0⟩] scope pos) (some (.Name y py)) pos'.line X.env = pure true := by exact sw_true rfl rfl rfl (by decide +kernel)) (hv : ∀ i ∈ vs1, i ∈ own.map (·.2) := by decide) (hv2 : ∀ i ∈ vs2, i ∈ vs1 := by decide) (hsub : ∀ i ∈ is, i ∈ own.map (·.2) := by decide)
    (hsub1 : ∀ i ∈ is1, i ∈ vs1 := by decide) (hsub2 : ∀ i ∈ is2, i ∈ vs2 := by decide) (hs : ∀ x, foldedSetIterable it X.env x = pure x := by intro _; rfl) (hs1 : ∀ env x, foldedSetIterable it1 env x = pure x := by intro _ _; rfl) (hs2 : ∀ env x, foldedSetIterable it2 env x = pure x := by intro _ _; rfl) :
    PSW X (.Assign [.Name y py] (.ListComp elt [⟨tg, it, ifs, 0⟩, ⟨tg1, it1, ifs1, 0⟩, ⟨tg2, it2, ifs2, 0⟩] scope pos) pos') (tAsg (tLc3 ti g tt ti1 g1 tt1 ti2 g2 tt2 te (own.map (·.2)) vs1 vs2) (gName i)) (wAsg i (wLc3 wi is u wt wi1 is1 u1 wt1 wi2 is2 u2 wt2 we (own.map (·.2)) vs1 vs2)) :=
  ⟨ps_setLcM hc hN hy hyl hsw hi.pi ok hv (fun s H C cl fp => (hg s H C cl fp).pg) (fun s H C cl fp => (ht s H C cl fp).pt) (mid3_0 _ _ _ _ _ _ _ _ _ _ _ _) (fun s H C cl fp =>
      clause_mid hc rfl (mid3_1 _ _ _ _ _ _ _ _ _ _ _ _) (hs2 _) (hi1 s H C cl fp).pi (hg1 s H C cl fp).pg (ht1 s H C cl fp).pt hv2 (clause_last hc rfl (last3 _ _ _ _ _ _ _ _ _ _ _ _) (hi2 s H C cl fp).pi (hg2 s H C cl fp).pg (ht2 s H C cl fp).pt (he s H C cl fp).pe)) hs hs1,
    snd_asg (nlc3 (pos := pos) hc hN hi ok hg ht hi1 hg1 ht1 hi2 hg2 ht2 he hv hv2 hsub hsub1 hsub2 hs hs1 hs2).sn.e⟩
theorem sownC3 (i : Nat) {y : PySem.Str} {py : Pos} (hc : X.calm = true) (hN : X.N.Nodup) (hi : PIW X tg it ti wi) (ok : BlkOk X.N X.env.scope scope own) (hg : EachB X scope fun Y => PGW Y tg g is u) (ht : EachB X scope fun Y => PTsW Y ifs tt wt) (hi1 : EachB X scope fun Y => PIW Y tg1 it1 ti1 wi1)
    (hg1 : EachB X scope fun Y => PGW Y tg1 g1 is1 u1) (ht1 : EachB X scope fun Y => PTsW Y ifs1 tt1 wt1) (hi2 : EachB X scope fun Y => PIW Y tg2 it2 ti2 wi2)
    (hg2 : EachB X scope fun Y => PGW Y tg2 g2 is2 u2) (ht2 : EachB X scope fun Y => PTsW Y ifs2 tt2 wt2) (he : EachB X scope fun Y => PEW Y elt te we) (hy : X.N[i]? = some y := by rfl) (hyl : X.env.scope.names.lookup y = some .local := by rfl)
    (hsw : swapsWith (.ListComp elt [⟨tg, it, ifs, 0⟩, ⟨tg1, it1, ifs1, 0⟩, ⟨tg2, it2, ifs2, 0⟩] scope pos) (some (.Name y py)) pos'.line X.env = pure true := by exact sw_true rfl rfl rfl (by decide +kernel)) (hv : ∀ i ∈ vs1, i ∈ own.map (·.2) := by decide) (hv2 : ∀ i ∈ vs2, i ∈ vs1 := by decide) (hsub : ∀ i ∈ is, i ∈ own.map (·.2) := by decide)
    (hsub1 : ∀ i ∈ is1, i ∈ vs1 := by decide) (hsub2 : ∀ i ∈ is2, i ∈ vs2 := by decide) (hs : ∀ x, foldedSetIterable it X.env x = pure x := by intro _; rfl) (hs1 : ∀ env x, foldedSetIterable it1 env x = pure x := by intro _ _; rfl) (hs2 : ∀ env x, foldedSetIterable it2 env x = pure x := by intro _ _; rfl) :
    PSW X (.Assign [.Name y py] (.ListComp elt [⟨tg, it, ifs, 0⟩, ⟨tg1, it1, ifs1, 0⟩, ⟨tg2, it2, ifs2, 0⟩] scope pos) pos') (tAsg (tLc3 ti g tt ti1 g1 tt1 ti2 g2 tt2 te (own.map (·.2)) vs1 vs2) (gName i)) (wOwn i (wLc3N wi is u wt wi1 is1 u1 wt1 wi2 is2 u2 wt2 we (own.map (·.2)) vs1 vs2)) :=
  ⟨ps_setLcM hc hN hy hyl hsw hi.pi ok hv (fun s H C cl fp => (hg s H C cl fp).pg) (fun s H C cl fp => (ht s H C cl fp).pt) (mid3_0 _ _ _ _ _ _ _ _ _ _ _ _) (fun s H C cl fp =>
      clause_mid hc rfl (mid3_1 _ _ _ _ _ _ _ _ _ _ _ _) (hs2 _) (hi1 s H C cl fp).pi (hg1 s H C cl fp).pg (ht1 s H C cl fp).pt hv2 (clause_last hc rfl (last3 _ _ _ _ _ _ _ _ _ _ _ _) (hi2 s H C cl fp).pi (hg2 s H C cl fp).pg (ht2 s H C cl fp).pt (he s H C cl fp).pe)) hs hs1,
    snd_own (nlc3 (pos := pos) hc hN hi ok hg ht hi1 hg1 ht1 hi2 hg2 ht2 he hv hv2 hsub hsub1 hsub2 hs hs1 hs2).sn⟩
end
end Wy

set_option Elab.async false
set_option linter.all false
set_option maxRecDepth 100000
set_option maxHeartbeats 2000000
/-! W34: own lists: extend; expressions that change an own list (pop). -/
namespace Wy
open PySem L2
theorem RPs.eraseIdx {K : PySem.W.Frag} {bx : Bx} {T : Addr → Prop} {H : Hp} : ∀ {vs : List V} {ds : List D} (n : Nat), RPs K bx T H vs ds → RPs K bx T H (vs.eraseIdx n) (ds.eraseIdx n)
  | _, _, _, .nil => .nil
  | _, _, 0, .cons _ q => q
  | _, _, n + 1, .cons h q => .cons h (RPs.eraseIdx n q)
theorem RPs.dropLast {K : PySem.W.Frag} {bx : Bx} {T : Addr → Prop} {H : Hp} {vs : List V} {ds : List D} (h : RPs K bx T H vs ds) : RPs K bx T H vs.dropLast ds.dropLast := by
  rw [List.dropLast_eq_take, List.dropLast_eq_take, h.length]
  exact h.take _
/-! ### xs.extend(e) -/
def wExt (i : Nat) (e : EW) : SW := fun ρ P => match ρ[i]? with
  | some (some (.own l)) => e (vH ρ) fun d => match d with
    | .list ds => l.length + ds.length ≤ sizeLine ∧ P.nx (ρ.set i (some (.own (l ++ ds))))
    | _ => False
  | _ => False
theorem snd_ext {K : PySem.W.Frag} {te : TE} {we : EW} {i : Nat} (h : SndE K te we) : SndS K (tDrop (tBM K "list" rExtend (tVar i) (tCons te tNil))) (wExt i we) := fun bx M W σ H ρ P Dn g r p q => by
  unfold wExt at q
  split at q
  · rename_i l e
    obtain ⟨a, vs, h1, h2, h3, h4⟩ := r.own i l e
    refine ⟨_, h1, Or.inl ⟨rfl, _, SqL.of h2⟩, h bx (UM M W) σ H (vH ρ) _ _ g.good r.eH (fun d v H1 e1 b1 rv hq => ?_) q⟩
    have g1 := g.on e1 b1
    have r1 := r.on g e1
    have h2' : H1 a = some (.lst vs) := e1 a _ (g.nb h4) h2
    have h3' := h3.on g.good e1
    cases rv with
    | lst hb nb hs =>
      obtain ⟨g2, r2, s2⟩ := own_upd g1 r1 (ws := vs ++ _) (ds := l ++ _) e h1 h4 (h3'.append hs) (vs := vs)
      exact ⟨a, _, vs, _, rfl, rfl, h2', hb, by rw [h3.length, hs.length]; exact hq.1, p.nx W _ _ _ ((Stp.of e1).trans s2) g2 r2 hq.2⟩
    | _ => exact False.elim hq
  · exact q.elim
/-! ### expressions that change own lists -/
abbrev PW := SE → (SE → D → Prop) → Prop
def SndP (K : PySem.W.Frag) (t : TE) (w : PW) : Prop := ∀ bx M W σ H ρ (Qd : SE → D → Prop) (Q : VK), Gd bx M W H → RS K bx M W H σ ρ →
  (∀ W' v d H' ρ', Stp bx W H W' H' → Gd bx M W' H' → RS K bx M W' H' σ ρ' → RP K bx (UM M W') H' v d → Qd ρ' d → Q v H') → w ρ Qd → t σ H Q
structure PPW (X : Cx) (e : Expr) (t : TE) (w : PW) : Prop where
  pe : PE X e t
  sn : SndP X.K t w
def wPop (i : Nat) : PW := fun ρ Q => match ρ[i]? with
  | some (some (.own l)) => ∃ d, l[l.length - 1]? = some d ∧ Q (ρ.set i (some (.own l.dropLast))) d
  | _ => False
theorem snd_pop {K : PySem.W.Frag} {i : Nat} : SndP K (tBM0 K "list" rPop (tVar i)) (wPop i) := fun bx M W σ H ρ Qd Q g r p q => by
  unfold wPop at q
  split at q
  · rename_i l e
    obtain ⟨a, vs, h1, h2, h3, h4⟩ := r.own i l e
    obtain ⟨d, hd, hq⟩ := q
    obtain ⟨v, hv, rv⟩ := h3.get hd
    obtain ⟨g2, r2, s2⟩ := own_upd g r (ws := vs.dropLast) (ds := l.dropLast) e h1 h4 h3.dropLast (vs := vs)
    refine ⟨_, h1, Or.inl ⟨rfl, _, SqL.of h2⟩, a, vs, v, rfl, rfl, h2, by rw [h3.length]; exact hv, p W v d _ _ s2 g2 r2 (rv.move (fun _ z => z) fun x o n hx => ⟨?_, n⟩) hq⟩
    rw [upd_ne (fun z => n (Or.inr (by rw [z]; exact h4)))]; exact hx
  · exact q.elim
def wPopAt (i : Nat) (ek : EW) : PW := fun ρ Q => match ρ[i]? with
  | some (some (.own l)) => ek (vF ρ) fun k => match k with
    | .int z => -(2 ^ 63) ≤ z ∧ z < 2 ^ 63 ∧ ∃ j d, seqIndex? z l.length = some j ∧ l[j]? = some d ∧ Q (ρ.set i (some (.own (l.eraseIdx j)))) d
    | _ => False
  | _ => False
theorem snd_popAt {K : PySem.W.Frag} {i : Nat} {tk : TE} {wk : EW} (hk : SndE K tk wk) : SndP K (tBM K "list" rPopAt (tVar i) (tCons tk tNil)) (wPopAt i wk) := fun bx M W σ H ρ Qd Q g r p q => by
  unfold wPopAt at q
  split at q
  · rename_i l e
    obtain ⟨a, vs, h1, h2, h3, h4⟩ := r.own i l e
    refine ⟨_, h1, Or.inl ⟨rfl, _, SqL.of h2⟩, hk bx M σ H (vF ρ) _ _ g.goodM (r.eF g) (fun k vk H1 e1 b1 rk hq => ?_) q⟩
    cases rk with
    | int z =>
      obtain ⟨z1, z2, j, d, hj, hd, hq⟩ := hq
      have g1 := g.on e1 b1
      have r1 := r.on g e1
      have h2' : H1 a = some (.lst vs) := e1 a _ (g.nb h4) h2
      have h3' := h3.on g.good e1
      obtain ⟨v, hv, rv⟩ := h3'.get hd
      obtain ⟨g2, r2, s2⟩ := own_upd g1 r1 (ws := vs.eraseIdx j) (ds := l.eraseIdx j) e h1 h4 (h3'.eraseIdx j) (vs := vs)
      refine ⟨a, vs, z, j, v, rfl, rfl, h2', z1, z2, by rw [h3.length]; exact hj, hv, p W v d _ _ ((Stp.of e1).trans s2) g2 r2 (rv.move (fun _ z => z) fun x o n hx => ⟨?_, n⟩) hq⟩
      rw [upd_ne (fun z => n (Or.inr (by rw [z]; exact h4)))]; exact hx
    | _ => exact False.elim hq
  · exact q.elim
/-! ### statements with such an expression -/
def wAsgP (j : Nat) (w : PW) : SW := fun ρ P => w ρ fun ρ' d => P.nx (ρ'.set j (some (.dat d)))
theorem snd_asgP {K : PySem.W.Frag} {te : TE} {w : PW} {j : Nat} (h : SndP K te w) : SndS K (tAsg te (gName j)) (wAsgP j w) := fun bx M W σ H ρ P Dn g r p q =>
  h bx M W σ H ρ _ _ g r (fun W' v d H' ρ' s g' r' rv hq => p.nx W' _ H' _ s g' (r'.set j rv) hq) q
def wAppP (i : Nat) (w : PW) : SW := fun ρ P => (∃ l, ρ[i]? = some (some (.own l))) ∧ w ρ fun ρ' d => ∃ l, ρ'[i]? = some (some (.own l)) ∧ l.length < sizeLine ∧ P.nx (ρ'.set i (some (.own (l ++ [d]))))
theorem snd_appP {K : PySem.W.Frag} {te : TE} {w : PW} {i : Nat} (h : SndP K te w) : SndS K (tDrop (tBM K "list" rAppend (tVar i) (tCons te tNil))) (wAppP i w) := fun bx M W σ H ρ P Dn g r p q => by
  obtain ⟨⟨l0, e0⟩, q⟩ := q
  obtain ⟨a, vs0, h1, h2, h3, h4⟩ := r.own i l0 e0
  refine ⟨_, h1, Or.inl ⟨rfl, _, SqL.of h2⟩, h bx M W σ H ρ _ _ g r (fun W' v d H' ρ' s g' r' rv hq => ?_) q⟩
  obtain ⟨l, e, hz, hn⟩ := hq
  obtain ⟨a', vs, k1, k2, k3, k4⟩ := r'.own i l e
  rw [h1] at k1
  cases k1
  obtain ⟨g2, r2, s2⟩ := own_upd g' r' (ws := vs ++ [v]) (ds := l ++ [d]) e h1 k4 (k3.append (.cons rv .nil)) (vs := vs)
  exact ⟨a, vs, v, rfl, rfl, k2, by rw [k3.length]; exact hz, p.nx W' _ _ _ (s.trans s2) g2 r2 hn⟩
def wDropP (w : PW) : SW := fun ρ P => w ρ fun ρ' _ => P.nx ρ'
theorem snd_dropP {K : PySem.W.Frag} {te : TE} {w : PW} (h : SndP K te w) : SndS K (tDrop te) (wDropP w) := fun bx M W σ H ρ P Dn g r p q =>
  h bx M W σ H ρ _ _ g r (fun W' v d H' ρ' s g' r' rv hq => p.nx W' _ H' _ s g' r' hq) q
section
variable {X : Cx} {e k : Expr} {te tk : TE} {we wk : EW} {w : PW} {pos pos' p1 p2 : Pos}
theorem ppop (i : Nat) {x : Str} {apos : Pos} (hN : X.N[i]? = some x := by rfl) (hv : Vis X.env.scope x := by first | exact Or.inl rfl | exact Or.inr (Or.inl rfl) | exact Or.inr (Or.inr rfl)) (hd : (x == ("__debug__" : Str)) = false := by decide)
    (hcd : (x == ("__classdict__" : Str)) = false := by decide)
    (hbase : attributeBase (.Name x p1) "pop" X.env (eval (.Name x p1) X.env) = eval (.Name x p1) X.env := by rfl) (hline : (apos.endLine == p2.line) = true := by rfl) :
    PPW X (.Call (.Attribute (.Name x p1) "pop" apos) [] [] p2) (tBM0 X.K "list" rPop (tVar i)) (wPop i) :=
  ⟨pe_bm0 PySem.F.plainAttrs_list PySem.F.slot_list_pop PySem.F.type_list_pop mt_pop (pv i hN hv hd hcd) hbase hline, snd_pop⟩
theorem ppopAt (i : Nat) {x : Str} {apos : Pos} (hk : PEW X k tk wk) (hN : X.N[i]? = some x := by rfl) (hv : Vis X.env.scope x := by first | exact Or.inl rfl | exact Or.inr (Or.inl rfl) | exact Or.inr (Or.inr rfl)) (hd : (x == ("__debug__" : Str)) = false := by decide)
    (hcd : (x == ("__classdict__" : Str)) = false := by decide)
    (hbase : attributeBase (.Name x p1) "pop" X.env (eval (.Name x p1) X.env) = eval (.Name x p1) X.env := by rfl)
    (hfew : ((backTo p2 (starEach [k] X.env)).all (fun x => !x.1) && (backToKw p2 (keywordEach [] X.env)).all (fun x => x.1.isSome)
      && decide ([k].length + ([] : List Keyword).length + (if ([] : List Keyword).isEmpty then 0 else 1) < 30)) = true := by rfl)
    (hline : (apos.endLine == p2.line) = true := by rfl) (hst : starEach [k] X.env = (false, eval k X.env) :: starEach [] X.env := by rfl) (hplain : (backTo p2 (starEach [] X.env)).any (·.1) = false := by rfl) :
    PPW X (.Call (.Attribute (.Name x p1) "pop" apos) [k] [] p2) (tBM X.K "list" rPopAt (tVar i) (tCons tk tNil)) (wPopAt i wk) :=
  ⟨pe_bm PySem.F.plainAttrs_list PySem.F.slot_list_pop PySem.F.type_list_pop mt_popAt (pv i hN hv hd hcd) (pa_cons hk.pe pa_nil hst) hbase hfew hline hst hplain, snd_popAt hk.sn⟩
theorem sasgP (i : Nat) {x : Str} (hN : X.N.Nodup) (he : PPW X e te w) (hi : X.N[i]? = some x := by rfl) (hx : Loc X.env.scope x := by first | exact Or.inl rfl | exact Or.inr rfl) (hs : swapsWith e (some (.Name x pos')) pos.line X.env = pure false := by rfl)
    (hf : X.fn x = true ∨ X.env.scope.names.lookup x = some .local := by first | exact .inl rfl | exact .inr rfl) : PSW X (.Assign [.Name x pos'] e pos) (tAsg te (gName i)) (wAsgP i w) := ⟨ps_set hN hi hx he.pe hs hf, snd_asgP he.sn⟩
theorem sdropP (he : PPW X e te w) (hs : swapsWith e none pos.line X.env = pure false := by rfl) : PSW X (.Expr e pos) (tDrop te) (wDropP w) := ⟨ps_expr he.pe hs, snd_dropP he.sn⟩
theorem sappP (i : Nat) {x : Str} {apos : Pos} (he : PPW X e te w) (hN : X.N[i]? = some x := by rfl) (hv : Vis X.env.scope x := by first | exact Or.inl rfl | exact Or.inr (Or.inl rfl) | exact Or.inr (Or.inr rfl)) (hd : (x == ("__debug__" : Str)) = false := by decide)
    (hcd : (x == ("__classdict__" : Str)) = false := by decide)
    (hbase : attributeBase (.Name x p1) "append" X.env (eval (.Name x p1) X.env) = eval (.Name x p1) X.env := by rfl)
    (hfew : ((backTo p2 (starEach [e] X.env)).all (fun x => !x.1) && (backToKw p2 (keywordEach [] X.env)).all (fun x => x.1.isSome)
      && decide ([e].length + ([] : List Keyword).length + (if ([] : List Keyword).isEmpty then 0 else 1) < 30)) = true := by rfl)
    (hline : (apos.endLine == p2.line) = true := by rfl) (hst : starEach [e] X.env = (false, eval e X.env) :: starEach [] X.env := by rfl) (hplain : (backTo p2 (starEach [] X.env)).any (·.1) = false := by rfl)
    (hs : swapsWith (.Call (.Attribute (.Name x p1) "append" apos) [e] [] p2) none pos.line X.env = pure false := by rfl) :
    PSW X (.Expr (.Call (.Attribute (.Name x p1) "append" apos) [e] [] p2) pos) (tDrop (tBM X.K "list" rAppend (tVar i) (tCons te tNil))) (wAppP i w) :=
  ⟨ps_expr (pe_bm PySem.F.plainAttrs_list PySem.F.slot_list_append PySem.F.type_list_append mt_append (pv i hN hv hd hcd) (pa_cons he.pe pa_nil hst) hbase hfew hline hst hplain) hs, snd_appP he.sn⟩
theorem sext (i : Nat) {x : Str} {apos : Pos} (he : PEW X e te we) (hN : X.N[i]? = some x := by rfl) (hv : Vis X.env.scope x := by first | exact Or.inl rfl | exact Or.inr (Or.inl rfl) | exact Or.inr (Or.inr rfl)) (hd : (x == ("__debug__" : Str)) = false := by decide)
    (hcd : (x == ("__classdict__" : Str)) = false := by decide)
    (hbase : attributeBase (.Name x p1) "extend" X.env (eval (.Name x p1) X.env) = eval (.Name x p1) X.env := by rfl)
    (hfew : ((backTo p2 (starEach [e] X.env)).all (fun x => !x.1) && (backToKw p2 (keywordEach [] X.env)).all (fun x => x.1.isSome)
      && decide ([e].length + ([] : List Keyword).length + (if ([] : List Keyword).isEmpty then 0 else 1) < 30)) = true := by rfl)
    (hline : (apos.endLine == p2.line) = true := by rfl) (hst : starEach [e] X.env = (false, eval e X.env) :: starEach [] X.env := by rfl) (hplain : (backTo p2 (starEach [] X.env)).any (·.1) = false := by rfl)
    (hs : swapsWith (.Call (.Attribute (.Name x p1) "extend" apos) [e] [] p2) none pos.line X.env = pure false := by rfl) :
    PSW X (.Expr (.Call (.Attribute (.Name x p1) "extend" apos) [e] [] p2) pos) (tDrop (tBM X.K "list" rExtend (tVar i) (tCons te tNil))) (wExt i we) :=
  ⟨ps_expr (pe_bm PySem.F.plainAttrs_list PySem.F.slot_list_extend PySem.F.type_list_extend mt_extend (pv i hN hv hd hcd) (pa_cons he.pe pa_nil hst) hbase hfew hline hst hplain) hs, snd_ext he.sn⟩
end
end Wy

set_option Elab.async false
set_option linter.all false
set_option maxRecDepth 100000
set_option maxHeartbeats 2000000
/-! W35: a, b, .. = x, y, .. by a tuple (four names or more, captured names), own lists among them. -/
namespace Wy
open PySem L2
def putSl : SE → List Nat → List Sl → SE
  | ρ, i :: is, s :: ls => putSl (ρ.set i (some s)) is ls
  | ρ, _, _ => ρ
section
variable {K : PySem.W.Frag} {bx : Bx} {M W : Addr → Prop} {H : Hp}
theorem RS.putN {i : Nat} {v : Option V} {a : Sl} {as : L2.St} {bs : SE} {σ : L2.St} {ρ : SE} (hl : bs.length = as.length) (r : RS K bx M W H (as ++ v :: σ) (bs ++ some a :: ρ)) : RS K bx M W H (as ++ σ.set i v) (bs ++ ρ.set i (some a)) := by
  have ln : ρ.length ≤ σ.length := by
    have := r.len
    simp only [List.length_append, List.length_cons, hl] at this
    omega
  refine r.at (fun j k => (j = i + as.length ∧ k = as.length) ∨ (j < as.length ∧ k = j) ∨ (as.length ≤ j ∧ j ≠ i + as.length ∧ k = j + 1)) (by simp only [List.length_append, List.length_set, hl]; omega) (fun x y k a b => by omega) fun j x e => ?_
  by_cases q : j < as.length
  · refine ⟨j, .inr (.inl ⟨q, rfl⟩), ?_, ?_⟩
    · rw [List.getElem?_append_left (by omega)] at e ⊢; exact e
    · rw [List.getElem?_append_left q, List.getElem?_append_left q]
  · rw [List.getElem?_append_right (by omega)] at e
    by_cases z : j = i + as.length
    · subst z
      have e : (ρ.set i (some a))[i]? = some (some x) := by rw [show i + as.length - bs.length = i by omega] at e; exact e
      have hi : i < ρ.length := by
        have := (List.getElem?_eq_some_iff.mp e).1
        rwa [List.length_set] at this
      rw [List.getElem?_set_self hi] at e
      refine ⟨as.length, .inl ⟨rfl, rfl⟩, ?_, ?_⟩
      · rw [List.getElem?_append_right (by omega), hl, Nat.sub_self]; exact e
      · rw [List.getElem?_append_right (by omega), Nat.add_sub_cancel, List.getElem?_set_self (by omega), List.getElem?_append_right (by omega), Nat.sub_self]; rfl
    · refine ⟨j + 1, .inr (.inr ⟨by omega, z, rfl⟩), ?_, ?_⟩
      · rw [List.getElem?_set_ne (by omega)] at e
        rw [List.getElem?_append_right (by omega), show j + 1 - bs.length = (j - bs.length) + 1 by omega]
        exact e
      · rw [List.getElem?_append_right (by omega), List.getElem?_set_ne (by omega), List.getElem?_append_right (by omega), show j + 1 - as.length = (j - as.length) + 1 by omega]
        rfl
theorem RS.putSl {is : List Nat} : ∀ {vs : List V} {ls : List Sl} {σ : L2.St} {ρ : SE}, vs.length = ls.length → RS K bx M W H ((vs.map some).reverse ++ σ) ((ls.map some).reverse ++ ρ) → ρ.length ≤ σ.length → ls.length = is.length → RS K bx M W H (putV σ is vs) (Wy.putSl ρ is ls) := by
  induction is with
  | nil => intro vs ls σ ρ n r hs m
           cases ls with
           | nil => cases vs with
             | nil => exact r
             | cons => cases n
           | cons => cases m
  | cons i is ih => intro vs ls σ ρ n r hs m
                    cases ls with
                    | nil => cases m
                    | cons l ls => cases vs with
                      | nil => cases n
                      | cons v vs =>
                        have n' : vs.length = ls.length := by simpa using n
                        refine ih (σ := σ.set i (some v)) (ρ := ρ.set i (some l)) n' (RS.putN (by simp [n']) ?_) (by rw [List.length_set, List.length_set]; exact hs) (by simpa using m)
                        simpa only [List.map_cons, List.reverse_cons, List.append_assoc, List.cons_append, List.nil_append] using r
end
def wParT (is : List Nat) (a : XW) : SW := fun ρ P => a (vH ρ) fun ls => ls.length = is.length ∧ ls.length ≤ sizeLine ∧ P.nx (putSl ρ is ls)
section
variable {X : Cx} {es vs : List Expr} {n : Nat} {ta : TA} {wa : XW} {t : TGs} {is : List Nat} {pos pt p2 : Pos} {kt k2 : Nat}
theorem sparT (hc : X.calm = true) (ha : PXW X vs ta wa) (h : PGsW X es t is) (hn : (assignEach es X.env).length = n := by rfl) (hl : is.length = n := by rfl) (hst : (assignEach es X.env).findIdx? (·.1) = none := by rfl)
    (hs : swapsWithSole [.Tuple es kt pt] (.Tuple vs k2 p2) pos.line X.env = pure false := by rfl) (hw : swappedStores [.Tuple es kt pt] (.Tuple vs k2 p2) X.env = pure none := by rfl)
    (h1 : (assignEach [.Tuple es kt pt] X.env).map (·.2) = [assign (.Tuple es kt pt) X.env] := by rfl) :
    PSW X (.Assign [.Tuple es kt pt] (.Tuple vs k2 p2) pos) (tAsg (tTup ta) (gTup X.K n t)) (wParT is wa) := ⟨ps_asg (pe_tup ha.pa) (pg_tup hc h.pg hn hst) hs hw h1, fun bx M W σ H ρ P Dn g r p q =>
  ha.sn bx M W σ H ρ [] [] _ _ g rfl r.len r (fun W' vs ls H' s g' m r' hq => by
    refine ⟨by rw [m]; exact hq.2.1, fun a na => ?_⟩
    have e := ext_new (bx := bx) (o := HO.tup vs) na
    have b := box_new (o := HO.tup vs) na g'.box
    refine ⟨a, vs, rfl, SqT.of upd_same, by rw [m, hq.1, hl], h.is.run (by rw [m, hq.1]) ?_⟩
    have r2 : RS X.K bx M W' H' ((vs.map some).reverse ++ σ) ((ls.map some).reverse ++ ρ) := by simpa only [List.append_nil] using r'
    exact p.nx W' _ _ _ (s.trans (Stp.of e)) (g'.on e b) ((RS.putSl m r2 r.len hq.1).on g' e) hq.2.2) q⟩
end
end Wy

set_option Elab.async false
set_option linter.all false
set_option maxRecDepth 100000
set_option maxHeartbeats 4000000
/-! E1: own errors below ValueError whose __init__ says super().__init__(..). -/
namespace Wy
open PySem PySem.W PyProof.Rows L2 NdefX
/-- ValueError.__init__ bound to an error, called -/
theorem mw_call {prog : Program} {w : World} {A : Around} {E : Value → Shared → Prop} {h : Heap} {g : Array GenState} {d : Drawn} {t : Nat} {os : OsState} {nm q : Str} {C N u x t0 : Addr} {bs bm : List Value} {sn : List Str} {sub : List Value} {ab : Bool} {col : Option Bool}
    {dd : Option Addr} {k0 k1 k2 k3 k5 : Option Value} {us : List Value} {Q : Value → Shared → Prop} (hC : h.get? C = some (excClassObj nm q C N bs bm true sn sub ab col dd k0 k1 k2 k3 k5 "ValueError.__new__"))
    (hx : h.get? x = some (PySem.HandSPX.excO C t0)) (hu : h.get? u = some (kxs_mw "ValueError.__init__" x)) (hz : us.length ≤ sizeLine)
    (hq : ∀ h' t1, (∀ b o, b ≠ x → h.get? b = some o → h'.get? b = some o) → h'.get? x = some (PySem.HandSPX.excO C t1) → Q .none ⟨h', g, d, t, os⟩) :
    wpAny (model prog w) A (call (.ref u) us) Q E ⟨h, g, d, t, os⟩ := by
  refine wpAny_call (codeAny_of_tree (show wpAny _ A.in1 (callAny (.ref u) ⟨us, []⟩) _ _ _ from ?_))
  simp only [callAny]
  refine wpAny_bind (wpAny_load hu ?_)
  dsimp only [kxs_mw]
  refine KFB.if_so (by decide) (wpAny_bind (check_bound_init F.excBase_ValueError.toExcCallFacts hC hx rfl (wpAny_bind (wpAny_pure (wpAny_pure ?_)))))
  refine ⟨plainId_quiet F.excBase_ValueError.init.plain _, codeAny_builtin F.excBase_ValueError.initEntry ?_⟩
  exact exc_init_tree (cls := .ref C) (t0 := t0) (dv := none) (c2 := .none) (c3 := .none) (b4 := .bool false) hx hz fun h' k e _ => hq h' _ k e
/-- what stands in the written part of a class of errors with an __init__ of its own -/
structure ErrT (P : Program) (K : PySem.W.Frag) (mg : Str → Option Value) (C fI ca cc : Addr) : Prop where
  oex : OexC K C
  nsup : mg "super" = none
  cell : ∃ cl cld csl, K.lookup cc = some ⟨cl, cld, .cell (some (.ref C)), csl⟩
  code : ∃ ccl cdd vs ccs file tf, K.lookup ca = some ⟨ccl, cdd, .fields vs, ccs⟩ ∧ vs[2]? = some (.str file tf) ∧ ((P.main.file : Str) == file) = true
  top : (P.main.scope.names.lookup ("super" : Str)).isSome = false
  opq : nsIn K cStatics "thirdparty.any" = some none
  sup : ks_superIn K C C "__init__" = some (some (.builtin "ValueError.__init__"))
  hB : PySem.W.subIn K (.ref C) (.type "ValueError") = some true
  own : mroIn K C (.ref C) = some true
theorem err_init {CX : CXT} {P : Program} {w : World} {K : PySem.W.Frag} {mg : Str → Option Value} {base : Heap} {k : Nat} {C fI ca cc : Addr} {name qual : Str} {params : Arguments} {rest : List Stmt} {e : Expr} {scope : Scope} {p0 p1 p2 p3 p4 : Pos}
    {dV kV doc pm ct oc : Value} {an od : Option Addr} {osl : Array (Option Value)} {N ps : List Str} {s0 : Str} {ar : Arg} {sp : Sp} (T : ErrT P K mg C fI ca cc)
    (lk : K.lookup fI = some ⟨oc, od, .func (fnX name qual params (.Expr (.Call (.Attribute (.Call (.Name "super" p0) [] [] p1) "__init__" p2) [e] [] p3) p4 :: rest) scope [("__class__", cc)] dV kV doc pm an (.ref ca) ct), osl⟩)
    (hcd : codeIn K (.ref ca) qual = true) (S : NScope N (s0 :: ps) ["__class__"] scope) (har : (params.posonlyargs ++ params.args).head? = some ar) (hs0 : ar.arg = s0) (hks : scope.names.lookup ("super" : Str) = some .globalImplicit)
    (len : ∀ vs H Q E, sp vs H Q E → vs.length = (s0 :: ps).length)
    (hbody : ∀ (A : Around) (outer : List Env) (s : Shared) (H : Hp) (vs : List V) (Q : VK) (E : XK), Room k (A.deeper (envX qual scope s.heap.objs.size fI (.ref ca) [("__class__", cc)])) → sp vs H Q E → ∃ (x : Addr) (ws : List V) (te : TE) (t : TS), vs = .ref x :: ws ∧ H x = some (exo x C none) ∧
      PE (ncx CX P w K mg base N ⟨name, qual, params, [], scope, [("__class__", cc)], ca⟩ fI A outer s H E) e te ∧ PSs (ncx CX P w K mg base N ⟨name, qual, params, [], scope, [("__class__", cc)], ca⟩ fI A outer s H E) rest t ∧
      te (startF N vs [none]) H fun _ H1 => 1 = 1 ∧ H1 x = some (exo x C none) ∧ t { nx := fun _ H' => Q .non H', rt := Q } (startF N vs [none]) H1)
    (hev : ∀ env : Env, ∃ pl, eval (.Call (.Attribute (.Call (.Name "super" p0) [] [] p1) "__init__" p2) [e] [] p3) env = (do
      let ov ← attributeBase (.Call (.Name "super" p0) [] [] p1) "__init__" env (eval (.Call (.Name "super" p0) [] [] p1) env)
      standAt p2.atName
      let (f, first) ← holding [ov] (getMethod ov "__init__" pl)
      callWith p3 f first (backTo p3 (starEach [e] env)) []))
    (he : ∀ env : Env, starEach [e] env = [(false, eval e env)]) (hsw : ∀ env : Env, swapsWith (.Call (.Attribute (.Call (.Name "super" p0) [] [] p1) "__init__" p2) [e] [] p3) none p4.line env = pure false) :
    FnOk P w K mg base CX (k + 1) fI (fnX name qual params (.Expr (.Call (.Attribute (.Call (.Name "super" p0) [] [] p1) "__init__" p2) [e] [] p3) p4 :: rest) scope [("__class__", cc)] dV kV doc pm an (.ref ca) ct) (s0 :: ps) sp := by
  refine ⟨len, fun A outer s H args us vs Q E hr e0 hb r hsp => ?_⟩
  have hl := len _ _ _ _ hsp
  have KX : K.In s.heap := e0.mod.kin.keeps fun b o e => (e0.bs b o e).1
  have lim : s.heap.NoLimit := e0.mod.nolimit.keeps fun b o e => (e0.bs b o e).1
  obtain ⟨cl, cld, csl, hcell⟩ := T.cell
  obtain ⟨ccl, cdd, fvs, ccs, file, tf, hcode, hvs, hfile⟩ := T.code
  obtain ⟨nm, q, NC, bs, bm, sn, sub, ab, col, dd, k0, k1, k2, k3, k5, hC, hbm⟩ := T.oex.cls
  have nK : ∀ {a : Addr} {o : Obj}, K.lookup a = some o → H a = none := fun {a o} z => (e0.bs a o (e0.mod.kin _ _ z)).2
  refine codeAny_call_function hr.depth (KX _ _ lk) rfl S.co S.gen rfl (codeRec_of KX hcd) (hb _ _ _ _ ?_)
  refine wpAny_newFunctionEnv S.nocell (fun ⟨n, _⟩ hy => S.par n (List.of_mem_zip hy).1) (fun h₁ hns hsb => ⟨lim.fresh _ hsb, ?_⟩) S.kind
  refine ks_codeAny_funcAt ?_
  show _root_.PySem.wpAt (model P w) (A.deeper (envX qual scope s.heap.objs.size fI (.ref ca) [("__class__", cc)])) (.func _ (envX qual scope s.heap.objs.size fI (.ref ca) [("__class__", cc)])) (execs _ (envX qual scope s.heap.objs.size fI (.ref ca) [("__class__", cc)])) _ _ _
  have kp : ∀ b o, s.heap.get? b = some o → h₁.get? b = some o := fun b o e => hsb.extBut b o (Nat.ne_of_lt (Heap.lt_size e)) (Heap.get?_push_of_some _ e)
  obtain ⟨x, vs', te, t, rfl, hx, hte, ht, hq⟩ := hbody A outer s H vs Q E (hr.deeper _) hsp
  have CA : CellsAt [("__class__", cc)] ["__class__"] [none] s.heap H := ⟨rfl, fun y c z => by
      have ez : c = cc := by
        unfold List.lookup at z
        split at z
        · exact (Option.some.inj z).symm
        · cases z
      subst ez
      exact ⟨nK hcell, _, _, KX _ _ hcell, rfl⟩, fun y y' c h1 h2 => by
      have f : ∀ {y : Str} {c : Addr}, List.lookup y [(("__class__" : Str), cc)] = some c → y = "__class__" := fun {y c} z => by
        unfold List.lookup at z
        split at z
        · rename_i qq
          exact beq_iff_eq.mp qq
        · cases z
      rw [f h1, f h2], fun i y hy => by
      cases i with
      | zero =>
        cases hy
        exact ⟨cc, by simp [List.lookup], fun v z => by cases z⟩
      | succ i => cases hy⟩
  have I : Inv (ncx CX P w K mg base N ⟨name, qual, params, [], scope, [("__class__", cc)], ca⟩ fI A outer s H E) [] (startF N (.ref x :: vs') [none]) H { s with heap := h₁, toks := s.toks + ((s0 :: ps).zip us).length } :=
    inv_startN (F := ⟨name, qual, params, [], scope, [("__class__", cc)], ca⟩) S hr.hd e0 hl r CA hns kp
  obtain ⟨u0, us', rfl, ru, rus⟩ : ∃ u0 us', us = u0 :: us' ∧ u0 = Value.ref x ∧ Vals vs' us' := by
    cases r with
    | cons a b => exact ⟨_, _, rfl, a, b⟩
  subst ru
  have ndP : (s0 :: ps).Nodup := by
    have q := S.nd.sublist (List.take_sublist ((s0 :: ps).length + [("__class__" : Str)].length) N)
    have z := S.pre
    exact (List.nodup_append.mp (z ▸ q)).1
  have X1 : K.In h₁ := KX.keeps kp
  obtain ⟨t1, hxo⟩ := exo_at I.hok hx
  have hcl : clsIn K C = some { name := nm, bases := bs, mro := .ref C :: bm, ns := NC, qualname := q, hasDict := true, slotNames := sn, subclasses := sub, abstract := ab, collection := col, hasDel := false } := by unfold clsIn; rw [hC] <;> rfl
  have xC : x ≠ C := fun z => by
    have := nK hC
    rw [← z, hx] at this
    cases this
  -- the statement super().__init__(e)
  have hsup : alongIn K "__init__" ((({ name := nm, bases := bs, mro := .ref C :: bm, ns := NC, qualname := q, hasDict := true, slotNames := sn, subclasses := sub, abstract := ab, collection := col, hasDel := false } : ClassData).mro.dropWhile (· != .ref C)).drop 1) = some (some (.builtin "ValueError.__init__")) := by
    have z := T.sup
    unfold ks_superIn at z
    rw [hcl] at z
    exact z
  have hkC : scope.names.lookup ("__class__" : Str) = some .free := S.frk _ (by simp)
  have hkS : scope.names.lookup s0 = some .local := S.par _ (by simp)
  obtain ⟨pl, hpl⟩ := hev (envX qual scope s.heap.objs.size fI (.ref ca) [("__class__", cc)])
  refine ks_wpAt_execs_cons (ks_wpAt_Expr_any (ks_wpAt_MethodCall (pl := pl) ?_ hpl) (by show (_ && _) = false; simp [S.kind]) (hsw _))
  refine ks_wpAt_super_base (f := fI) (cc := ca) hks hkC rfl rfl (X1 _ _ lk) rfl har rfl (X1 _ _ hcode) rfl hvs hfile T.top ?_
  obtain ⟨mb, hb1, hb2⟩ := e0.mod.blt
  have bk : ∀ b o, base.get? b = some o → h₁.get? b = some o := fun b o z => kp b o (e0.bs b o z).1
  refine ks_loadName_global S.kind hks (Calls.loadGlobal_builtin (e0.mod.glob.keeps bk) T.nsup (hb1.keeps bk) ((hb2 _ (by decide)).trans (by decide +kernel)) ⟨rfl, ?_⟩)
  refine wpAny_loadName_free S.kind hkC (c := cc) (by first | rfl | simp [List.lookup]) ⟨_, X1 _ _ hcell, rfl⟩ ?_
  refine wpAny_loadName_local (v := .ref x) S.kind (by rw [hs0]; exact hkS) hns (by rw [hs0]; exact zip_look (i := 0) ndP rfl rfl) ?_
  refine ks_wpAny_isType_cls (X1 _ _ hC) rfl ⟨rfl, ?_⟩
  refine ks_wpAny_call_super (X1 _ _ hC) rfl hxo rfl (fun c z => by cases z) (looks_mroIn X1 T.own) (fun h2 e2 k2 => ?_)
  have X2 : K.In h2 := X1.keeps k2
  have J : InstAt h2 x _ C none := ⟨k2 _ _ hxo, rfl, rfl, trivial⟩
  refine kxs_getMethod kxs_ValueError e2 (looks_opaque X2 T.opq) (l₀ := .ref C :: bm) (fun A' Q' E' s' kk qq => wpAny_bind ((looks_clsIn X2 hcl) A' _ E' s' kk (wpAny_pure qq))) rfl X2 hsup (J.type.andThen (looks_subIn X2 T.hB)) xC rfl ?_
  have I2 := I.kept (t' := s.toks + ((s0 :: ps).zip (Value.ref x :: us')).length + 1) (h' := h2.push (kxs_mw "ValueError.__init__" x)) fun b o z => Heap.get?_push_of_some _ (k2 b o z)
  have hu2 : (h2.push (kxs_mw "ValueError.__init__" x)).get? h2.objs.size = some (kxs_mw "ValueError.__init__" x) := Heap.get?_push_at rfl rfl
  have sz2 : h₁.objs.size ≤ h2.objs.size := Nat.le_of_lt (Heap.lt_size e2)
  have I3 : Inv _ [(h2.objs.size, kxs_mw "ValueError.__init__" x)] _ H _ := I2.pins_of fun p hp => by
    obtain rfl : p = (h2.objs.size, kxs_mw "ValueError.__init__" x) := by simpa using hp
    have fr := I.fpOk (H' := H) sz2 (I.hok.fresh sz2)
    exact ⟨hu2, fr.1, fr.2.1, fr.2.2.1, fun v z => by cases z⟩
  have hz1 : ∀ {Q' E'} {s' : Shared}, wpAny (model P w) (A.deeper (envX qual scope s.heap.objs.size fI (.ref ca) [("__class__", cc)])) (spliced (backTo p3 (starEach [e] (envX qual scope s.heap.objs.size fI (.ref ca) [("__class__", cc)])))) (fun vs s₁ => KxsAt "ValueError.__init__" h2.objs.size x s₁.heap ∧ wpAny (model P w) (A.deeper (envX qual scope s.heap.objs.size fI (.ref ca) [("__class__", cc)])) (call (.ref h2.objs.size) vs) Q' E' s₁) E' s' →
      wpAny (model P w) (A.deeper (envX qual scope s.heap.objs.size fI (.ref ca) [("__class__", cc)])) (callWith p3 (.ref h2.objs.size) [] (backTo p3 (starEach [e] (envX qual scope s.heap.objs.size fI (.ref ca) [("__class__", cc)]))) []) Q' E' s' := fun {Q' E' s'} z => by
    rw [he] at z ⊢
    exact kxs_callWith (i := "ValueError.__init__") (x := x) rfl (Calls.evalArgs_plain z)
  refine hz1 (thn ((pa_cons hte pa_nil (he _)).run p3 _ _ _ H (fun vz H1 => vz.length = 1 ∧ H1 x = some (exo x C none) ∧ t { nx := fun _ H' => Q .non H', rt := Q } (startF N (.ref x :: vs') [none]) H1) I3 hq) fun us1 s3 ⟨vs1, H3, I4, r4, q3, q4, q5⟩ => ?_)
  have hu3 := (I4.pin (h2.objs.size, kxs_mw "ValueError.__init__" x) (by simp)).1
  refine ⟨hu3, ?_⟩
  obtain ⟨t3, hx3⟩ := exo_at I4.hok q4
  obtain ⟨hp3, g3, d3, tk3, os3⟩ := s3
  have hl1 : us1.length ≤ sizeLine := by
    rw [← Paired.length r4, q3, sizeLine_eq]
    omega
  refine mw_call (I4.kIn _ _ hC) hx3 hu3 hl1 fun h4 t4 k4 hx4 => ?_
  have J4 := I4.write (t' := tk3) (x := x) (e := x) (o := exo x C none) (by rw [q4]; exact True.intro) (.inl rfl) k4 ⟨_, hx4⟩ (exo_ok hx4)
  have eu : upd H3 x (exo x C none) = H3 := by
    funext b
    by_cases hb : b = x
    · rw [hb, upd_same, q4]
    · rw [upd_ne hb]
  rw [eu] at J4
  have J5 : Inv _ [] _ H3 _ := J4.pins_of (pins' := []) fun p hp => absurd hp (by simp)
  refine wpAt_of_wpAny (wpAny_mono (ht.run [] _ _ H3 _ J5 q5) (fun fl s' hs => ?_) fun e s' hs => hs)
  have fin : ∀ {σ' : L2.St} {H' : Hp} {v : V} {u : Value}, Inv (ncx CX P w K mg base N ⟨name, qual, params, [], scope, [("__class__", cc)], ca⟩ fI A outer s H E) [] σ' H' s' → L2.RelV v u → Q v H' → CE outer P w H s Q u s' :=
    fun {σ' H' v u} J rv q => ⟨v, H', J.os, J.bare, J.base, J.hok, rv, q⟩
  cases fl with
  | ret u =>
    obtain ⟨v, σ', H', J, rv, q⟩ := hs
    exact fin J rv q
  | next =>
    obtain ⟨σ', H', J, q⟩ := hs
    exact fin (v := V.non) (u := Value.none) J rfl q
  | brk =>
    obtain ⟨_, _, _, q⟩ := hs
    exact False.elim q
  | cont =>
    obtain ⟨_, _, _, q⟩ := hs
    exact False.elim q
end Wy

set_option Elab.async false
set_option linter.all false
set_option maxRecDepth 100000
set_option maxHeartbeats 4000000
/-! E2: a Hook that tells of such classes, of tables of the module's head; the classes' facts. -/
namespace Wy
open PySem PySem.Spec PyProof.Rows L2 NdefX
/-! ### a Hook with a word of one's own, and the inits as they stand -/
def frM (g : Addr → Option Obj) (n : Nat) : PySem.W.Frag := He.frG g (He.asD g n ++ [cStatics])
/-- a method with one captured cell -/
structure MetD where
  cls : Str
  met : Str
  qual : Str
  st : Stmt
abbrev MetV : Type := Option (Str × Str × Arguments × FuncBody × Scope × Addr × List Str × Value × Addr × Bool)
def isRefV : Value → Bool
  | .ref _ => true
  | _ => false
def metObs (K : PySem.W.Frag) (d : MetD) : MetV := match K.lookup (He.ma K (He.ga K d.cls) d.met) with
  | some ⟨_, _, .func fd, _⟩ => some (fd.name, fd.qualname, fd.params, fd.body, fd.scope, fd.globals, fd.closure.map (·.1), fd.defaults, fd.builtins, isRefV fd.code)
  | _ => none
def MetD.val (d : MetD) : MetV := some (d.met, d.qual, defArgs d.st, .stmts (defBody d.st), defScope d.st, mainGlobals, ["__class__"], .none, builtinsNs, true)
abbrev AlM : Type := (Bool × List He.FnW) × Bool × List MetV
def obsM (fa : List He.Fa) (fn : List He.DefD) (ms : List MetD) (ex : PySem.W.Frag → Bool) (K : PySem.W.Frag) : AlM := (He.obsD fa fn K, ex K, ms.map fun d => metObs K d)
def valM (fn : List He.DefD) (ms : List MetD) : AlM := (He.valD fn, true, ms.map MetD.val)
structure SaysM (fa : List He.Fa) (fn : List He.DefD) (ms : List MetD) (ex : PySem.W.Frag → Bool) (K : PySem.W.Frag) : Prop where
  d : He.SaysD fa fn K
  ex : ex K = true
  ms : ms.map (fun d => metObs K d) = ms.map MetD.val
theorem saysM_of {fa : List He.Fa} {fn : List He.DefD} {ms : List MetD} {ex : PySem.W.Frag → Bool} {K : PySem.W.Frag} (h : obsM fa fn ms ex K = valM fn ms) : SaysM fa fn ms ex K := by
  have h1 := congrArg (fun z : AlM => z.1) h
  have h2 := congrArg (fun z : AlM => z.2.1) h
  have h3 := congrArg (fun z : AlM => z.2.2) h
  exact ⟨h1, h2, h3⟩
def obsMG (n : Nat) (fa : List He.Fa) (fn : List He.DefD) (ms : List MetD) (ex : PySem.W.Frag → Bool) (g : Addr → Option Obj) : AlM := obsM fa fn ms ex (frM g n)
def hookM (n : Nat) (fa : List He.Fa) (fn : List He.DefD) (ms : List MetD) (ex : PySem.W.Frag → Bool) : PySem.W.Hook where
  α := AlM
  obs := fun s => obsMG n fa fn ms ex s.heap.get?
  val := fun _ => valM fn ms
  says := fun _ h => ∃ K : PySem.W.Frag, K.In h ∧ SaysM fa fn ms ex K
  of := fun _ _ e => ⟨_, He.frG_in, saysM_of e⟩
  keeps := fun _ _ _ ⟨K, hK, c⟩ k => ⟨K, PySem.W.Frag.In.keeps hK k, c⟩
theorem obsMG_eq {n : Nat} {fa : List He.Fa} {fn : List He.DefD} {ms : List MetD} {ex : PySem.W.Frag → Bool} {g : Addr → Option Obj} {s : Shared} (h : ∀ a, g a = s.heap.get? a) : obsMG n fa fn ms ex g = (hookM n fa fn ms ex).obs s := by
  have e : g = s.heap.get? := funext h
  rw [e] <;> rfl
/-! ### a class of errors -/
def clsVB (K : PySem.W.Frag) (C : Addr) : Bool := match K.lookup C with
  | some ⟨.type c, _, .cls cd, sl⟩ => (match cd.mro, sl.toList with
    | .ref C' :: bm, [_, _, _, _, some (.builtin n), _] => decide (c = "type") && (decide (C' = C) && (decide (n = "ValueError.__new__") && (!cd.hasDel && (cd.hasDict && PySem.HandSPX.refsVE bm))))
    | _, _ => false)
  | _ => false
theorem clsVB_ok {K : PySem.W.Frag} {C : Addr} (h : clsVB K C = true) : ∃ nm q N bs bm sn sub ab col dd k0 k1 k2 k3 k5, K.lookup C = some (excClassObj nm q C N bs bm true sn sub ab col dd k0 k1 k2 k3 k5 "ValueError.__new__") ∧ PySem.HandSPX.refsVE bm = true := by
  unfold clsVB at h
  split at h
  · rename_i c dd cd sl ho
    split at h
    · rename_i C' bm k0 k1 k2 k3 n k5 hm hs
      simp only [Bool.and_eq_true, decide_eq_true_eq, Bool.not_eq_true'] at h
      obtain ⟨rfl, rfl, rfl, hdel, hdct, ht⟩ := h
      obtain ⟨nm, bs, mro, ns, qn, hd, sn, sub, ab, col, del⟩ := cd
      dsimp only at hm hdel hdct
      subst hm hdel hdct
      have hsl : sl = #[k0, k1, k2, k3, some (.builtin "ValueError.__new__"), k5] := by
        obtain ⟨l⟩ := sl
        exact congrArg Array.mk hs
      subst hsl
      exact ⟨nm, qn, ns, bs, bm, sn, sub, ab, col, dd, k0, k1, k2, k3, k5, ho, ht⟩
    · cases h
  · cases h
def inFd (K : PySem.W.Frag) (C : Addr) : Option FuncData := match K.lookup (He.ma K C "__init__") with
  | some ⟨_, _, .func fd, _⟩ => some fd
  | _ => none
def inCa (K : PySem.W.Frag) (C : Addr) : Addr := match inFd K C with
  | some fd => (match fd.code with
    | .ref c => c
    | _ => 0)
  | _ => 0
def inCc (K : PySem.W.Frag) (C : Addr) : Addr := match inFd K C with
  | some fd => (match fd.closure with
    | [(_, c)] => c
    | _ => 0)
  | _ => 0
def optB (a b : Option Bool) : Bool := decide (a = b)
/-- what K is to say of the class at C, of its __init__; f: its field -/
def errB (K : PySem.W.Frag) (C : Addr) (qual f file : Str) : Bool :=
  clsVB K C && (He.eqO (PySem.W.findIn K (.ref C) "__setattr__") (some (some (.builtin "object.__setattr__"))) && (optB (PySem.W.subIn K (.ref C) (.type "BaseException")) (some true) && (decide (PySem.W.typeIn K (.ref C) = some (.type "type")) &&
  (PySem.W.keepIn K (.ref C) && (He.eqO (PySem.W.nsIn K mainGlobals "super") (some none) && ((match K.lookup (inCc K C) with | some ⟨_, _, .cell (some (.ref D)), _⟩ => decide (D = C) | _ => false) &&
  ((match K.lookup (inCa K C) with | some ⟨_, _, .fields vs, _⟩ => (match (vs[2]? : Option Value) with | some (.str fl _) => decide (fl = file) | _ => false) | _ => false) && (He.eqO (PySem.W.nsIn K cStatics "thirdparty.any") (some none) &&
  (He.eqO (PySem.W.ks_superIn K C C "__init__") (some (some (.builtin "ValueError.__init__"))) && (optB (PySem.W.subIn K (.ref C) (.type "ValueError")) (some true) && (optB (PySem.W.mroIn K C (.ref C)) (some true) &&
  (He.eqO (PySem.W.findIn K (.ref C) f) (some none) && (xfB K C && (He.eqO (PySem.W.findIn K (.ref C) "__init__") (some (some (.ref (He.ma K C "__init__")))) && (decide (PySem.W.typeIn K (.ref (He.ma K C "__init__")) = some (.type "function")) &&
  (PySem.W.codeIn K (.ref (inCa K C)) qual && (He.eqO (PySem.W.findIn K (.ref C) "__class__") (some (some (.builtin "object.__class__"))) && (He.eqO (PySem.W.specialIn K (.builtin "object.__class__") "__get__") (some (some (.builtin "getset_descriptor.__get__"))) &&
  (optB (PySem.W.takesIn K (.builtin "object.__class__")) (some true) && optB (PySem.W.mroIn K C (.type "object")) (some true))))))))))))))))))))
structure ErrC (P : Program) (K : PySem.W.Frag) (mg : Str → Option Value) (C : Addr) (qual f : Str) : Prop where
  t : ErrT P K mg C (He.ma K C "__init__") (inCa K C) (inCc K C)
  noF : PySem.W.findIn K (.ref C) f = some none
  xf : XfC K C
  iC : PySem.W.findIn K (.ref C) "__init__" = some (some (.ref (He.ma K C "__init__")))
  tI : PySem.W.typeIn K (.ref (He.ma K C "__init__")) = some (.type "function")
  cd : PySem.W.codeIn K (.ref (inCa K C)) qual = true
  ha : PySem.W.findIn K (.ref C) "__class__" = some (some (.builtin "object.__class__"))
  hn : PySem.W.specialIn K (.builtin "object.__class__") "__get__" = some (some (.builtin "getset_descriptor.__get__"))
  ht : PySem.W.takesIn K (.builtin "object.__class__") = some true
  hm : PySem.W.mroIn K C (.type "object") = some true
theorem errB_ok {P : Program} {K : PySem.W.Frag} {h : Heap} {mg : Str → Option Value} {C : Addr} {qual f file : Str} (X : K.In h) (G : h.Ns mainGlobals mg) (hf : (P.main.file : Str) = file) (htop : (P.main.scope.names.lookup ("super" : Str)).isSome = false) (e : errB K C qual f file = true) : ErrC P K mg C qual f := by
  unfold errB at e
  simp only [Bool.and_eq_true] at e
  obtain ⟨c1, c2, c3, c4, c5, c6, c7, c8, c9, c10, c11, c12, c13, c14, c15, c16, c17, c18, c19, c20, c21⟩ := e
  refine ⟨⟨⟨clsVB_ok c1, He.eqO_ok c2, of_decide_eq_true c3, of_decide_eq_true c4, c5⟩, PySem.W.mg_none_of X G (He.eqO_ok c6), ?_, ?_, htop, He.eqO_ok c9, He.eqO_ok c10, of_decide_eq_true c11, of_decide_eq_true c12⟩, He.eqO_ok c13, xfB_ok c14, He.eqO_ok c15, of_decide_eq_true c16, c17, He.eqO_ok c18, He.eqO_ok c19, of_decide_eq_true c20, of_decide_eq_true c21⟩
  · split at c7
    · rename_i cl cld D csl ho
      have := of_decide_eq_true c7
      subst this
      exact ⟨_, _, _, ho⟩
    · cases c7
  · split at c8
    · rename_i cl cld vs csl ho
      split at c8
      · rename_i fl tf hv
        have := of_decide_eq_true c8
        subst this
        exact ⟨_, _, _, _, _, _, ho, hv, by rw [hf]; exact beq_self_eq_true _⟩
      · cases c8
    · cases c8
/-- its __init__, as it stands -/
theorem met_ok {K : PySem.W.Frag} {d : MetD} (e : metObs K d = d.val) (hm : d.met = "__init__") (hc : PySem.W.codeIn K (.ref (inCa K (He.ga K d.cls))) d.qual = true) :
    ∃ oc od kV doc pm an ct osl, K.lookup (He.ma K (He.ga K d.cls) "__init__") = some ⟨oc, od, .func (PySem.W.fnX "__init__" d.qual (defArgs d.st) (defBody d.st) (defScope d.st) [("__class__", inCc K (He.ga K d.cls))] .none kV doc pm an (.ref (inCa K (He.ga K d.cls))) ct), osl⟩ := by
  obtain ⟨cls, met, qual, st⟩ := d
  dsimp only at hm hc ⊢
  subst hm
  unfold metObs MetD.val at e
  dsimp only at e
  cases q : K.lookup (He.ma K (He.ga K cls) "__init__") with
  | none => rw [q] at e; cases e
  | some o =>
    obtain ⟨oc, od, dt, osl⟩ := o
    rw [q] at e
    cases dt with
    | func fd =>
      have hca : inCa K (He.ga K cls) = (match fd.code with | .ref c => c | _ => 0) := by unfold inCa inFd; rw [q]
      have hcc : inCc K (He.ga K cls) = (match fd.closure with | [(_, c)] => c | _ => 0) := by unfold inCc inFd; rw [q]
      obtain ⟨n1, n2, n3, n4, n5, n6, n7, n8, n9, n10, n11, n12, n13, n14, n15⟩ := fd
      simp only [Option.some.injEq, Prod.mk.injEq] at e
      obtain ⟨h1, h2, h3, h4, h5, h6, h7, h8, h9, h10⟩ := e
      dsimp only at hca hcc
      subst h1 h2 h3 h4 h5 h6 h8 h9
      have hcl : n7 = [(("__class__" : Str), inCc K (He.ga K cls))] := by
        cases n7 with
        | nil => exact absurd (congrArg List.length h7) (by simp)
        | cons a r =>
          cases r with
          | cons b r => exact absurd (congrArg List.length h7) (by simp)
          | nil =>
            obtain ⟨a1, a2⟩ := a
            have h8 : a1 = "__class__" := (List.cons.inj h7).1
            rw [hcc, h8]
      have hcd : n13 = .ref (inCa K (He.ga K cls)) := by
        cases n13 with
        | ref c => rw [hca]
        | _ => cases h10
      clear hca hcc
      rw [hcl, hcd]
      exact ⟨oc, od, n9, n10, n11, n12, n14, osl, rfl⟩
    | _ => cases e
end Wy

set_option Elab.async false
set_option linter.all false
set_option maxRecDepth 100000
set_option maxHeartbeats 4000000
/-! E3: an error with one int told in its text and kept in a field; made, raised, asked. -/
namespace Wy
open PySem PySem.Spec PyProof.Rows L2 NdefX
/-- its __init__ as text -/
def errBody (f lead : Str) (j : Nat) (p0 p1 p2 p3 p4 q0 q1 q2 q3 r1 r2 r3 r4 : Pos) : List Stmt :=
  [.Expr (.Call (.Attribute (.Call (.Name "super" p0) [] [] p1) "__init__" p2) [.JoinedStr [.Constant (.str lead) j q0, .FormattedValue (.Name f q1) (-1) none q2] q3] [] p3) p4, .Assign [.Attribute (.Name "self" r1) f r2] (.Name f r3) r4]
def spErr (K : PySem.W.Frag) (C : Addr) (f lead : Str) : Sp := fun vs H Q _ => ∃ (a : Addr) (i : Int), vs = [.ref a, .int i] ∧ i.natAbs.log2 < 1920 ∧ (Str.empty ++ lead ++ (toString i : Str)).length ≤ sizeLine ∧ H a = some (exo a C none) ∧
  ∀ dx, H dx = none → dx ≠ a → Q .non (upd (upd H dx (exd dx [(f, .int i)])) a (exo a C (some dx)))
theorem err_ok {P : Program} {w : World} {K : PySem.W.Frag} {mg : Str → Option Value} {base : Heap} {C : Addr} {qual f lead : Str} {st : Stmt} {j : Nat} {p0 p1 p2 p3 p4 q0 q1 q2 q3 r1 r2 r3 r4 : Pos} {ar : Arg} {kV doc pm ct oc : Value} {an od : Option Addr}
    {osl : Array (Option Value)} (T : ErrC P K mg C qual f)
    (lk : K.lookup (He.ma K C "__init__") = some ⟨oc, od, .func (PySem.W.fnX "__init__" qual (defArgs st) (defBody st) (defScope st) [("__class__", inCc K C)] .none kV doc pm an (.ref (inCa K C)) ct), osl⟩)
    (hb : defBody st = errBody f lead j p0 p1 p2 p3 p4 q0 q1 q2 q3 r1 r2 r3 r4) (S : NScope ["self", f, "__class__"] ["self", f] ["__class__"] (defScope st)) (har : ((defArgs st).posonlyargs ++ (defArgs st).args).head? = some ar) (hs0 : ar.arg = "self")
    (hks : (defScope st).names.lookup ("super" : Str) = some .globalImplicit) (hl0 : (Str.empty ++ lead).length ≤ sizeLine)     (hev : ∀ env : Env, ∃ pl, eval (.Call (.Attribute (.Call (.Name "super" p0) [] [] p1) "__init__" p2) [.JoinedStr [.Constant (.str lead) j q0, .FormattedValue (.Name f q1) (-1) none q2] q3] [] p3) env = (do
      let ov ← attributeBase (.Call (.Name "super" p0) [] [] p1) "__init__" env (eval (.Call (.Name "super" p0) [] [] p1) env)
      standAt p2.atName
      let (g0, first) ← holding [ov] (getMethod ov "__init__" pl)
      callWith p3 g0 first (backTo p3 (starEach [.JoinedStr [.Constant (.str lead) j q0, .FormattedValue (.Name f q1) (-1) none q2] q3] env)) []))
    (hd : (f == ("__debug__" : Str)) = false) (hcd : (f == ("__classdict__" : Str)) = false) :
    FnOk P w K mg base CX0 1 (He.ma K C "__init__") (PySem.W.fnX "__init__" qual (defArgs st) (defBody st) (defScope st) [("__class__", inCc K C)] .none kV doc pm an (.ref (inCa K C)) ct) ["self", f] (spErr K C f lead) := by
  rw [hb] at lk ⊢
  unfold errBody at lk ⊢
  refine err_init (k := 0) (s0 := "self") (ps := [f]) (N := ["self", f, "__class__"]) T.t lk T.cd S har hs0 hks (fun vs H Q E h => ?_) (fun A outer s H vs Q E hr h => ?_) hev (fun env => rfl) (fun env => rfl)
  · obtain ⟨a, i, rfl, _⟩ := h
    rfl
  · obtain ⟨a, i, rfl, hi, hl, ha, hq⟩ := h
    refine ⟨a, [.int i], _, _, rfl, ha, pe_joined (PJ.cons pe_str (PJ.cons (pe_fmt (pv 1 rfl (.inl (S.par f (by simp))) hd hcd)) PJ.nil)), pss_one (ps_ost (pv 0 rfl (.inl (S.par "self" (by simp)))) (pv 1 rfl (.inl (S.par f (by simp))) hd hcd)), ?_⟩
    refine ⟨lead, rfl, hl0, _, rfl, Or.inr ⟨i, rfl, hi, _, rfl, ?_, rfl, ha, _, rfl, _, rfl, a, C, rfl, T.t.oex, T.noF, Or.inl ⟨ha, fun dx n ne => hq dx n ne⟩⟩⟩
    exact hl
end Wy

set_option Elab.async false
set_option linter.all false
set_option maxRecDepth 100000
set_option maxHeartbeats 4000000
/-! E4: what raises, by data: expressions and statements with a wish for what is raised. -/
namespace Wy
open PySem PySem.Spec PyProof.Rows L2 NdefX
/-- an error by data: its class's name, its fields -/
abbrev ExD := Str × List (Str × D)
def ExV (K : PySem.W.Frag) (mg : Str → Option Value) (bx : Bx) (M : Addr → Prop) (H : Hp) (cls : Value) (d : Option Addr) (x : ExD) : Prop :=
  ∃ (C dd : Addr) (fs : List (Str × V)), cls = .ref C ∧ mg x.1 = some (.ref C) ∧ d = some dd ∧ H dd = some (.xd fs) ∧ fs.map (·.1) = x.2.map (·.1) ∧ RPs K bx M H (fs.map (·.2)) (x.2.map (·.2))
abbrev XEW := DE → (D → Prop) → (ExD → Prop) → Prop
abbrev XAW := DE → (List D → Prop) → (ExD → Prop) → Prop
def PostX (K : PySem.W.Frag) (mg : Str → Option Value) (bx : Bx) (T : Addr → Prop) (H : Hp) (R : ExD → Prop) (We : XK) : Prop := ∀ x cls d H', Ext bx H H' → BoxOk bx H' → ExV K mg bx T H' cls d x → R x → We cls d H'
theorem PostX.on {K : PySem.W.Frag} {mg : Str → Option Value} {bx : Bx} {T : Addr → Prop} {H H1 : Hp} {R : ExD → Prop} {We : XK} (p : PostX K mg bx T H R We) (e : Ext bx H H1) : PostX K mg bx T H1 R We := fun x cls d H' e' b v r => p x cls d H' (e.trans e') b v r
def SndEX (K : PySem.W.Frag) (mg : Str → Option Value) (Wo : WX) (t : TE) (w : XEW) : Prop := ∀ bx T σ H δ (Qd : D → Prop) (Q : VK) (R : ExD → Prop), Good bx T H → RPe K bx T H σ δ → Post K bx T H Qd Q → PostX K mg bx T H R (fun cls d H' => Wo cls d σ H') → w δ Qd R → t σ H Q
def SndAX (K : PySem.W.Frag) (mg : Str → Option Value) (Wo : WX) (t : TA) (w : XAW) : Prop := ∀ bx T σ H δ (Qd : List D → Prop) (Q : List V → Hp → Prop) (R : ExD → Prop), Good bx T H → RPe K bx T H σ δ → (∀ ds vs H', Ext bx H H' → BoxOk bx H' → RPs K bx T H' vs ds → Qd ds → Q vs H') →
  PostX K mg bx T H R (fun cls d H' => Wo cls d σ H') → w δ Qd R → t σ H Q
structure PEX (X : Cx) (Wo : WX) (e : Expr) (t : TE) (w : XEW) : Prop where
  pe : PE X e t
  sn : SndEX X.K X.mg Wo t w
structure PAX (X : Cx) (Wo : WX) (es : List Expr) (t : TA) (w : XAW) : Prop where
  pa : PA X es t
  sn : SndAX X.K X.mg Wo t w
def wL (w : EW) : XEW := fun δ Q _ => w δ Q
def wxNil : XAW := fun _ Q _ => Q []
def wxCons (a : XEW) (r : XAW) : XAW := fun δ Q R => a δ (fun x => r δ (fun xs => Q (x :: xs)) R) R
def wxTup (r : XAW) : XEW := fun δ Q R => r δ (fun xs => xs.length ≤ sizeLine ∧ Q (.tuple xs)) R
abbrev OLX := List D → (D → Prop) → (ExD → Prop) → Prop
def wxFn (n : Nat) (f : OLX) (r : XAW) : XEW := fun δ Q R => r δ (fun ds => ds.length = n ∧ f ds Q R) R
/-- a def that may raise, by its data -/
def spWX (K : PySem.W.Frag) (mg : Str → Option Value) (n : Nat) (f : OLX) : Sp := fun vs H Q E => ∃ bx T ds Qd R, ds.length = n ∧ Good bx T H ∧ RPs K bx T H vs ds ∧ Post K bx T H Qd Q ∧ PostX K mg bx T H R E ∧ f ds Qd R
theorem spWX_len {K : PySem.W.Frag} {mg : Str → Option Value} {n : Nat} {f : OLX} {vs : List V} {H : Hp} {Q : VK} {E : XK} (h : spWX K mg n f vs H Q E) : vs.length = n := by
  obtain ⟨bx, T, ds, Qd, R, e, _, r, _⟩ := h
  rw [r.length, e]
section
variable {X : Cx} {Wo : WX} {e : Expr} {es : List Expr} {te : TE} {we : EW} {xe : XEW} {ta : TA} {xa : XAW} {pos p2 : Pos}
theorem xl (h : PEW X e te we) : PEX X Wo e te (wL we) := ⟨h.pe, fun bx T σ H δ Qd Q R g r p _ q => h.sn bx T σ H δ Qd Q g r p q⟩
theorem xan : PAX X Wo [] tNil wxNil := ⟨pa_nil, fun bx T σ H δ Qd Q R g r p _ q => p [] [] H (Ext.refl _ _) g.box .nil q⟩
theorem xac (ha : PEX X Wo e te xe) (hr : PAX X Wo es ta xa) (hs : starEach (e :: es) X.env = (false, eval e X.env) :: starEach es X.env := by rfl) : PAX X Wo (e :: es) (tCons te ta) (wxCons xe xa) :=
  ⟨pa_cons ha.pe hr.pa hs, fun bx T σ H δ Qd Q R g en p px q => ha.sn bx T σ H δ _ _ R g en (fun dx x H1 e1 b1 r1 h1 => hr.sn bx T σ H1 δ _ _ R (g.on e1 b1) (en.on g e1) (fun ds vs H2 e2 b2 r2 h2 => p _ _ H2 (e1.trans e2) b2 (.cons (r1.on (g.on e1 b1) e2) r2) h2) (px.on e1) h1) px q⟩
theorem xtup {k} (h : PAX X Wo es ta xa) : PEX X Wo (.Tuple es k pos) (tTup ta) (wxTup xa) :=
  ⟨pe_tup h.pa, fun bx T σ H δ Qd Q R g en p px q => h.sn bx T σ H δ _ _ R g en (fun ds vs H1 e1 b1 r1 h1 => ⟨by rw [r1.length]; exact h1.1, fun a na => (p.on e1).tup (g.on e1 b1) na r1 h1.2⟩) px q⟩
theorem xcall {k n : Nat} {fa : Addr} {fd : FuncData} {ps : List Str} {x : Str} {f : OLX} (F : FnOk X.prog X.w X.K X.mg X.base (L2.CX X.prog X.w) k fa fd ps (spWX X.K X.mg n f)) (tk : Takes X Wo) (hr : Room k X.A) (hm : X.mg x = some (.ref fa)) (hk : PySem.W.keepIn X.K (.ref fa) = true) (hb : Binds X.K fd ps [])
    (ha : PAX X Wo (e :: es) ta xa) (hg : Gl X x := by rfl) (hdb : (x == ("__debug__" : Str)) = false := by decide) (he : starEach (e :: es) X.env = (false, eval e X.env) :: starEach es X.env := by rfl) (hpl : (backTo pos (starEach es X.env)).any (·.1) = false := by rfl) :
    PEX X Wo (.Call (.Name x p2) (e :: es) [] pos) (tCallSD (spWX X.K X.mg n f) [] (WE Wo) ta) (wxFn n f xa) :=
  ⟨pe_callSD F hr hg hm hk hb .nil (fun σ => passAt tk σ) ha.pa hdb he hpl, fun bx T σ H δ Qd Q R g en p px q => ha.sn bx T σ H δ _ _ R g en (fun ds vs H1 e1 b1 r1 h1 => ⟨bx, T, ds, Qd, R, h1.1, g.on e1 b1, by rw [List.append_nil]; exact r1, p.on e1, px.on e1, h1.2⟩) px q⟩
end
/-! ### statements -/
abbrev SWX := SE → PsW → (SE → ExD → Prop) → Prop
def ImpX (K : PySem.W.Frag) (mg : Str → Option Value) (bx : Bx) (M W : Addr → Prop) (H : Hp) (R : SE → ExD → Prop) (Wo : WX) : Prop := ∀ W' σ' H' ρ' x cls d, Stp bx W H W' H' → Gd bx M W' H' → RS K bx M W' H' σ' ρ' → ExV K mg bx M H' cls d x → R ρ' x → Wo cls d σ' H'
theorem ImpX.on {K : PySem.W.Frag} {mg : Str → Option Value} {bx : Bx} {M W W1 : Addr → Prop} {H H1 : Hp} {R : SE → ExD → Prop} {Wo : WX} (p : ImpX K mg bx M W H R Wo) (s : Stp bx W H W1 H1) : ImpX K mg bx M W1 H1 R Wo := fun W' σ' H' ρ' x cls d t => p W' σ' H' ρ' x cls d (s.trans t)
def SndSX (K : PySem.W.Frag) (mg : Str → Option Value) (Wo : WX) (t : TS) (w : SWX) : Prop := ∀ bx M W σ H ρ (P : PsW) (R : SE → ExD → Prop) (Dn : Ends), Gd bx M W H → RS K bx M W H σ ρ → Imp K bx M W H P Dn → ImpX K mg bx M W H R Wo → w ρ P R → t Dn σ H
structure PSX (X : Cx) (Wo : WX) (st : Stmt) (t : TS) (w : SWX) : Prop where
  ps : PS X st t
  sn : SndSX X.K X.mg Wo t w
structure PSsX (X : Cx) (Wo : WX) (st : List Stmt) (t : TS) (w : SWX) : Prop where
  ps : PSs X st t
  sn : SndSX X.K X.mg Wo t w
def wLs (w : SW) : SWX := fun ρ P _ => w ρ P
def wxSeq (w u : SWX) : SWX := fun ρ P R => w ρ { P with nx := fun ρ' => u ρ' P R } R
def wxIf (t : TW) (a b : SWX) : SWX := fun ρ P R => t (vF ρ) fun c => if c = true then a ρ P R else b ρ P R
def wxRet (e : XEW) : SWX := fun ρ P R => e (vF ρ) P.rt (R ρ)
def forX (is : List Nat) (un : D → Option (List D)) (b : SWX) : List D → SWX
  | [], ρ, P, _ => P.nx ρ
  | d :: r, ρ, P, R => ∃ ds, un d = some ds ∧ b (putS ρ is ds) { nx := fun ρ' => forX is un b r ρ' P R, ct := fun ρ' => forX is un b r ρ' P R, bk := P.nx, rt := P.rt } R
def wxFor (wi : IW) (is : List Nat) (un : D → Option (List D)) (b : SWX) : SWX := fun ρ P R => wi (vH ρ) fun ds => forX is un b ds ρ P R
section
variable {K : PySem.W.Frag} {mg : Str → Option Value} {Wo : WX} {t u : TS} {w w' : SWX} {tt : TT} {wt : TW} {te : TE} {xe : XEW}
theorem sndx_for {ti : TI} {wi : IW} {g : TG} {is : List Nat} {un : D → Option (List D)} (hi : SndI K ti wi) (hg : SndG K g is un) (h1 : SndSX K mg Wo t w) : SndSX K mg Wo (tFor ti g t) (wxFor wi is un w) := fun bx M W σ H ρ P R Dn gd r p px q => by
  refine hi bx (UM M W) σ H (vH ρ) _ _ gd.good r.eH (fun ds J H1 e1 b1 dr hq => ?_) q
  have gd1 := gd.on e1 b1
  refine ⟨fun i m σ' H' => m = ds.length - i ∧ i ≤ ds.length ∧ ∃ W' ρ', Stp bx W H1 W' H' ∧ Gd bx M W' H' ∧ RS K bx M W' H' σ' ρ' ∧ forX is un w (ds.drop i) ρ' P R, ⟨_, rfl, Nat.zero_le _, W, ρ, Stp.refl bx W H1, gd1, r.on gd e1, hq⟩, ?_⟩
  rintro i m σ' H' ⟨rfl, hle, W', ρ', s', g', r', hf⟩
  obtain ⟨hs, hn⟩ := dr (UM M W') H' (s'.kept gd1) g'.kn i
  have s0 : Stp bx W H W' H' := (Stp.of e1).trans s'
  by_cases hlt : i < ds.length
  · have hd : ds[i]? = some ds[i] := List.getElem?_eq_getElem hlt
    have hdr : ds.drop i = ds[i] :: ds.drop (i + 1) := List.drop_eq_getElem_cons hlt
    obtain ⟨hgo, hy⟩ := hn _ hd
    refine Or.inr ⟨hgo, fun σ2 H2 => i + 1 ≤ ds.length ∧ ∃ W2 ρ2, Stp bx W H1 W2 H2 ∧ Gd bx M W2 H2 ∧ RS K bx M W2 H2 σ2 ρ2 ∧ forX is un w (ds.drop (i + 1)) ρ2 P R, fun σ2 H2 z => ⟨_, by omega, rfl, z⟩, fun x H2 hyl => ?_⟩
    obtain ⟨kp, rx⟩ := hy x H2 hyl
    have e2 : Ext bx H' H2 := fun a o _ h => kp a o h
    have b2 : BoxOk bx H2 := fun b a e => by
      obtain ⟨n, ds', c, z1, z2, z3⟩ := g'.box b a e
      exact ⟨n, ds', c, kp _ _ z1, kp _ _ z2, z3⟩
    have g2 := g'.on e2 b2
    rw [hdr] at hf
    obtain ⟨us, hu, hw⟩ := hf
    refine hg bx (UM M W') x _ us σ' H2 _ rx hu fun vs rvs => ?_
    have s2 : Stp bx W H1 W' H2 := s'.trans (Stp.of e2)
    have s3 : Stp bx W H W' H2 := s0.trans (Stp.of e2)
    refine h1 bx M W' _ H2 _ { nx := fun ρ' => forX is un w (ds.drop (i + 1)) ρ' P R, rt := P.rt, bk := P.nx, ct := fun ρ' => forX is un w (ds.drop (i + 1)) ρ' P R } R _ g2 ((r'.on g' e2).put rvs)
      ⟨fun W3 σ3 H3 ρ3 q3 g3 r3 z => ⟨by omega, W3, ρ3, s2.trans q3, g3, r3, z⟩, fun W3 σ3 H3 ρ3 q3 g3 r3 z => p.nx W3 σ3 H3 ρ3 (s3.trans q3) g3 r3 z, fun W3 σ3 H3 ρ3 q3 g3 r3 z => ⟨by omega, W3, ρ3, s2.trans q3, g3, r3, z⟩, fun W3 v d' H3 q3 b3 r3 z => p.rt W3 v d' H3 (s3.trans q3) b3 r3 z⟩ (px.on s3) hw
  · have hi3 : i = ds.length := by omega
    subst hi3
    rw [List.drop_length] at hf
    exact Or.inl ⟨hs (Nat.le_refl _), p.nx W' σ' H' ρ' s0 g' r' hf⟩
end
section
variable {X : Cx} {Wo : WX} {st : Stmt} {rest a b : List Stmt} {t u : TS} {w w' : SWX} {ws : SW} {c e tg it : Expr} {te : TE} {we : EW} {xe : XEW} {tt : TT} {wt : TW} {ti : TI} {wi : IW} {g : TG} {is : List Nat} {un : D → Option (List D)} {pos pos' p2 : Pos}
theorem xs_l (h : PSW X st t ws) : PSX X Wo st t (wLs ws) := ⟨h.ps, fun bx M W σ H ρ P R Dn g r p _ q => h.sn bx M W σ H ρ P Dn g r p q⟩
theorem xss_l (h : PSsW X rest t ws) : PSsX X Wo rest t (wLs ws) := ⟨h.ps, fun bx M W σ H ρ P R Dn g r p _ q => h.sn bx M W σ H ρ P Dn g r p q⟩
theorem xsc (h1 : PSX X Wo st t w) (h2 : PSsX X Wo rest u w') : PSsX X Wo (st :: rest) (tSeq t u) (wxSeq w w') := ⟨pss_cons h1.ps h2.ps, fun bx M W σ H ρ P R Dn g r p px h =>
  h1.sn bx M W σ H ρ { P with nx := fun ρ' => w' ρ' P R } R _ g r ⟨fun W' σ' H' ρ' s g' r' q => h2.sn bx M W' σ' H' ρ' P R Dn g' r' (p.on s) (px.on s) q, p.bk, p.ct, p.rt⟩ px h⟩
theorem xs1 (h1 : PSX X Wo st t w) : PSsX X Wo [st] t w := ⟨pss_one h1.ps, h1.sn⟩
theorem xif (hc : PTW X c tt wt) (ha : PSsX X Wo a t w) (hb : PSsX X Wo b u w') : PSX X Wo (.If c a b pos) (tIfS tt t u) (wxIf wt w w') := ⟨ps_if hc.pt ha.ps hb.ps, fun bx M W σ H ρ P R Dn g r p px q =>
  hc.sn bx M σ H (vF ρ) _ _ g.goodM (r.eF g) (fun c H1 e b hq => by
    cases c with
    | true => exact ha.sn bx M W σ H1 ρ P R Dn (g.on e b) (r.on g e) (p.on (Stp.of e)) (px.on (Stp.of e)) hq
    | false => exact hb.sn bx M W σ H1 ρ P R Dn (g.on e b) (r.on g e) (p.on (Stp.of e)) (px.on (Stp.of e)) hq) q⟩
theorem xret (he : PEX X Wo e te xe) : PSX X Wo (.Return (some e) pos) (tRet te) (wxRet xe) := ⟨ps_ret he.pe, fun bx M W σ H ρ P R Dn g r p px q =>
  he.sn bx M σ H (vF ρ) _ _ _ g.goodM (r.eF g) (fun d v H1 e b rv hq => p.rt W v d H1 (Stp.of e) b rv hq) (fun x cls d H1 e b v hq => px W σ H1 ρ x cls d (Stp.of e) (g.on e b) (r.on g e) v hq) q⟩
theorem xfor (hp : PassesOwn (model X.prog X.w) X.A X.env X.xe) (hc : X.calm = true) (hi : PIW X tg it ti wi) (hg : PGW X tg g is un) (hb : PSsX X Wo rest t w) (hs : ∀ x, foldedSetIterable it X.env x = pure x := by intro _; rfl) :
    PSX X Wo (.For tg it rest [] pos) (tFor ti g t) (wxFor wi is un w) := ⟨ps_for hp hc hi.pi hg.pg hb.ps hs, sndx_for hi.sn hg.sn hb.sn⟩
/-- raise C(e) -/
def wxRaise (x f lead : Str) (we : EW) : SWX := fun ρ _ R => we (vF ρ) fun d => match d with
  | .int i => (i.natAbs.log2 < 1920 ∧ (Str.empty ++ lead ++ (toString i : Str)).length ≤ sizeLine) ∧ R ρ (x, [(f, .int i)])
  | _ => False
theorem xraise {C : Addr} {x qual f lead : Str} {fd : FuncData} (T : ErrC X.prog X.K X.mg C qual f) (F : FnOk X.prog X.w X.K X.mg X.base CX0 1 (He.ma X.K C "__init__") fd ["self", f] (spErr X.K C f lead)) (hb : Binds X.K fd ["self", f] []) (tk : Takes X Wo) (hc : X.calm = true) (hr : Room 2 X.A) (hm : X.mg x = some (.ref C)) (ha : PEW X e te we)
    (hg : Gl X x := by rfl) (hdb : (x == ("__debug__" : Str)) = false := by decide) (he : starEach [e] X.env = (false, eval e X.env) :: starEach [] X.env := by rfl) (hpl : (backTo p2 (starEach [] X.env)).any (·.1) = false := by rfl) :
    PSX X Wo (.Raise (some (.Call (.Name x pos') [e] [] p2)) none pos) (fun _ σ H => tMkO C (spErr X.K C f lead) [] (tCons te tNil) σ H fun cls d H' => Wo cls d σ H') (wxRaise x f lead we) :=
  ⟨ps_raise hc tk (pmk_oex T.t.oex T.iC T.tI F hr hb .nil pass0 hg hm (pa_cons ha.pe pa_nil he) hdb he hpl), fun bx M W σ H ρ P R Dn g r p px q => by
    refine ha.sn bx M σ H (vF ρ) _ _ g.goodM (r.eF g) (fun d v H1 e1 b1 rv hq => ?_) q
    cases rv with
    | int i =>
      obtain ⟨⟨h1, h2⟩, h3⟩ := hq
      have g1 := g.on e1 b1
      refine ⟨by show (1 : Nat) ≤ 1000; decide, fun a na => ⟨a, i, rfl, h1, h2, upd_same, fun dx ndx ne => ⟨rfl, dx, [(f, .int i)], upd_same, ?_, ?_, ?_⟩⟩⟩
      · rw [upd_ne ne, upd_same]
      · rw [upd_ne ne] at ndx
        exact ndx
      · rw [upd_ne ne] at ndx
        have eq : upd (del (upd (upd (upd H1 a (exo a C none)) dx (exd dx [(f, .int i)])) a (exo a C (some dx))) a) dx (.xd [(f, .int i)]) = upd H1 dx (.xd [(f, .int i)]) := by
          funext b
          by_cases hbd : b = dx
          · rw [hbd, upd_same, upd_same]
          · rw [upd_ne hbd, upd_ne hbd]
            by_cases hba : b = a
            · rw [hba, del_same, na]
            · rw [del_ne hba, upd_ne hba, upd_ne hbd, upd_ne hba]
        rw [eq]
        have e2 : Ext bx H1 (upd H1 dx (.xd [(f, .int i)])) := ext_new ndx
        have b2 := box_new (o := .xd [(f, .int i)]) ndx b1
        exact px W σ _ ρ _ _ _ ((Stp.of e1).trans (Stp.of e2)) (g1.on e2 b2) ((r.on g e1).on g1 e2) ⟨C, dx, _, rfl, hm, rfl, upd_same, rfl, .cons (.int i) .nil⟩ h3
    | _ => exact hq.elim⟩
end
/-- a def that may raise, by its body -/
def fnWX (n : Nat) (w : SWX) : OLX := fun ds Q R => w (startS n ds) { nx := fun _ => Q .none, rt := Q } fun _ => R
theorem fnx_sound {K : PySem.W.Frag} {mg : Str → Option Value} {scope : Scope} {N ps : List Str} {w : SWX} {t : TS} {vs : List V} {H : Hp} {Q : VK} {E : XK} (S : FnScope N ps scope) (ht : SndSX K mg (fun cls d _ H' => E cls d H') t w) (hsp : spWX K mg ps.length (fnWX N.length w) vs H Q E) :
    t { nx := fun _ H' => Q .non H', rt := Q } (L2.start N vs) H := by
  obtain ⟨bx, T, ds, Qd, R, hl, g, r, p, px, hw⟩ := hsp
  have kk : ∀ x o, ¬ T x → H x = some o → H x = some o ∧ ¬ UM T (fun _ => False) x := fun x o n h => ⟨h, fun z => z.elim n id⟩
  obtain ⟨s1, s2⟩ := start_get kk r N
  have hpl : ps.length ≤ N.length := by
    have := congrArg List.length S.pre
    rw [List.length_take] at this
    omega
  have ex : ∀ {W' : Addr → Prop} {H' : Hp}, Stp bx (fun _ => False) H W' H' → Ext bx H H' := fun st a o n h => (st a o h (fun z => z) n).1
  refine ht bx T (fun _ => False) _ H _ { nx := fun _ => Qd .none, rt := Qd } (fun _ => R) _ ⟨g.box, fun b a e => ⟨g.bxT b a e, fun z => z⟩, fun p z => z.elim (g.kn p) False.elim, fun p z => z.elim⟩ ⟨?_, s1, fun i l h => (s2 i l h).elim, fun i j l l' p nij hi => (s2 i l hi).elim⟩
    ⟨fun W' σ' H' ρ' st g' r' q => p .none .non H' (ex st) g'.box .non q, fun W' σ' H' ρ' st g' r' q => False.elim q, fun W' σ' H' ρ' st g' r' q => False.elim q, fun W' v d H' st b' rv q => p d v H' (ex st) b' rv q⟩ (fun W' σ' H' ρ' x cls d st g' r' v q => px x cls d H' (ex st) g'.box v q) hw
  unfold startS L2.start
  rw [List.length_append, List.length_append, List.length_map, List.length_map, List.length_replicate, List.length_replicate, r.length]
  omega
theorem okWX {P : Program} {wd : World} {K : PySem.W.Frag} {mg : Str → Option Value} {base : Heap} {x qual : Str} {params : Arguments} {body : List Stmt} {scope : Scope} {f : Addr} {fd : FuncData} {N ps : List Str} {k n m : Nat} {w : SWX}
    (F : FunD K x qual params body scope [] [] f fd) (S : FnScope N ps scope) (hn : ps.length = n) (hm : N.length = m)
    (h : ∀ (cdv : Value) (A : Around) (outer : List Env) (s : Shared) (H : Hp) (E : XK), Room k (A.deeper (envOfC qual scope s.heap.objs.size f cdv)) → ∃ t, PSsX (cxOf (L2.CX P wd) P wd K mg base N qual scope f cdv A outer s H E) (fun cls d _ H' => E cls d H') body t w) :
    FnOk P wd K mg base (L2.CX P wd) (k + 1) f fd ps (spWX K mg n (fnWX m w)) := by
  subst hn hm
  refine F.ok S (fun vs H Q E h => spWX_len h) (fun cdv A outer s H vs Q E hr hsp => ?_)
  obtain ⟨t, ht⟩ := h cdv A outer s H E hr
  exact ⟨t, ht.ps, fnx_sound S ht.sn hsp⟩
end Wy

set_option Elab.async false
set_option linter.all false
set_option maxRecDepth 100000
set_option maxHeartbeats 4000000
/-! E5: such a class in a law's text; what an except suite asks of the error. -/
namespace Wy
open PySem PySem.Spec PyProof.Rows L2 NdefX
structure ErrD (P : Program) (K : PySem.W.Frag) (mg : Str → Option Value) (x qual f lead : Str) where
  C : Addr
  g : mg x = some (.ref C)
  T : ErrC P K mg C qual f
  fd : FuncData
  ok : ∀ {w : World} {base : Heap}, FnOk P w K mg base CX0 1 (He.ma K C "__init__") fd ["self", f] (spErr K C f lead)
  b : Binds K fd ["self", f] []
theorem errD_of {P : Program} {K : PySem.W.Frag} {h : Heap} {mg : Str → Option Value} {d : MetD} {f lead file : Str} {j : Nat} {p0 p1 p2 p3 p4 q0 q1 q2 q3 r1 r2 r3 r4 : Pos} {ar : Arg} (X : K.In h) (G : h.Ns mainGlobals mg) (hf : (P.main.file : Str) = file) (htop : (P.main.scope.names.lookup ("super" : Str)).isSome = false)
    (hg : mg d.cls = some (.ref (He.ga K d.cls))) (e : errB K (He.ga K d.cls) d.qual f file = true) (hm : metObs K d = d.val) (hi : d.met = "__init__")
    (hb : defBody d.st = errBody f lead j p0 p1 p2 p3 p4 q0 q1 q2 q3 r1 r2 r3 r4) (S : NScope ["self", f, "__class__"] ["self", f] ["__class__"] (defScope d.st)) (har : ((defArgs d.st).posonlyargs ++ (defArgs d.st).args).head? = some ar) (hs0 : ar.arg = "self")
    (hks : (defScope d.st).names.lookup ("super" : Str) = some .globalImplicit) (hl0 : (Str.empty ++ lead).length ≤ sizeLine)
    (hev : ∀ env : Env, ∃ pl, eval (.Call (.Attribute (.Call (.Name "super" p0) [] [] p1) "__init__" p2) [.JoinedStr [.Constant (.str lead) j q0, .FormattedValue (.Name f q1) (-1) none q2] q3] [] p3) env = (do
      let ov ← attributeBase (.Call (.Name "super" p0) [] [] p1) "__init__" env (eval (.Call (.Name "super" p0) [] [] p1) env)
      standAt p2.atName
      let (g0, first) ← holding [ov] (getMethod ov "__init__" pl)
      callWith p3 g0 first (backTo p3 (starEach [.JoinedStr [.Constant (.str lead) j q0, .FormattedValue (.Name f q1) (-1) none q2] q3] env)) []))
    (hd : (f == ("__debug__" : Str)) = false) (hcd : (f == ("__classdict__" : Str)) = false)
    (hbd : ∀ (cc : Addr) (kV doc pm cdv ct : Value) (an : Option Addr) (us : List Value), us.length = 2 → bindArgs (PySem.W.fnX "__init__" d.qual (defArgs d.st) (defBody d.st) (defScope d.st) [("__class__", cc)] .none kV doc pm an cdv ct) ⟨us, []⟩ = pure ((["self", f] : List Str).zip us)) : ∃ z : ErrD P K mg d.cls d.qual f lead, z.C = He.ga K d.cls := by
  have T := errB_ok X G hf htop e
  obtain ⟨oc, od, kV, doc, pm, an, ct, osl, lk⟩ := met_ok hm hi T.cd
  exact ⟨⟨_, hg, T, _, err_ok T lk hb S har hs0 hks hl0 hev hd hcd, .all fun us hl => hbd _ _ _ _ _ _ _ us hl⟩, rfl⟩
/-! ### isinstance of the error that a suite holds -/
def rIsD (K : PySem.W.Frag) (C a : Addr) : List V → Hp → VK → Prop := fun xs H Q => ∃ (c : V) (cv : Value) (b : Bool), xs = [.ref a, c] ∧ (∀ u, RelV c u → u = cv) ∧ PySem.W.kitOne K (.ref C) cv = some b ∧ Q (.bl b) H
theorem call_isD {X : Cx} {a C : Addr} {oe : Obj} {pn : List (Addr × Obj)} {qual f : Str} {cls : Value} {d : Option Addr} (T : ErrC X.prog X.K X.mg C qual f) (hz : Zc cls d oe) (hf : ∃ vs, oe.data = .fields vs) :
    CallR (X.suite a ((a, oe) :: pn)) (.builtin "isinstance") (fun xs H Q => cls = .ref C ∧ (∃ dd fs, d = some dd ∧ H dd = some (.xd fs)) ∧ rIsD X.K C a xs H Q) := by
  intro pins s σ H xs us Q I r h
  obtain ⟨rfl, ⟨dd, fs, rfl, hdd⟩, c, cv, b, rfl, hcv, e, q⟩ := h
  cases r with
  | cons rx rr =>
    cases rr with
    | cons rt rr =>
      cases rr
      cases rx
      have ec := hcv _ rt
      subst ec
      obtain ⟨hget, _⟩ := I.pin (a, oe) (List.mem_append.mpr (.inl List.mem_cons_self))
      obtain ⟨vs, hv⟩ := hf
      have hx : ObjOk X.prog X.w H s.heap dd (.xd fs) := I.hok dd _ hdd
      obtain ⟨mA, hns, _⟩ := hx
      obtain ⟨od, ho, _⟩ := lookIn_ns hns
      have J : PySem.W.InstAt s.heap a oe C (some od) := by
        obtain ⟨oc, od', oda, osl⟩ := oe
        obtain ⟨h1, h2⟩ := hz
        dsimp only at h1 h2 hv
        subst h1 h2 hv
        exact ⟨hget, rfl, rfl, ho⟩
      have hcl : (PySem.W.clsIn X.K C).isSome = true := by
        obtain ⟨nm, q, N, bs, bm, sn, sub, ab, col, dd, k0, k1, k2, k3, k5, hC, hbm⟩ := T.t.oex.cls
        unfold PySem.W.clsIn
        rw [hC]
        rfl
      exact PySem.W.kia_one (PySem.W.kitx_exc hcl T.xf.ga T.xf.gg T.t.oex.exC T.ha T.hn T.ht T.hm) I.kIn J e (fun z => nomatch z) fun tk => ⟨.bl b, H, I.kept (t' := tk) fun _ _ z => z, rfl, q⟩
theorem kxcall {X : Cx} {Wo : WX} {e : Expr} {es : List Expr} {ta : TA} {xa : XAW} {pos p2 : Pos} (K : PySem.W.Frag) (mg : Str → Option Value) {k n : Nat} {fa : Addr} {fd : FuncData} {ps : List Str} {x : Str} {f : OLX} (F : FnOk X.prog X.w X.K X.mg X.base (L2.CX X.prog X.w) k fa fd ps (spWX K mg n f)) (tk : Takes X Wo) (hr : Room k X.A)
    (hm : X.mg x = some (.ref fa)) (hk : PySem.W.keepIn X.K (.ref fa) = true) (hb : Binds X.K fd ps []) (ha : PAX X Wo (e :: es) ta xa) (hK : X.K = K := by rfl) (hG : X.mg = mg := by rfl) (hg : Gl X x := by rfl) (hdb : (x == ("__debug__" : Str)) = false := by decide)
    (he : starEach (e :: es) X.env = (false, eval e X.env) :: starEach es X.env := by rfl) (hpl : (backTo pos (starEach es X.env)).any (·.1) = false := by rfl) :
    PEX X Wo (.Call (.Name x p2) (e :: es) [] pos) (tCallSD (spWX K mg n f) [] (WE Wo) ta) (wxFn n f xa) := by
  subst hK
  subst hG
  exact xcall F tk hr hm hk hb ha hg hdb he hpl
/-! ### tables of the module's head -/
theorem tup_const {K : PySem.W.Frag} {x : Str} {vs : List He.Dv} (h : He.tupB K x vs = true) (T : Addr → Prop) (H : Hp) : TupAt K T H (He.ga K x) (vs.map (He.Dv.v K)) := by
  unfold He.tupB at h
  split at h
  · rename_i c d its n sl ho
    simp only [Bool.and_eq_true, decide_eq_true_eq] at h
    obtain ⟨rfl, h2, h3⟩ := h
    exact Or.inr ⟨_, its, n, ho, rfl, rfl, h2, He.relAll_ok h3⟩
  · cases h
/-- the i-th statement of a class -/
def clsSt (st : Stmt) (i : Nat) : Stmt := match st with
  | .ClassDef _ _ _ b _ _ _ _ _ _ _ => b.getD i (.Pass ⟨0, 0, 0, 0⟩)
  | _ => .Pass ⟨0, 0, 0, 0⟩
end Wy

set_option Elab.async false
set_option linter.all false
set_option maxRecDepth 100000
set_option maxHeartbeats 2000000
/-! M1: the words that all laws share, by their W terms; texts cut at one sign. -/
namespace Wy
open PySem L2
open SX (S S_len S_cat S_inj in_one int_S num_S)
def bbSame (r : OL) : OL := fnW 3 (wSeq (wIfS (bW (wOp oIsN (wVar 1) (wC .none))) (wRet (wOp oIsN (wVar 0) (wC .none))) wNext)
  (wSeq (wIfS (bW (wOp oIsB (wVar 1) (wC (.bool true)))) (wRet (wOp oIsB (wVar 0) (wC (.bool true)))) wNext)
  (wSeq (wIfS (bW (wOp oIsB (wVar 1) (wC (.bool false)))) (wRet (wOp oIsB (wVar 0) (wC (.bool false)))) wNext)
  (wSeq (wIfS (wTru (wUn (oIsi "str") (wVar 1))) (wRet (wAndV (wUn (oIsi "str") (wVar 0)) (wOp oEq (wCall (on1 oRepr) (wCons (wVar 0) wNil)) (wCall (on1 oRepr) (wCons (wVar 1) wNil))))) wNext)
  (wSeq (wIfS (wTru (wUn (oIsi "int") (wVar 1))) (wRet (wAndV (wUn (oIsi "int") (wVar 0)) (wAndV (wNotV (wUn (oIsi "bool") (wVar 0))) (wOp oEq (wCall (on1 oRepr) (wCons (wVar 0) wNil)) (wCall (on1 oRepr) (wCons (wVar 1) wNil)))))) wNext)
  (wSeq (wIfS (wOr (wAnd (wTru (wUn (oIsi "tuple") (wVar 1))) (wNot (wTru (wUn (oIsi "tuple") (wVar 0))))) (wAnd (wTru (wUn (oIsi "list") (wVar 1))) (wNot (wTru (wUn (oIsi "list") (wVar 0)))))) (wRet (wC (.bool false))) wNext)
  (wSeq (wIfS (bW (wOp oNe (wCall (on1 oLen) (wCons (wVar 0) wNil)) (wCall (on1 oLen) (wCons (wVar 1) wNil)))) (wRet (wC (.bool false))) wNext)
  (wSeq (wFor (wRng1 (wCall (on1 oLen) (wCons (wVar 1) wNil))) [2] uName (wIfS (wNot (wTru (wFn 2 r (wCons (wOp oIx (wVar 0) (wVar 2)) (wCons (wOp oIx (wVar 1) (wVar 2)) wNil))))) (wRet (wC (.bool false))) wNext))
  (wRet (wC (.bool true)))))))))))
def sameW : Nat → OL
  | 0 => fun _ _ => False
  | n + 1 => bbSame (sameW n)
def digitsW : OL := fnW 8 (wSeq (wOwn 3 (fun δ Q => wNil δ fun xs => xs.length ≤ sizeLine ∧ Q xs))
  (wSeq (wFor (wRng2 (wVar 1) (wVar 2)) [4] uName (wSeq (wAsg 5 (wFn 2 cellW (wCons (wVar 0) (wCons (wVar 4) wNil))))
  (wSeq (wIfS (bW (wOp oLt (wVar 5) (wC (.int 0)))) (wAsg 5 (wOp oSub (wC (.int 1)) (wOp oMul (wC (.int 2)) (wVar 5)))) wNext)
  (wIfS (bW (wOp oGe (wVar 5) (wOp oPow (wC (.int 10)) (wC (.int 18))))) (wFor (wRng1 (wC (.int 60))) [6] uName (wIfS (bW (wOp oGt (wVar 5) (wC (.int 0)))) (wSeq (wApp 3 (wOp oMod (wCall (on1 oInt) (wCons (wVar 5) wNil)) (wC (.int 1000))))
  (wAsg 5 (wOp oDiv (wVar 5) (wC (.int 1000))))) wNext)) (wSeq (wAsg 7 (wOp oMod (wCall (on1 oInt) (wCons (wOp oAdd (wOp oAdd (wOp oMul (wVar 5) (wC (.int 48271))) (wOp oMul (wVar 4) (wC (.int 69621)))) (wC (.int 11))) wNil)) (wC (.int 2147483647))))
  (wFor (wRng1 (wC (.int 12))) [6] uName (wSeq (wAsg 7 (wOp oMod (wCall (on1 oInt) (wCons (wOp oAdd (wOp oAdd (wOp oMul (wVar 7) (wC (.int 16807))) (wOp oMul (wC (.int 7)) (wVar 6))) (wC (.int 1))) wNil)) (wC (.int 2147483647))))
  (wApp 3 (wOp oMod (wCall (on1 oInt) (wCons (wOp oDiv (wVar 7) (wC (.int 997))) wNil)) (wC (.int 1000)))))))))))
  (wRet (wVar 3))))
def pickW : OL := fnW 2 (wRet (wOp oIx (wVar 1) (wOp oMod (wCall (on1 oInt) (wCons (wFn 2 drawW (wCons (wVar 0) (wCons (wC (.int 1000)) wNil))) wNil)) (wCall (on1 oLen) (wCons (wVar 1) wNil)))))
section
variable {δ : DE} {ρ : SE} {P : PsW} {Q : D → Prop} {a : EW}
theorem x_app0 {l : List D} : wApp 0 a (some (.own l) :: ρ) P = a (vH (some (.own l) :: ρ)) fun d => l.length < sizeLine ∧ P.nx (some (.own (l ++ [d])) :: ρ) := id rfl
theorem x_app1 {s0} {l : List D} : wApp 1 a (s0 :: some (.own l) :: ρ) P = a (vH (s0 :: some (.own l) :: ρ)) fun d => l.length < sizeLine ∧ P.nx (s0 :: some (.own (l ++ [d])) :: ρ) := id rfl
theorem x_app2 {s0 s1} {l : List D} : wApp 2 a (s0 :: s1 :: some (.own l) :: ρ) P = a (vH (s0 :: s1 :: some (.own l) :: ρ)) fun d => l.length < sizeLine ∧ P.nx (s0 :: s1 :: some (.own (l ++ [d])) :: ρ) := id rfl
theorem x_app3 {s0 s1 s2} {l : List D} : wApp 3 a (s0 :: s1 :: s2 :: some (.own l) :: ρ) P = a (vH (s0 :: s1 :: s2 :: some (.own l) :: ρ)) fun d => l.length < sizeLine ∧ P.nx (s0 :: s1 :: s2 :: some (.own (l ++ [d])) :: ρ) := id rfl
theorem o_powI {i j : Int} : oPow (.int i) (.int j) Q = (CPow i j ∧ Q (.int (i ^ j.toNat))) := id rfl
end
local macro_rules | `(tactic| walk_at "wx") => `(tactic| simp only [x_seq, x_asg, x_asgS, x_ret, x_retN, x_ifS, x_next, x_drop, x_break, x_cont, x_frz, x_c, x_op, x_un, x_if, x_nil, x_cons, x_tup, x_lst, x_call, x_on1, x_fn, x_and, x_or, x_not, x_bW, x_tru, x_no, x_part, x_andV, x_orV, x_notV, x_chain, x_sl, x_m1, x_iter, x_rng1, x_rng2, x_for, x_lc, x_par, x_repl, x_own,
  x_vF, x_vH, x_vF0, x_vH0, x_slFd, x_slHd, x_slFo, x_slHo, x_var0, x_varS, x_aug0, x_aug1, x_aug2, o_addI, o_iaddI, o_subI, o_mulI, o_divI, o_modI, o_negI, o_addL, o_addT, o_addS, o_iaddS, o_lenS, o_lenL, o_lenT, o_ltI, o_leI, o_gtI, o_geI, o_eqS, o_neS, o_eqI, o_neI, o_isN, o_notN, o_isBv, o_ordS, o_intI, o_strI, o_inC, o_ninC, items_S, items_L, items_T,
  List.set_cons_zero, List.set_cons_succ, List.length_cons, List.length_nil, startS, List.map_cons, List.map_nil, List.replicate_succ, List.replicate_zero, List.cons_append, List.nil_append, Nat.reduceAdd, Nat.reduceSub, putS, isNone, x_app3, o_powI, true_and, and_true, x_truB, x_truL, x_truT, eq_self, if_true, if_false, Bool.false_eq_true])
theorem mem_rangeD {lo : Nat} {n : Nat} {d : D} (h : d ∈ rangeD lo n) : ∃ i : Nat, d = .int (i : Nat) ∧ lo ≤ i ∧ i < lo + n := by
  unfold rangeD at h
  obtain ⟨i, hi, rfl⟩ := List.mem_map.mp h
  exact ⟨lo + i, rfl, by omega, by have := List.mem_range.mp hi; omega⟩
/-! the law's comparison -/
def sameOk : Nat → D → Prop
  | 0, _ => False
  | _ + 1, .none => True
  | _ + 1, .bool _ => True
  | _ + 1, .int i => i.natAbs.log2 < 1920
  | _ + 1, .str x => (reprText x).length ≤ sizeLine
  | n + 1, .tuple ds => ds.length < 2 ^ 62 ∧ ∀ d ∈ ds, sameOk n d
  | n + 1, .list ds => ds.length < 2 ^ 62 ∧ ∀ d ∈ ds, sameOk n d
  | _ + 1, .dict _ => False
theorem sp_same : ∀ (n : Nat) (d : D) (Q : D → Prop), sameOk n d → Q (.bool true) → sameW n [d, d] Q
  | n + 1, d, Q, hd, h => by
    show bbSame (sameW n) [d, d] Q
    unfold bbSame
    rw [x_fnW]
    have loop : ∀ (a : D) (ds : List D) (P : PsW), (∀ d ∈ ds, sameOk n d) → (∀ (i : Nat) (x : D) (R : D → Prop), ds[i]? = some x → R x → oIx a (.int (i : Nat)) R) → (∀ ρ, P.nx ρ) →
        forD [2] uName (wIfS (wNot (wTru (wFn 2 (sameW n) (wCons (wOp oIx (wVar 0) (wVar 2)) (wCons (wOp oIx (wVar 1) (wVar 2)) wNil))))) (wRet (wC (.bool false))) wNext) (rangeD 0 ((ds.length : Int)).toNat) [some (.dat a), some (.dat a), none] P := by
      intro a ds P hds hix hP
      refine for_inv (fun r ρ => ∃ (b : Option Sl), (∀ d ∈ r, d ∈ rangeD ((0 : Nat) : Int) ds.length) ∧ ρ = [some (.dat a), some (.dat a), b]) ?_ (fun ρ _ => hP ρ) _ _ ⟨none, fun d hd => by rw [Int.toNat_natCast] at hd; exact hd, rfl⟩
      rintro d r ρ ⟨b, hr, rfl⟩ P' hn _ _ _
      obtain ⟨i, rfl, _, hi⟩ := mem_rangeD (hr d List.mem_cons_self)
      obtain ⟨x, hx⟩ : ∃ x, ds[i]? = some x := ⟨ds[i], List.getElem?_eq_getElem (by omega)⟩
      refine ⟨_, rfl, ?_⟩
      walk_at "wx"
      refine hix i x _ hx (hix i x _ hx (sp_same n x _ (hds x (List.mem_of_getElem? hx)) ?_))
      exact hn _ ⟨_, fun d hd => hr d (List.mem_cons_of_mem _ hd), rfl⟩
    cases d with
    | none =>
      walk_at "wx"
      exact h
    | bool k =>
      cases k
      · walk_at "wx"
        exact h
      · walk_at "wx"
        exact h
    | int i =>
      walk_at "wx"
      simp only [isi_i, isBool, sEq, BEq.rfl, x_truB, Bool.false_eq_true, if_false, if_true, o_reprI, Bool.not_false]
      refine ⟨hd, hd, ?_⟩
      rw [o_eqSr, BEq.rfl]
      exact h
    | str x =>
      walk_at "wx"
      simp only [isi_s, isBool, sEq, BEq.rfl, x_truB, Bool.false_eq_true, if_false, if_true, o_repr]
      refine ⟨hd, hd, ?_⟩
      rw [o_eqSr, BEq.rfl]
      exact h
    | list ds =>
      walk_at "wx"
      simp only [isi_l, isBool, sEq, BEq.rfl, x_truB, Bool.false_eq_true, if_false, if_true, decide_true, Bool.not_true]
      refine ⟨⟨by omega, by have := hd.1; omega⟩, loop _ ds _ hd.2 (fun i x R hx hR => ⟨x, at_nat hx, hR⟩) (fun ρ => h)⟩
    | tuple ds =>
      walk_at "wx"
      simp only [isi_t, isBool, sEq, BEq.rfl, x_truB, Bool.false_eq_true, if_false, if_true, decide_true, Bool.not_true]
      refine ⟨⟨by omega, by have := hd.1; omega⟩, loop _ ds _ hd.2 (fun i x R hx hR => ⟨x, at_nat hx, hR⟩) (fun ρ => h)⟩
    | dict _ => exact hd.elim
/-! draws -/
theorem sp_pick {xs : List D} {Q : D → Prop} (hl : xs.length ≤ 1000) (h0 : 0 < xs.length) (h : ∀ x ∈ xs, Q x) : pickW [bxD, .list xs] Q := by
  unfold pickW
  rw [x_fnW]
  walk_at "wx"
  refine ⟨rfl, by decide, fun r r0 r1 => ?_⟩
  walk_at "wx"
  refine ⟨by omega, ?_⟩
  have h1 : 0 ≤ r % (xs.length : Int) := Int.emod_nonneg _ (by omega)
  have h2 : r % (xs.length : Int) < xs.length := Int.emod_lt_of_pos _ (by omega)
  have e : r % (xs.length : Int) = ((r % (xs.length : Int)).toNat : Nat) := by omega
  have hlt : (r % (xs.length : Int)).toNat < xs.length := by omega
  rw [e]
  exact ⟨_, at_nat (List.getElem?_eq_getElem hlt), h _ (List.getElem_mem hlt)⟩
theorem sp_pickS {z : List Nat} {Q : D → Prop} (hl : z.length ≤ 1000) (h0 : 0 < z.length) (h : ∀ c ∈ z, Q (.str (S [c]))) : pickW [bxD, .str (S z)] Q := by
  unfold pickW
  rw [x_fnW]
  walk_at "wx"
  refine ⟨rfl, by decide, fun r r0 r1 => ?_⟩
  walk_at "wx"
  refine ⟨by omega, by omega, ?_⟩
  have h1 : 0 ≤ r % (z.length : Int) := Int.emod_nonneg _ (by omega)
  have h2 : r % (z.length : Int) < z.length := Int.emod_lt_of_pos _ (by omega)
  have e : r % (z.length : Int) = ((r % (z.length : Int)).toNat : Nat) := by omega
  have hlt : (r % (z.length : Int)).toNat < z.length := by omega
  rw [e, o_ixS (at_nat (List.getElem?_eq_getElem hlt))]
  exact ⟨by omega, h _ (List.getElem_mem hlt)⟩
theorem chars_of : ∀ {ys : List D}, (∀ y ∈ ys, ∃ c, c < 128 ∧ y = PyData.str (S [c])) → ∃ cs : List Nat, ys = cs.map (fun c => PyData.str (S [c])) ∧ ∀ c ∈ cs, c < 128
  | [], _ => ⟨[], rfl, fun _ h => by cases h⟩
  | y :: ys, h => by
    obtain ⟨c, hc, e⟩ := h y List.mem_cons_self
    obtain ⟨cs, e2, h2⟩ := chars_of (ys := ys) fun x hx => h x (List.mem_cons_of_mem _ hx)
    exact ⟨c :: cs, by rw [e, e2]; rfl, fun x hx => by rcases List.mem_cons.mp hx with rfl | hx; exact hc; exact h2 x hx⟩
theorem strsD_map {α : Type} (f : α → Str) : ∀ l : List α, strsD (l.map fun c => PyData.str (f c)) = some (l.map f)
  | [] => rfl
  | c :: l => by show (strsD _).map (f c :: ·) = _; rw [strsD_map f l]; rfl
theorem joinL_single : ∀ cs : List Nat, TL.joinL [] (cs.map fun c => [c]) = cs
  | [] => rfl
  | [c] => rfl
  | c :: d :: r => by
    have := joinL_single (d :: r)
    show [c] ++ [] ++ TL.joinL [] ((d :: r).map fun c => [c]) = _
    rw [this]; rfl
theorem sum_ones : ∀ cs : List Nat, ((cs.map fun c => S [c]).map (·.length)).sum = cs.length
  | [] => rfl
  | c :: cs => by
    rw [List.map_cons, List.map_cons, List.sum_cons, sum_ones cs, List.length_cons]
    show 1 + _ = _
    omega
theorem intsD_map : ∀ bs : List Int, intsD (bs.map PyData.int) = some bs
  | [] => rfl
  | b :: bs => by show (intsD (bs.map PyData.int)).map (b :: ·) = _; rw [intsD_map bs]; rfl
theorem sp_digits {Q : D → Prop} (h : ∀ bs : List Int, Q (.list (bs.map PyData.int))) : digitsW [scD, .int 0, .int 60] Q := by
  unfold digitsW
  rw [x_fnW]
  walk_at "wx"
  refine ⟨Nat.zero_le _, ⟨by decide, by decide, by decide, by decide⟩, ?_⟩
  refine for_inv (fun ds ρ => ∃ (bs : List Int) (a4 a5 a6 a7 : Option Sl), bs.length + 60 * ds.length ≤ 3600 ∧ (∀ d ∈ ds, d ∈ rangeD ((0 : Nat) : Int) 60) ∧ ρ = [some (.dat scD), some (.dat (.int 0)), some (.dat (.int 60)), some (.own (bs.map PyData.int)), a4, a5, a6, a7]) ?_ ?_ _ _ ⟨[], none, none, none, none, by decide, fun d hd => hd, rfl⟩
  · rintro d r ρ ⟨bs, a4, a5, a6, a7, hl, hr, rfl⟩ P' hn _ _ _
    obtain ⟨i, rfl, i0, i1⟩ := mem_rangeD (hr _ List.mem_cons_self)
    rw [List.length_cons] at hl
    refine ⟨_, rfl, ?_⟩
    walk_at "wx"
    refine ⟨rfl, by omega, fun z => ?_⟩
    have again : ∀ (bs2 : List Int) (b4 b5 b6 b7 : Option Sl), bs2.length ≤ bs.length + 60 → P'.nx [some (.dat scD), some (.dat (.int 0)), some (.dat (.int 60)), some (.own (bs2.map PyData.int)), b4, b5, b6, b7] := fun bs2 b4 b5 b6 b7 hb =>
      hn _ ⟨bs2, b4, b5, b6, b7, by omega, fun d hd => hr d (List.mem_cons_of_mem _ hd), rfl⟩
    have big : ∀ (z : Int) (b6 b7 : Option Sl), forD [6] uName (wIfS (bW (wOp oGt (wVar 5) (wC (.int 0)))) (wSeq (wApp 3 (wOp oMod (wCall (on1 oInt) (wCons (wVar 5) wNil)) (wC (.int 1000)))) (wAsg 5 (wOp oDiv (wVar 5) (wC (.int 1000))))) wNext) (rangeD 0 (Int.toNat 60))
        [some (.dat scD), some (.dat (.int 0)), some (.dat (.int 60)), some (.own (bs.map PyData.int)), some (.dat (.int (i : Nat))), some (.dat (.int z)), b6, b7] P' := by
      intro z b6 b7
      refine for_inv (fun ds ρ => ∃ (bs2 : List Int) (z : Int) (b6 b7 : Option Sl), bs2.length + ds.length ≤ bs.length + 60 ∧ ρ = [some (.dat scD), some (.dat (.int 0)), some (.dat (.int 60)), some (.own (bs2.map PyData.int)), some (.dat (.int (i : Nat))), some (.dat (.int z)), b6, b7]) ?_ ?_ _ _ ⟨bs, z, b6, b7, Nat.le_refl _, rfl⟩
      · rintro d r2 ρ ⟨bs2, z, b6, b7, hb, rfl⟩ P2 hn2 _ _ _
        rw [List.length_cons] at hb
        refine ⟨_, rfl, ?_⟩
        walk_at "wx"
        split
        · have em : bs2.map PyData.int ++ [PyData.int (z % 1000)] = (bs2 ++ [z % 1000]).map PyData.int := by rw [List.map_append]; rfl
          rw [em]
          exact ⟨by decide, by rw [List.length_map, sizeLine_eq]; omega, ⟨by decide, by decide⟩, hn2 _ ⟨bs2 ++ [z % 1000], z / 1000, _, _, by rw [List.length_append, List.length_singleton]; omega, rfl⟩⟩
        · exact hn2 _ ⟨bs2, z, _, _, by omega, rfl⟩
      · rintro ρ ⟨bs2, z, b6, b7, hb, rfl⟩
        exact again _ _ _ _ _ (by simpa using hb)
    have small : ∀ (z y : Int) (b6 : Option Sl), forD [6] uName (wSeq (wAsg 7 (wOp oMod (wCall (on1 oInt) (wCons (wOp oAdd (wOp oAdd (wOp oMul (wVar 7) (wC (.int 16807))) (wOp oMul (wC (.int 7)) (wVar 6))) (wC (.int 1))) wNil)) (wC (.int 2147483647)))) (wApp 3 (wOp oMod (wCall (on1 oInt) (wCons (wOp oDiv (wVar 7) (wC (.int 997))) wNil)) (wC (.int 1000))))) (rangeD 0 (Int.toNat 12))
        [some (.dat scD), some (.dat (.int 0)), some (.dat (.int 60)), some (.own (bs.map PyData.int)), some (.dat (.int (i : Nat))), some (.dat (.int z)), b6, some (.dat (.int y))] P' := by
      intro z y b6
      refine for_inv (fun ds ρ => ∃ (bs2 : List Int) (y : Int) (b6 : Option Sl), bs2.length + ds.length ≤ bs.length + 12 ∧ (∀ d ∈ ds, d ∈ rangeD ((0 : Nat) : Int) 12) ∧ ρ = [some (.dat scD), some (.dat (.int 0)), some (.dat (.int 60)), some (.own (bs2.map PyData.int)), some (.dat (.int (i : Nat))), some (.dat (.int z)), b6, some (.dat (.int y))]) ?_ ?_ _ _ ⟨bs, y, b6, Nat.le_refl _, fun d hd => hd, rfl⟩
      · rintro d r2 ρ ⟨bs2, y, b6, hb, hr2, rfl⟩ P2 hn2 _ _ _
        obtain ⟨k, rfl, k0, k1⟩ := mem_rangeD (hr2 _ List.mem_cons_self)
        rw [List.length_cons] at hb
        refine ⟨_, rfl, ?_⟩
        walk_at "wx"
        have em : ∀ v : Int, bs2.map PyData.int ++ [PyData.int v] = (bs2 ++ [v]).map PyData.int := fun v => by rw [List.map_append]; rfl
        rw [em]
        exact ⟨.inr ⟨by decide, by decide⟩, .inl ⟨by decide, by decide⟩, by decide, ⟨by decide, by decide⟩, by decide, by rw [List.length_map, sizeLine_eq]; omega, hn2 _ ⟨bs2 ++ [_], _, _, by rw [List.length_append, List.length_singleton]; omega, fun d hd => hr2 d (List.mem_cons_of_mem _ hd), rfl⟩⟩
      · rintro ρ ⟨bs2, y, b6, hb, _, rfl⟩
        exact again _ _ _ _ _ (by have : bs2.length + 0 ≤ bs.length + 12 := hb; omega)
    walk_at "wx"
    split
    · refine ⟨.inl ⟨by decide, by decide⟩, ⟨by decide, by decide, by decide⟩, ?_⟩
      split
      · exact ⟨⟨by decide, by decide⟩, big _ _ _⟩
      · exact ⟨.inr ⟨by decide, by decide⟩, .inr ⟨by decide, by decide⟩, by decide, ⟨by decide, by decide⟩, small _ _ _⟩
    · refine ⟨⟨by decide, by decide, by decide⟩, ?_⟩
      split
      · exact ⟨⟨by decide, by decide⟩, big _ _ _⟩
      · exact ⟨.inr ⟨by decide, by decide⟩, .inr ⟨by decide, by decide⟩, by decide, ⟨by decide, by decide⟩, small _ _ _⟩
  · rintro ρ ⟨bs, a4, a5, a6, a7, hl, hr, rfl⟩
    walk_at "wx"
    exact h bs
end Wy

set_option Elab.async false
set_option linter.all false
set_option maxRecDepth 100000
set_option maxHeartbeats 2000000
/-! M2: texts cut at one sign; a text in a list or a tuple of texts. -/
namespace Wy
open PySem L2
open SX (S S_len S_cat S_inj in_one int_S num_S)
/-! ### cut at c -/
def cut1 (c : Nat) : List Nat → List (List Nat)
  | [] => [[]]
  | x :: r => if x = c then [] :: cut1 c r else match cut1 c r with
    | [] => [[x]]
    | w :: ws => (x :: w) :: ws
theorem cut1_ne (c : Nat) : ∀ l, cut1 c l ≠ []
  | [] => by simp [cut1]
  | x :: r => by
    unfold cut1
    split
    · simp
    · split <;> simp
theorem cut1_ex (c : Nat) (l : List Nat) : ∃ w ws, cut1 c l = w :: ws := by
  cases e : cut1 c l with
  | nil => exact absurd e (cut1_ne c l)
  | cons w ws => exact ⟨w, ws, rfl⟩
theorem cut1_hit (c : Nat) (r : List Nat) : cut1 c (c :: r) = [] :: cut1 c r := if_pos rfl
theorem spl_cut (c : Nat) : ∀ (l acc w : List Nat) (ws : List (List Nat)), cut1 c l = w :: ws → TL.spl [c] 0 acc l = (acc ++ w) :: ws
  | [], acc, w, ws, h => by
    cases h
    rw [TL.spl_nil, List.append_nil]
  | x :: r, acc, w, ws, h => by
    obtain ⟨v, vs, e⟩ := cut1_ex c r
    unfold cut1 at h
    by_cases hx : x = c
    · rw [if_pos hx] at h
      have h1 : ([] : List Nat) = w := (List.cons.inj h).1
      have h2 : cut1 c r = ws := (List.cons.inj h).2
      rw [← h1, ← h2, hx, TL.spl_hit (by simp [TL.pre]), List.append_nil]
      congr 1
      rw [e]
      exact spl_cut c r [] v vs e
    · rw [if_neg hx, e] at h
      cases h
      rw [TL.spl_miss (by simp [TL.pre]; exact hx), spl_cut c r _ v _ e, List.append_assoc]
      rfl
theorem split_cut {c : Nat} (hc : c < 256) (l : List Nat) : Txt.split (S l) (S [c]) = (cut1 c l).map S := by
  rw [SX.split_S (by simp) (by simp [hc])]
  obtain ⟨w, ws, e⟩ := cut1_ex c l
  rw [spl_cut c l [] w ws e, e]
  rfl
theorem cut1_join (c : Nat) : ∀ l : List Nat, TL.joinL [c] (cut1 c l) = l
  | [] => rfl
  | x :: r => by
    have ih := cut1_join c r
    obtain ⟨v, vs, e⟩ := cut1_ex c r
    unfold cut1
    by_cases hx : x = c
    · rw [if_pos hx, e]
      rw [e] at ih
      show [] ++ [c] ++ TL.joinL [c] (v :: vs) = _
      rw [ih, hx]
      rfl
    · rw [if_neg hx, e]
      rw [e] at ih
      show TL.joinL [c] ((x :: v) :: vs) = _
      cases vs with
      | nil =>
        show x :: v = _
        have : v = r := ih
        rw [this]
      | cons u us =>
        show (x :: v) ++ ([c] ++ TL.joinL [c] (u :: us)) = _
        have : v ++ ([c] ++ TL.joinL [c] (u :: us)) = r := ih
        rw [← this]
        rfl
theorem cut1_free {c : Nat} : ∀ {a : List Nat}, c ∉ a → cut1 c a = [a]
  | [], _ => rfl
  | x :: r, h => by
    unfold cut1
    rw [if_neg (fun z => h (by rw [z]; exact List.mem_cons_self)), cut1_free fun z => h (List.mem_cons_of_mem _ z)]
theorem cut1_app {c : Nat} : ∀ {a : List Nat} (r : List Nat), c ∉ a → cut1 c (a ++ c :: r) = a :: cut1 c r
  | [], r, _ => by
    exact cut1_hit c r
  | x :: a, r, h => by
    show cut1 c (x :: (a ++ c :: r)) = _
    rw [cut1, if_neg (fun z => h (by rw [z]; exact List.mem_cons_self)), cut1_app r fun z => h (List.mem_cons_of_mem _ z)]
theorem cut1_join' {c : Nat} : ∀ {ws : List (List Nat)}, ws ≠ [] → (∀ w ∈ ws, c ∉ w) → cut1 c (TL.joinL [c] ws) = ws
  | [], h, _ => absurd rfl h
  | [w], _, h => cut1_free (h w (by simp))
  | w :: v :: vs, _, h => by
    show cut1 c (w ++ c :: TL.joinL [c] (v :: vs)) = _
    rw [cut1_app _ (h w (by simp)), cut1_join' (by simp) fun x hx => h x (List.mem_cons_of_mem _ hx)]
theorem cut1_mem {c : Nat} : ∀ {l w : List Nat}, w ∈ cut1 c l → w.length ≤ l.length ∧ c ∉ w ∧ ∀ x ∈ w, x ∈ l
  | [], w, h => by
    rw [show cut1 c [] = [[]] from rfl, List.mem_singleton] at h
    subst h
    exact ⟨Nat.le_refl _, by simp, by simp⟩
  | x :: r, w, h => by
    obtain ⟨v, vs, e⟩ := cut1_ex c r
    unfold cut1 at h
    have ih : ∀ u ∈ v :: vs, u.length ≤ r.length ∧ c ∉ u ∧ ∀ y ∈ u, y ∈ r := fun u hu => cut1_mem (by rw [e]; exact hu)
    by_cases hx : x = c
    · rw [if_pos hx, e] at h
      rcases List.mem_cons.mp h with rfl | h
      · exact ⟨Nat.zero_le _, by simp, by simp⟩
      · obtain ⟨h1, h2, h3⟩ := ih w h
        exact ⟨by rw [List.length_cons]; omega, h2, fun y hy => List.mem_cons_of_mem _ (h3 y hy)⟩
    · rw [if_neg hx, e] at h
      rcases List.mem_cons.mp h with rfl | h
      · obtain ⟨h1, h2, h3⟩ := ih v (by simp)
        refine ⟨by rw [List.length_cons, List.length_cons]; omega, fun z => ?_, fun y hy => ?_⟩
        · rcases List.mem_cons.mp z with z | z
          · exact hx z.symm
          · exact h2 z
        · rcases List.mem_cons.mp hy with rfl | hy
          · exact List.mem_cons_self
          · exact List.mem_cons_of_mem _ (h3 y hy)
      · obtain ⟨h1, h2, h3⟩ := ih w (List.mem_cons_of_mem _ h)
        exact ⟨by rw [List.length_cons]; omega, h2, fun y hy => List.mem_cons_of_mem _ (h3 y hy)⟩
theorem cut1_len (c : Nat) : ∀ l : List Nat, (cut1 c l).length ≤ l.length + 1
  | [] => Nat.le_refl _
  | x :: r => by
    have ih := cut1_len c r
    obtain ⟨v, vs, e⟩ := cut1_ex c r
    rw [e] at ih
    unfold cut1
    rw [e]
    split <;> simp only [List.length_cons] at ih ⊢ <;> omega
/-! ### joined -/
theorem joinL_cons2 (s w v : List Nat) (vs : List (List Nat)) : TL.joinL s (w :: v :: vs) = w ++ s ++ TL.joinL s (v :: vs) := by rw [List.append_assoc]; rfl
theorem joinL_len (s : List Nat) : ∀ ws : List (List Nat), (TL.joinL s ws).length ≤ (ws.map List.length).sum + ws.length * s.length
  | [] => Nat.zero_le _
  | [w] => by show w.length ≤ _; simp only [List.map_cons, List.map_nil, List.sum_cons, List.sum_nil, List.length_cons, List.length_nil]; omega
  | w :: v :: vs => by
    have ih := joinL_len s (v :: vs)
    rw [joinL_cons2, List.length_append, List.length_append, List.map_cons, List.sum_cons, List.length_cons, Nat.add_mul, Nat.one_mul]
    omega
theorem joinL_mem {s : List Nat} {x : Nat} : ∀ {ws : List (List Nat)}, x ∈ TL.joinL s ws → x ∈ s ∨ ∃ w ∈ ws, x ∈ w
  | [], h => by cases h
  | [w], h => Or.inr ⟨w, by simp, h⟩
  | w :: v :: vs, h => by
    rw [joinL_cons2, List.mem_append, List.mem_append] at h
    rcases h with (h | h) | h
    · exact Or.inr ⟨w, by simp, h⟩
    · exact Or.inl h
    · rcases joinL_mem h with h | ⟨u, hu, h⟩
      · exact Or.inl h
      · exact Or.inr ⟨u, List.mem_cons_of_mem _ hu, h⟩
/-! ### a text among texts -/
def dS (l : List Nat) : D := .str (S l)
theorem eqv_dS (a b : List Nat) : PyData.eqv (dS a) (dS b) = decide (a = b) := by
  unfold dS
  rw [show PyData.eqv (.str (S a)) (.str (S b)) = (S a == S b) by rw [PyData.eqv], S_dec]
theorem any_dS (k : List Nat) : ∀ ls : List (List Nat), ((ls.map dS).any fun z => PyData.eqv z (dS k)) = decide (k ∈ ls)
  | [] => rfl
  | a :: ls => by
    rw [List.map_cons, List.any_cons, any_dS k ls, eqv_dS]
    by_cases h : k = a
    · simp [h]
    · simp [h, Ne.symm h]
theorem o_inT {k : List Nat} {ls : List (List Nat)} {Q : D → Prop} : oInB false (dS k) (.tuple (ls.map dS)) Q = Q (.bool (decide (k ∈ ls))) := by
  show (flatD (dS k) = true ∧ (ls.map dS).all flatD = true ∧ Q (.bool (if false = true then _ else _))) = _
  rw [if_neg (by decide), any_dS]
  refine propext ⟨fun h => h.2.2, fun h => ⟨rfl, List.all_eq_true.mpr fun d hd => ?_, h⟩⟩
  obtain ⟨a, _, rfl⟩ := List.mem_map.mp hd
  rfl
theorem flatOk_dS {l : List Nat} (h : ∀ c ∈ l, c < 0x110000) : flatOk (dS l) := strOk_S h
theorem shaped_dS {l : List Nat} (h : ∀ c ∈ l, c < 0x110000) : SeqAt.shaped (dS l) = true := by
  unfold SeqAt.shaped dS
  rw [PyData.canLay0, PyData.depth, strOk_S h]
  rfl
theorem o_inL {k : List Nat} {ls : List (List Nat)} {Q : D → Prop} (hk : ∀ c ∈ k, c < 0x110000) (hl : ∀ l ∈ ls, ∀ c ∈ l, c < 0x110000) : oInB false (dS k) (.list (ls.map dS)) Q = Q (.bool (decide (k ∈ ls))) := by
  show (SeqAt.shaped (dS k) = true ∧ SeqAt.shaped (.list (ls.map dS)) = true ∧ Q (.bool (if false = true then _ else _))) = _
  rw [if_neg (by decide), any_dS]
  refine propext ⟨fun h => h.2.2, fun h => ⟨shaped_dS hk, shaped_flats fun d hd => ?_, h⟩⟩
  obtain ⟨a, ha, rfl⟩ := List.mem_map.mp hd
  exact flatOk_dS (hl a ha)
theorem shaped_flatsT {ds : List D} (h : ∀ d ∈ ds, flatOk d) : SeqAt.shaped (.tuple ds) = true := by
  unfold SeqAt.shaped
  rw [PyData.canLay0, PyData.depth, (flats_lay h).1, (flats_lay h).2]
  rfl
/-! ### more -/
/-- [f(a) for g(a) in ..] -/
theorem lc_map {α : Type} {δ : DE} {k : Nat} {we : EW} {Q : List D → Prop} (g f : α → D) : ∀ (l : List α) (acc : List D), (∀ a ∈ l, ∀ R : D → Prop, R (f a) → we (putD δ [k] [g a]) R) → acc.length + l.length ≤ 16777216 → Q (acc ++ l.map f) → lcN δ [k] uName wYes we (l.map g) acc Q
  | [], acc, _, _, h => by rw [List.map_nil, List.append_nil] at h; exact h
  | a :: l, acc, hs, hl, h => by
    rw [List.length_cons] at hl
    refine ⟨[g a], rfl, ?_⟩
    show we (putD δ [k] [g a]) fun y => acc.length < sizeLine ∧ lcN δ [k] uName wYes we (l.map g) (acc ++ [y]) Q
    refine hs a List.mem_cons_self _ ⟨by rw [sizeLine_eq]; omega, lc_map g f l _ (fun x hx => hs x (List.mem_cons_of_mem _ hx)) (by rw [List.length_append, List.length_singleton]; omega) ?_⟩
    rw [List.append_assoc]
    exact h
/-- texts and numbers that the comparison may take -/
theorem ok_text {n : Nat} {l : List Nat} (h1 : l.length ≤ 1000000) (h2 : ∀ c ∈ l, c < 128) : sameOk (n + 1) (.str (S l)) := by
  have := PySem.StrLaws.reprText_len (S l) fun c hc => Nat.lt_of_lt_of_le (h2 c hc) (by decide)
  show (reprText (S l)).length ≤ sizeLine
  rw [S_len l] at this
  rw [sizeLine_eq]; omega
theorem ok_int {n : Nat} {i : Nat} (h : i < 2 ^ 100) : sameOk (n + 1) (.int (i : Nat)) := by
  show (i : Int).natAbs.log2 < 1920
  exact Nat.lt_trans (log2_of_lt (k := 100) (by decide) h) (by decide)
theorem ok_tup {n : Nat} {ds : List D} (h1 : ds.length < 2 ^ 62) (h2 : ∀ d ∈ ds, sameOk n d) : sameOk (n + 1) (.tuple ds) := ⟨h1, h2⟩
theorem ok_lst {n : Nat} {ds : List D} (h1 : ds.length < 2 ^ 62) (h2 : ∀ d ∈ ds, sameOk n d) : sameOk (n + 1) (.list ds) := ⟨h1, h2⟩
theorem sameOk_mono : ∀ (n : Nat) (d : D), sameOk n d → sameOk (n + 1) d
  | 0, _, h => h.elim
  | n + 1, .none, _ => trivial
  | n + 1, .bool _, _ => trivial
  | n + 1, .int _, h => h
  | n + 1, .str _, h => h
  | n + 1, .tuple _, h => ⟨h.1, fun d hd => sameOk_mono n d (h.2 d hd)⟩
  | n + 1, .list _, h => ⟨h.1, fun d hd => sameOk_mono n d (h.2 d hd)⟩
  | n + 1, .dict _, h => h.elim
theorem sameOk_le {n m : Nat} (h : n ≤ m) {d : D} (q : sameOk n d) : sameOk m d := by
  induction h with
  | refl => exact q
  | step _ ih => exact sameOk_mono _ d ih
/-- data of bounded depth that == may take -/
def layOk (k : Nat) (d : D) : Prop := d.canLay0 = true ∧ d.depth ≤ k
theorem layOk_shaped {k : Nat} {d : D} (h : layOk k d) (hk : k ≤ 64) : SeqAt.shaped d = true := by
  unfold SeqAt.shaped
  rw [h.1, Bool.true_and]
  exact decide_eq_true (Nat.le_trans h.2 hk)
theorem layAll {k : Nat} : ∀ {ds : List D}, (∀ d ∈ ds, layOk k d) → PyData.canLayAll0 ds = true ∧ PyData.depthAll ds ≤ k
  | [], _ => ⟨by rw [PyData.canLayAll0], by rw [PyData.depthAll]; exact Nat.zero_le _⟩
  | d :: ds, h => by
    have h1 := h d List.mem_cons_self
    have h2 := layAll (ds := ds) fun x hx => h x (List.mem_cons_of_mem _ hx)
    rw [PyData.canLayAll0, PyData.depthAll, h2.1, h1.1]
    exact ⟨rfl, Nat.max_le.mpr ⟨h1.2, h2.2⟩⟩
theorem layOk_tup {k : Nat} {ds : List D} (h : ∀ d ∈ ds, layOk k d) : layOk (k + 1) (.tuple ds) := by
  have := layAll h
  refine ⟨by rw [PyData.canLay0]; exact this.1, by rw [PyData.depth]; omega⟩
theorem layOk_lst {k : Nat} {ds : List D} (h : ∀ d ∈ ds, layOk k d) : layOk (k + 1) (.list ds) := by
  have := layAll h
  refine ⟨by rw [PyData.canLay0]; exact this.1, by rw [PyData.depth]; omega⟩
theorem layOk_none {k : Nat} : layOk k .none := ⟨by rw [PyData.canLay0], by rw [PyData.depth]; exact Nat.zero_le _⟩
theorem layOk_int {k : Nat} {i : Int} : layOk k (.int i) := ⟨by rw [PyData.canLay0], by rw [PyData.depth]; exact Nat.zero_le _⟩
theorem layOk_bool {k : Nat} {b : Bool} : layOk k (.bool b) := ⟨by rw [PyData.canLay0], by rw [PyData.depth]; exact Nat.zero_le _⟩
theorem layOk_str {k : Nat} {l : List Nat} (h : ∀ c ∈ l, c < 128) : layOk k (.str (S l)) := ⟨by rw [PyData.canLay0]; exact strOk_S fun c hc => Nat.lt_of_lt_of_le (h c hc) (by decide), by rw [PyData.depth]; exact Nat.zero_le _⟩
theorem o_eqLay {x y : D} {k : Nat} {Q : D → Prop} (hk : k ≤ 64) (hx : layOk k x) (hy : layOk k y) (h : Q (.bool (PyData.eqv x y))) : oEq x y Q := ⟨Or.inr ⟨layOk_shaped hx hk, layOk_shaped hy hk⟩, h⟩
theorem o_neLay {x y : D} {k : Nat} {Q : D → Prop} (hk : k ≤ 64) (hx : layOk k x) (hy : layOk k y) (h : Q (.bool (!PyData.eqv x y))) : oNe x y Q := ⟨Or.inr ⟨layOk_shaped hx hk, layOk_shaped hy hk⟩, h⟩
theorem eqv_self {x : D} {k : Nat} (hx : layOk k x) : PyData.eqv x x = true := SeqAt.eqv_refl x hx.1
end Wy

set_option Elab.async false
set_option linter.all false
set_option maxRecDepth 100000
set_option maxHeartbeats 4000000
/-! k97_orders_read_and_written: the defs by their data, printed by gen.py. -/
namespace G_k97_orders_read_and_written
open PySem L2 Wy
def w_is_word : OL := fnW 2 (wRet (wAndV (wChain oLe oLe (wC (.int 1)) (wCall (on1 oLen) (wCons (wVar 0) wNil)) (wC (.int 8))) (wCall (on1 oAll) (wCons (wLc (wIter (wVar 0)) [1] uName wYes (wOp (oInB false) (wVar 1) (wC (.str ("abcdefghijklmnopqrstuvwxyz" : Str) : D))) [1]) wNil))))
def w_number_of : OL := fnW 2 (wSeq (wIfS (wOr (wNot (bW (wChain oLe oLe (wC (.int 1)) (wCall (on1 oLen) (wCons (wVar 0) wNil)) (wC (.int 4))))) (wNot (wTru (wCall (on1 oAll) (wCons (wLc (wIter (wVar 0)) [1] uName wYes (wOp (oInB false) (wVar 1) (wC (.str ("0123456789" : Str)))) [1]) wNil))))) (wRet (wC .none)) wNext)
  (wSeq (wIfS (wAnd (bW (wOp oGt (wCall (on1 oLen) (wCons (wVar 0) wNil)) (wC (.int 1)))) (bW (wOp oEq (wOp oIx (wVar 0) (wC (.int 0))) (wC (.str ("0" : Str)))))) (wRet (wC .none)) wNext)
  (wRet (wCall (on1 oInt) (wCons (wVar 0) wNil)))))
def w_read_order : OL := fnW 3 (wSeq (wAsg 1 (wM1 fSplit (wVar 0) (wC (.str (" " : Str)))))
  (wSeq (wIfS (wAnd (bW (wOp oEq (wCall (on1 oLen) (wCons (wVar 1) wNil)) (wC (.int 1)))) (bW (wOp (oInB false) (wOp oIx (wVar 1) (wC (.int 0))) (wC (.tuple [.str ("books" : Str), .str ("begin" : Str), .str ("end" : Str), .str ("drop" : Str)] : D))))) (wRet (wTup (wCons (wOp oIx (wVar 1) (wC (.int 0))) wNil))) wNext)
  (wSeq (wIfS (wOr (bW (wOp oLt (wCall (on1 oLen) (wCons (wVar 1) wNil)) (wC (.int 2)))) (wNot (wTru (wFn 1 w_is_word (wCons (wOp oIx (wVar 1) (wC (.int 1))) wNil))))) (wRet (wC .none)) wNext)
  (wSeq (wAsg 2 (wOp oIx (wVar 1) (wC (.int 0))))
  (wSeq (wIfS (wAnd (bW (wOp oEq (wCall (on1 oLen) (wCons (wVar 1) wNil)) (wC (.int 2)))) (bW (wOp (oInB false) (wVar 2) (wTup (wCons (wC (.str ("book" : Str))) (wCons (wC (.str ("forget" : Str))) (wCons (wC (.str ("undo" : Str))) wNil))))))) (wRet (wTup (wCons (wVar 2) (wCons (wOp oIx (wVar 1) (wC (.int 1))) wNil)))) wNext)
  (wSeq (wIfS (wAnd (bW (wOp oEq (wVar 2) (wC (.str ("add" : Str))))) (bW (wOp oGt (wCall (on1 oLen) (wCons (wVar 1) wNil)) (wC (.int 2))))) (wRet (wTup (wCons (wC (.str ("add" : Str))) (wCons (wOp oIx (wVar 1) (wC (.int 1))) (wCons (wM1 fJoin (wC (.str (" " : Str))) (wSl (wVar 1) (wPart (wC (.int 2))) wNo)) wNil))))) wNext)
  (wSeq (wIfS (wAnd (bW (wOp oEq (wCall (on1 oLen) (wCons (wVar 1) wNil)) (wC (.int 3)))) (wAnd (bW (wOp oEq (wVar 2) (wC (.str ("take" : Str))))) (bW (wOp oNotN (wFn 1 w_number_of (wCons (wOp oIx (wVar 1) (wC (.int 2))) wNil)) (wC .none))))) (wRet (wTup (wCons (wC (.str ("take" : Str))) (wCons (wOp oIx (wVar 1) (wC (.int 1))) (wCons (wFn 1 w_number_of (wCons (wOp oIx (wVar 1) (wC (.int 2))) wNil)) wNil))))) wNext)
  (wSeq (wIfS (wAnd (bW (wOp oEq (wCall (on1 oLen) (wCons (wVar 1) wNil)) (wC (.int 3)))) (wAnd (bW (wOp oEq (wVar 2) (wC (.str ("ask" : Str))))) (bW (wOp (oInB false) (wOp oIx (wVar 1) (wC (.int 2))) (wC (.tuple [.str ("text" : Str), .str ("rules" : Str), .str ("stable" : Str), .str ("shown" : Str), .str ("best" : Str), .str ("surely" : Str), .str ("size" : Str), .str ("paper" : Str), .str ("simple" : Str)] : D)))))) (wRet (wTup (wCons (wC (.str ("ask" : Str))) (wCons (wOp oIx (wVar 1) (wC (.int 1))) (wCons (wOp oIx (wVar 1) (wC (.int 2))) wNil))))) wNext)
  (wSeq (wIfS (wAnd (bW (wOp oEq (wCall (on1 oLen) (wCons (wVar 1) wNil)) (wC (.int 3)))) (wAnd (bW (wOp (oInB false) (wVar 2) (wTup (wCons (wC (.str ("copy" : Str))) (wCons (wC (.str ("alike" : Str))) wNil))))) (wTru (wFn 1 w_is_word (wCons (wOp oIx (wVar 1) (wC (.int 2))) wNil))))) (wRet (wTup (wCons (wVar 2) (wCons (wOp oIx (wVar 1) (wC (.int 1))) (wCons (wOp oIx (wVar 1) (wC (.int 2))) wNil))))) wNext)
  (wSeq (wIfS (wAnd (bW (wOp oEq (wCall (on1 oLen) (wCons (wVar 1) wNil)) (wC (.int 3)))) (bW (wOp oEq (wVar 2) (wC (.str ("tell" : Str)))))) (wRet (wIf (bW (wOp oNe (wOp oIx (wVar 1) (wC (.int 2))) (wC (.str ("" : Str))))) (wTup (wCons (wC (.str ("tell" : Str))) (wCons (wOp oIx (wVar 1) (wC (.int 1))) (wCons (wOp oIx (wVar 1) (wC (.int 2))) wNil)))) (wC .none))) wNext)
  (wRet (wC .none))))))))))))
def w_read_orders : OLX := fnWX 5 (wxSeq (wLs (wOwn 1 (fun δ Q => wNil δ fun xs => xs.length ≤ sizeLine ∧ Q xs)))
  (wxSeq (wLs (wIfS (bW (wOp oEq (wVar 0) (wC (.str ("" : Str))))) (wRet (wVar 1)) wNext))
  (wxSeq (wxFor (wEnum (wM1 fSplit (wVar 0) (wC (.str ("\n" : Str))))) [2, 3] (uTup 2) (wxSeq (wLs (wAsg 4 (wFn 1 w_read_order (wCons (wVar 3) wNil))))
  (wxSeq (wxIf (bW (wOp oIsN (wVar 4) (wC .none))) (wxRaise "BadOrder" "line" ("line " : Str) (wOp oAdd (wVar 2) (wC (.int 1)))) (wLs wNext))
  (wLs (wApp 1 (wVar 4))))))
  (wLs (wRet (wVar 1))))))
def w_write_order : OL := fnW 2 (wRet (wM1 fJoin (wC (.str (" " : Str))) (wLc (wIter (wVar 0)) [1] uName wYes (wCall (on1 oStr) (wCons (wVar 1) wNil)) [1])))
def w_write_orders : OL := fnW 2 (wRet (wM1 fJoin (wC (.str ("\n" : Str))) (wLc (wIter (wVar 0)) [1] uName wYes (wFn 1 w_write_order (wCons (wVar 1) wNil)) [1])))
abbrev w__law_cell : OL := cellW
def w__law_digits : OL := fnW 8 (wSeq (wOwn 3 (fun δ Q => wNil δ fun xs => xs.length ≤ sizeLine ∧ Q xs))
  (wSeq (wFor (wRng2 (wVar 1) (wVar 2)) [4] uName (wSeq (wAsg 5 (wFn 2 w__law_cell (wCons (wVar 0) (wCons (wVar 4) wNil))))
  (wSeq (wIfS (bW (wOp oLt (wVar 5) (wC (.int 0)))) (wAsg 5 (wOp oSub (wC (.int 1)) (wOp oMul (wC (.int 2)) (wVar 5)))) wNext)
  (wIfS (bW (wOp oGe (wVar 5) (wOp oPow (wC (.int 10)) (wC (.int 18))))) (wFor (wRng1 (wC (.int 60))) [6] uName (wIfS (bW (wOp oGt (wVar 5) (wC (.int 0)))) (wSeq (wApp 3 (wOp oMod (wCall (on1 oInt) (wCons (wVar 5) wNil)) (wC (.int 1000))))
  (wAsg 5 (wOp oDiv (wVar 5) (wC (.int 1000))))) wNext)) (wSeq (wAsg 7 (wOp oMod (wCall (on1 oInt) (wCons (wOp oAdd (wOp oAdd (wOp oMul (wVar 5) (wC (.int 48271))) (wOp oMul (wVar 4) (wC (.int 69621)))) (wC (.int 11))) wNil)) (wC (.int 2147483647))))
  (wFor (wRng1 (wC (.int 12))) [6] uName (wSeq (wAsg 7 (wOp oMod (wCall (on1 oInt) (wCons (wOp oAdd (wOp oAdd (wOp oMul (wVar 7) (wC (.int 16807))) (wOp oMul (wC (.int 7)) (wVar 6))) (wC (.int 1))) wNil)) (wC (.int 2147483647))))
  (wApp 3 (wOp oMod (wCall (on1 oInt) (wCons (wOp oDiv (wVar 7) (wC (.int 997))) wNil)) (wC (.int 1000)))))))))))
  (wRet (wVar 3))))
abbrev w__law_draw : OL := drawW
def w__law_pick : OL := fnW 2 (wRet (wOp oIx (wVar 1) (wOp oMod (wCall (on1 oInt) (wCons (wFn 2 w__law_draw (wCons (wVar 0) (wCons (wC (.int 1000)) wNil))) wNil)) (wCall (on1 oLen) (wCons (wVar 1) wNil)))))
def bb__law_same (r__law_same : OL) : OL := fnW 3 (wSeq (wIfS (bW (wOp oIsN (wVar 1) (wC .none))) (wRet (wOp oIsN (wVar 0) (wC .none))) wNext)
  (wSeq (wIfS (bW (wOp oIsB (wVar 1) (wC (.bool true)))) (wRet (wOp oIsB (wVar 0) (wC (.bool true)))) wNext)
  (wSeq (wIfS (bW (wOp oIsB (wVar 1) (wC (.bool false)))) (wRet (wOp oIsB (wVar 0) (wC (.bool false)))) wNext)
  (wSeq (wIfS (wTru (wUn (oIsi "str") (wVar 1))) (wRet (wAndV (wUn (oIsi "str") (wVar 0)) (wOp oEq (wCall (on1 oRepr) (wCons (wVar 0) wNil)) (wCall (on1 oRepr) (wCons (wVar 1) wNil))))) wNext)
  (wSeq (wIfS (wTru (wUn (oIsi "int") (wVar 1))) (wRet (wAndV (wUn (oIsi "int") (wVar 0)) (wAndV (wNotV (wUn (oIsi "bool") (wVar 0))) (wOp oEq (wCall (on1 oRepr) (wCons (wVar 0) wNil)) (wCall (on1 oRepr) (wCons (wVar 1) wNil)))))) wNext)
  (wSeq (wIfS (wOr (wAnd (wTru (wUn (oIsi "tuple") (wVar 1))) (wNot (wTru (wUn (oIsi "tuple") (wVar 0))))) (wAnd (wTru (wUn (oIsi "list") (wVar 1))) (wNot (wTru (wUn (oIsi "list") (wVar 0)))))) (wRet (wC (.bool false))) wNext)
  (wSeq (wIfS (bW (wOp oNe (wCall (on1 oLen) (wCons (wVar 0) wNil)) (wCall (on1 oLen) (wCons (wVar 1) wNil)))) (wRet (wC (.bool false))) wNext)
  (wSeq (wFor (wRng1 (wCall (on1 oLen) (wCons (wVar 1) wNil))) [2] uName (wIfS (wNot (wTru (wFn 2 r__law_same (wCons (wOp oIx (wVar 0) (wVar 2)) (wCons (wOp oIx (wVar 1) (wVar 2)) wNil))))) (wRet (wC (.bool false))) wNext))
  (wRet (wC (.bool true)))))))))))
def w__law_same : Nat → OL
  | 0 => fun _ _ => False
  | n + 1 => bb__law_same (w__law_same n)
def w__law_is_word : OL := fnW 2 (wRet (wAndV (wChain oLe oLe (wC (.int 1)) (wCall (on1 oLen) (wCons (wVar 0) wNil)) (wC (.int 8))) (wOp oEq (wLc (wIter (wVar 0)) [1] uName (bW (wOp (oInB true) (wVar 1) (wC (.str ("abcdefghijklmnopqrstuvwxyz" : Str))))) (wVar 1) [1]) (wLst wNil))))
def w__law_number : OL := fnW 4 (wSeq (wAsg 1 (wAndV (wChain oLe oLe (wC (.int 1)) (wCall (on1 oLen) (wCons (wVar 0) wNil)) (wC (.int 4))) (wOp oEq (wLc (wIter (wVar 0)) [3] uName (bW (wOp (oInB true) (wVar 3) (wC (.str ("0123456789" : Str))))) (wVar 3) [3]) (wLst wNil))))
  (wSeq (wIfS (wOr (wNot (wTru (wVar 1))) (wAnd (bW (wOp oEq (wOp oIx (wVar 0) (wC (.int 0))) (wC (.str ("0" : Str))))) (bW (wOp oGt (wCall (on1 oLen) (wCons (wVar 0) wNil)) (wC (.int 1)))))) (wRet (wC .none)) wNext)
  (wSeq (wAsg 2 (wC (.int 0)))
  (wSeq (wFor (wIter (wVar 0)) [3] uName (wAsg 2 (wOp oAdd (wOp oMul (wVar 2) (wC (.int 10))) (wM1 oSIndex (wC (.str ("0123456789" : Str))) (wVar 3)))))
  (wRet (wVar 2))))))
def w__law_asked : OL := fnW 0 (wRet (wLst (wCons (wC (.str ("text" : Str))) (wCons (wC (.str ("rules" : Str))) (wCons (wC (.str ("stable" : Str))) (wCons (wC (.str ("shown" : Str))) (wCons (wC (.str ("best" : Str))) (wCons (wC (.str ("surely" : Str))) (wCons (wC (.str ("size" : Str))) (wCons (wC (.str ("paper" : Str))) (wCons (wC (.str ("simple" : Str))) wNil)))))))))))
def w__law_read : OL := fnW 4 (wSeq (wAsg 1 (wM1 fSplit (wVar 0) (wC (.str (" " : Str)))))
  (wSeq (wPar 2 3 (wCons (wOp oIx (wVar 1) (wC (.int 0))) (wCons (wCall (on1 oLen) (wCons (wVar 1) wNil)) wNil)))
  (wSeq (wIfS (bW (wOp oEq (wVar 3) (wC (.int 1)))) (wRet (wIf (bW (wOp (oInB false) (wVar 2) (wLst (wCons (wC (.str ("books" : Str))) (wCons (wC (.str ("begin" : Str))) (wCons (wC (.str ("end" : Str))) (wCons (wC (.str ("drop" : Str))) wNil))))))) (wTup (wCons (wVar 2) wNil)) (wC .none))) wNext)
  (wSeq (wIfS (wNot (wTru (wFn 1 w__law_is_word (wCons (wOp oIx (wVar 1) (wC (.int 1))) wNil)))) (wRet (wC .none)) wNext)
  (wSeq (wIfS (wAnd (bW (wOp oEq (wVar 2) (wC (.str ("add" : Str))))) (bW (wOp oGt (wVar 3) (wC (.int 2))))) (wRet (wTup (wCons (wC (.str ("add" : Str))) (wCons (wOp oIx (wVar 1) (wC (.int 1))) (wCons (wSl (wVar 0) (wPart (wOp oAdd (wCall (on1 oLen) (wCons (wOp oIx (wVar 1) (wC (.int 1))) wNil)) (wC (.int 5)))) wNo) wNil))))) wNext)
  (wSeq (wIfS (wAnd (bW (wOp oEq (wVar 3) (wC (.int 2)))) (bW (wOp (oInB false) (wVar 2) (wLst (wCons (wC (.str ("book" : Str))) (wCons (wC (.str ("forget" : Str))) (wCons (wC (.str ("undo" : Str))) wNil))))))) (wRet (wTup (wCons (wVar 2) (wCons (wOp oIx (wVar 1) (wC (.int 1))) wNil)))) wNext)
  (wSeq (wIfS (bW (wOp oNe (wVar 3) (wC (.int 3)))) (wRet (wC .none)) wNext)
  (wSeq (wIfS (bW (wOp oEq (wVar 2) (wC (.str ("take" : Str))))) (wRet (wIf (bW (wOp oIsN (wFn 1 w__law_number (wCons (wOp oIx (wVar 1) (wC (.int 2))) wNil)) (wC .none))) (wC .none) (wTup (wCons (wC (.str ("take" : Str))) (wCons (wOp oIx (wVar 1) (wC (.int 1))) (wCons (wFn 1 w__law_number (wCons (wOp oIx (wVar 1) (wC (.int 2))) wNil)) wNil)))))) wNext)
  (wSeq (wIfS (bW (wOp oEq (wVar 2) (wC (.str ("ask" : Str))))) (wRet (wIf (bW (wOp (oInB false) (wOp oIx (wVar 1) (wC (.int 2))) (wFn 0 w__law_asked wNil))) (wTup (wCons (wC (.str ("ask" : Str))) (wCons (wOp oIx (wVar 1) (wC (.int 1))) (wCons (wOp oIx (wVar 1) (wC (.int 2))) wNil)))) (wC .none))) wNext)
  (wSeq (wIfS (bW (wOp (oInB false) (wVar 2) (wLst (wCons (wC (.str ("copy" : Str))) (wCons (wC (.str ("alike" : Str))) wNil))))) (wRet (wIf (wTru (wFn 1 w__law_is_word (wCons (wOp oIx (wVar 1) (wC (.int 2))) wNil))) (wTup (wCons (wVar 2) (wCons (wOp oIx (wVar 1) (wC (.int 1))) (wCons (wOp oIx (wVar 1) (wC (.int 2))) wNil)))) (wC .none))) wNext)
  (wRet (wIf (wAnd (bW (wOp oEq (wVar 2) (wC (.str ("tell" : Str))))) (bW (wOp oNe (wOp oIx (wVar 1) (wC (.int 2))) (wC (.str ("" : Str)))))) (wTup (wCons (wC (.str ("tell" : Str))) (wCons (wOp oIx (wVar 1) (wC (.int 1))) (wCons (wOp oIx (wVar 1) (wC (.int 2))) wNil)))) (wC .none)))))))))))))
def w__law_word : OL := fnW 2 (wRet (wM1 fJoin (wC (.str ("" : Str))) (wLc (wRng1 (wFn 2 w__law_pick (wCons (wVar 0) (wCons (wLst (wCons (wC (.int 1)) (wCons (wC (.int 2)) (wCons (wC (.int 3)) (wCons (wC (.int 5)) (wCons (wC (.int 8)) wNil)))))) wNil)))) [1] uName wYes (wFn 2 w__law_pick (wCons (wVar 0) (wCons (wC (.str ("abcdefghijklmnopqrstuvwxyz" : Str))) wNil))) [1])))
def w__law_order : OL := fnW 3 (wSeq (wAsg 1 (wFn 1 w__law_word (wCons (wVar 0) wNil)))
  (wSeq (wAsg 2 (wFn 2 w__law_draw (wCons (wVar 0) (wCons (wC (.int 8)) wNil))))
  (wSeq (wIfS (bW (wOp oEq (wVar 2) (wC (.int 0)))) (wRet (wTup (wCons (wFn 2 w__law_pick (wCons (wVar 0) (wCons (wLst (wCons (wC (.str ("books" : Str))) (wCons (wC (.str ("begin" : Str))) (wCons (wC (.str ("end" : Str))) (wCons (wC (.str ("drop" : Str))) wNil))))) wNil))) wNil))) wNext)
  (wSeq (wIfS (bW (wOp oEq (wVar 2) (wC (.int 1)))) (wRet (wTup (wCons (wFn 2 w__law_pick (wCons (wVar 0) (wCons (wLst (wCons (wC (.str ("book" : Str))) (wCons (wC (.str ("forget" : Str))) (wCons (wC (.str ("undo" : Str))) wNil)))) wNil))) (wCons (wVar 1) wNil)))) wNext)
  (wSeq (wIfS (bW (wOp oEq (wVar 2) (wC (.int 2)))) (wRet (wTup (wCons (wC (.str ("take" : Str))) (wCons (wVar 1) (wCons (wFn 2 w__law_pick (wCons (wVar 0) (wCons (wLst (wCons (wC (.int 0)) (wCons (wC (.int 1)) (wCons (wC (.int 10)) (wCons (wC (.int 9999)) (wCons (wC (.int 305)) wNil)))))) wNil))) wNil))))) wNext)
  (wSeq (wIfS (bW (wOp oEq (wVar 2) (wC (.int 3)))) (wRet (wTup (wCons (wC (.str ("ask" : Str))) (wCons (wVar 1) (wCons (wFn 2 w__law_pick (wCons (wVar 0) (wCons (wFn 0 w__law_asked wNil) wNil))) wNil))))) wNext)
  (wSeq (wIfS (bW (wOp oEq (wVar 2) (wC (.int 4)))) (wRet (wTup (wCons (wC (.str ("tell" : Str))) (wCons (wVar 1) (wCons (wFn 2 w__law_pick (wCons (wVar 0) (wCons (wLst (wCons (wC (.str ("a" : Str))) (wCons (wC (.str ("p(1,a)" : Str))) (wCons (wC (.str ("-b" : Str))) (wCons (wC (.str ("#1" : Str))) (wCons (wSl (wC (.str ("x y" : Str))) wNo (wPart (wC (.int 1)))) wNil)))))) wNil))) wNil))))) wNext)
  (wSeq (wIfS (bW (wOp oEq (wVar 2) (wC (.int 5)))) (wRet (wTup (wCons (wFn 2 w__law_pick (wCons (wVar 0) (wCons (wLst (wCons (wC (.str ("copy" : Str))) (wCons (wC (.str ("alike" : Str))) wNil))) wNil))) (wCons (wVar 1) (wCons (wFn 1 w__law_word (wCons (wVar 0) wNil)) wNil))))) wNext)
  (wRet (wTup (wCons (wC (.str ("add" : Str))) (wCons (wVar 1) (wCons (wFn 2 w__law_pick (wCons (wVar 0) (wCons (wLst (wCons (wC (.str ("a." : Str))) (wCons (wC (.str ("a :- not b." : Str))) (wCons (wC (.str (" a." : Str))) (wCons (wC (.str ("a. " : Str))) (wCons (wC (.str ("" : Str))) (wCons (wC (.str (" " : Str))) (wCons (wC (.str ("a  :- b. ask c" : Str))) (wCons (wC (.str ("p(X) :- q(X), X < 3." : Str))) wNil))))))))) wNil))) wNil)))))))))))))
def w__law_bent : OL := fnW 5 (wSeq (wOwn 2 (wSplitN (wVar 1) (wC (.str (" " : Str)))))
  (wSeq (wAsgS 3 (wFn 2 w__law_draw (wCons (wVar 0) (wCons (wCall (on1 oLen) (wCons (wVar 2) wNil)) wNil))))
  (wSeq (wAsg 4 (wFn 2 w__law_draw (wCons (wVar 0) (wCons (wC (.int 8)) wNil))))
  (wSeq (wIfS (bW (wOp oEq (wVar 4) (wC (.int 0)))) (wFrz 2 (wOwn 2 (wCatN (wSl (wVar 2) wNo (wPart (wVar 3))) (wSl (wVar 2) (wPart (wOp oAdd (wVar 3) (wC (.int 1)))) wNo)))) (wIfS (bW (wOp oEq (wVar 4) (wC (.int 1)))) (wFrz 2 (wOwn 2 (wCatN (wOp oAdd (wSl (wVar 2) wNo (wPart (wVar 3))) (wLst (wCons (wOp oIx (wVar 2) (wVar 3)) wNil))) (wSl (wVar 2) (wPart (wVar 3)) wNo)))) (wIfS (bW (wOp oEq (wVar 4) (wC (.int 2)))) (wSetIS 2 (wVar 3) (wFn 2 w__law_pick (wCons (wVar 0) (wCons (wLst (wCons (wC (.str ("" : Str))) (wCons (wOp oAdd (wC (.str ("0" : Str))) (wOp oIx (wVar 2) (wVar 3))) (wCons (wOp oAdd (wC (.str ("-" : Str))) (wOp oIx (wVar 2) (wVar 3))) (wCons (wOp oAdd (wOp oIx (wVar 2) (wVar 3)) (wC (.str ("0" : Str)))) (wCons (wOp oAdd (wOp oIx (wVar 2) (wVar 3)) (wC (.str ("\t" : Str)))) wNil)))))) wNil)))) (wIfS (bW (wOp oEq (wVar 4) (wC (.int 3)))) (wSetI 2 (wVar 3) (wFn 2 w__law_pick (wCons (wVar 0) (wCons (wLst (wCons (wC (.str ("9999" : Str))) (wCons (wC (.str ("10000" : Str))) (wCons (wC (.str ("0" : Str))) (wCons (wC (.str ("01" : Str))) (wCons (wC (.str ("-1" : Str))) (wCons (wC (.str ("00" : Str))) (wCons (wC (.str ("1x" : Str))) wNil)))))))) wNil)))) (wIfS (bW (wOp oEq (wVar 4) (wC (.int 4)))) (wSetI 2 (wVar 3) (wFn 2 w__law_pick (wCons (wVar 0) (wCons (wLst (wCons (wC (.str ("ask" : Str))) (wCons (wC (.str ("add" : Str))) (wCons (wC (.str ("take" : Str))) (wCons (wC (.str ("tell" : Str))) (wCons (wC (.str ("copy" : Str))) (wCons (wC (.str ("alike" : Str))) (wCons (wC (.str ("book" : Str))) (wCons (wC (.str ("books" : Str))) (wCons (wC (.str ("stable" : Str))) (wCons (wC (.str ("text" : Str))) (wCons (wC (.str ("begin" : Str))) wNil)))))))))))) wNil)))) (wIfS (bW (wOp oEq (wVar 4) (wC (.int 5)))) (wSetI 2 (wVar 3) (wFn 2 w__law_pick (wCons (wVar 0) (wCons (wLst (wCons (wC (.str ("abcdefgh" : Str))) (wCons (wC (.str ("abcdefghi" : Str))) (wCons (wC (.str ("aB" : Str))) (wCons (wC (.str ("a1" : Str))) (wCons (wC (.str ("z" : Str))) (wCons (wC (.str ("7" : Str))) wNil))))))) wNil)))) (wIfS (bW (wOp oEq (wVar 4) (wC (.int 6)))) (wIns 2 (wVar 3) (wC (.str ("" : Str)))) (wApp 2 (wFn 2 w__law_pick (wCons (wVar 0) (wCons (wLst (wCons (wC (.str ("1" : Str))) (wCons (wC (.str ("x" : Str))) (wCons (wC (.str ("" : Str))) (wCons (wC (.str ("3" : Str))) wNil))))) wNil)))))))))))
  (wRet (wM1 fJoin (wC (.str (" " : Str))) (wVar 2)))))))
def w__law_text : OL := fun ds Q => match ds with
  | [.str t] => w_read_orders [.str t] (fun d => Q (.tuple [.str ("told" : Str), d])) (fun x => x.1 = ("BadOrder" : Str) ∧ ∃ i : Int, x.2 = [(("line" : Str), (PyData.int i : D))] ∧ Q (.tuple [.str ("wrong" : Str), .int i]))
  | _ => False
def w_law : SW := (wSeq (wAsg 2 (wLc (wRng1 (wOp oAdd (wC (.int 1)) (wFn 2 w__law_draw (wCons (wVar 1) (wCons (wC (.int 8)) wNil))))) [5] uName wYes (wFn 1 w__law_order (wCons (wVar 1) wNil)) [5]))
  (wSeq (wAsg 3 (wLc (wIter (wVar 2)) [12] uName wYes (wM1 fJoin (wC (.str (" " : Str))) (wLc (wIter (wVar 12)) [11] uName wYes (wCall (on1 oStr) (wCons (wVar 11) wNil)) [11])) [12]))
  (wSeq (wFor (wRng1 (wCall (on1 oLen) (wCons (wVar 2) wNil))) [4] uName (wSeq (wIfS (wOr (wNot (wTru (wFn 2 (w__law_same 8) (wCons (wFn 1 w_write_order (wCons (wOp oIx (wVar 2) (wVar 4)) wNil)) (wCons (wOp oIx (wVar 3) (wVar 4)) wNil))))) (wNot (wTru (wFn 2 (w__law_same 8) (wCons (wFn 1 w_read_order (wCons (wOp oIx (wVar 3) (wVar 4)) wNil)) (wCons (wOp oIx (wVar 2) (wVar 4)) wNil)))))) (wRet (wC (.bool false))) wNext)
  (wSeq (wIfS (bW (wOp oNe (wFn 1 w__law_read (wCons (wOp oIx (wVar 3) (wVar 4)) wNil)) (wOp oIx (wVar 2) (wVar 4)))) (wRet (wC (.bool false))) wNext)
  (wFor (wRng1 (wC (.int 3))) [5] uName (wSeq (wAsg 6 (wFn 2 w__law_bent (wCons (wVar 1) (wCons (wOp oIx (wVar 3) (wVar 4)) wNil))))
  (wIfS (wNot (wTru (wFn 2 (w__law_same 8) (wCons (wFn 1 w_read_order (wCons (wVar 6) wNil)) (wCons (wFn 1 w__law_read (wCons (wVar 6) wNil)) wNil))))) (wRet (wC (.bool false))) wNext))))))
  (wSeq (wAsg 7 (wM1 fJoin (wC (.str ("\n" : Str))) (wVar 3)))
  (wSeq (wIfS (wOr (wNot (wTru (wFn 2 (w__law_same 8) (wCons (wFn 1 w_write_orders (wCons (wCall (on1 oListOf) (wCons (wVar 2) wNil)) wNil)) (wCons (wVar 7) wNil))))) (wNot (wTru (wFn 2 (w__law_same 8) (wCons (wFn 1 w__law_text (wCons (wVar 7) wNil)) (wCons (wTup (wCons (wC (.str ("told" : Str))) (wCons (wVar 2) wNil))) wNil)))))) (wRet (wC (.bool false))) wNext)
  (wSeq (wFor (wRng1 (wC (.int 3))) [5] uName (wSeq (wAsg 8 (wLc (wIter (wVar 3)) [13] uName wYes (wIf (bW (wOp oEq (wFn 2 w__law_draw (wCons (wVar 1) (wCons (wC (.int 3)) wNil))) (wC (.int 0)))) (wFn 2 w__law_bent (wCons (wVar 1) (wCons (wVar 13) wNil))) (wVar 13)) [13]))
  (wSeq (wAsg 9 (wLc (wIter (wVar 8)) [13] uName wYes (wFn 1 w__law_read (wCons (wVar 13) wNil)) [13]))
  (wSeq (wAsg 10 (wIf (bW (wOp (oInB false) (wC .none) (wVar 9))) (wTup (wCons (wC (.str ("wrong" : Str))) (wCons (wOp oAdd (wL1 oLIndex (wVar 9) (wC .none)) (wC (.int 1))) wNil))) (wTup (wCons (wC (.str ("told" : Str))) (wCons (wVar 9) wNil)))))
  (wIfS (wAnd (bW (wOp oNe (wVar 8) (wLst (wCons (wC (.str ("" : Str))) wNil)))) (wNot (wTru (wFn 2 (w__law_same 8) (wCons (wFn 1 w__law_text (wCons (wM1 fJoin (wC (.str ("\n" : Str))) (wVar 8)) wNil)) (wCons (wVar 10) wNil)))))) (wRet (wC (.bool false))) wNext)))))
  (wSeq (wIfS (wNot (wTru (wFn 2 (w__law_same 8) (wCons (wFn 1 w__law_text (wCons (wOp oAdd (wVar 7) (wC (.str ("\n" : Str)))) wNil)) (wCons (wTup (wCons (wC (.str ("wrong" : Str))) (wCons (wOp oAdd (wCall (on1 oLen) (wCons (wVar 3) wNil)) (wC (.int 1))) wNil))) wNil))))) (wRet (wC (.bool false))) wNext)
  (wRet (wFn 2 (w__law_same 8) (wCons (wFn 1 w__law_text (wCons (wC (.str ("" : Str))) wNil)) (wCons (wTup (wCons (wC (.str ("told" : Str))) (wCons (wLst wNil) wNil))) wNil)))))))))))
def dig_law : EW := (wFn 3 w__law_digits (wCons (wVar 0) (wCons (wC (.int 0)) (wCons (wC (.int 60)) wNil))))
/-- what is to be shown -/
def LawTrue : Prop := lawW 14 1 dig_law w_law
end G_k97_orders_read_and_written

set_option Elab.async false
set_option linter.all false
set_option maxRecDepth 100000
namespace G_k97_orders_read_and_written
open PySem L2 Wy
open SX (S)
theorem li0 : ("" : Str) = S [] := by decide +kernel
theorem li1 : ("\t" : Str) = S [9] := by decide +kernel
theorem li2 : ("\n" : Str) = S [10] := by decide +kernel
theorem li3 : (" " : Str) = S [32] := by decide +kernel
theorem li4 : ("-" : Str) = S [45] := by decide +kernel
theorem li5 : ("0" : Str) = S [48] := by decide +kernel
theorem li6 : ("1" : Str) = S [49] := by decide +kernel
theorem li7 : ("3" : Str) = S [51] := by decide +kernel
theorem li8 : ("7" : Str) = S [55] := by decide +kernel
theorem li9 : ("a" : Str) = S [97] := by decide +kernel
theorem li10 : ("x" : Str) = S [120] := by decide +kernel
theorem li11 : ("z" : Str) = S [122] := by decide +kernel
theorem li12 : ("#1" : Str) = S [35, 49] := by decide +kernel
theorem li13 : ("-1" : Str) = S [45, 49] := by decide +kernel
theorem li14 : ("-b" : Str) = S [45, 98] := by decide +kernel
theorem li15 : ("00" : Str) = S [48, 48] := by decide +kernel
theorem li16 : ("01" : Str) = S [48, 49] := by decide +kernel
theorem li17 : ("1x" : Str) = S [49, 120] := by decide +kernel
theorem li18 : ("a." : Str) = S [97, 46] := by decide +kernel
theorem li19 : ("a1" : Str) = S [97, 49] := by decide +kernel
theorem li20 : ("aB" : Str) = S [97, 66] := by decide +kernel
theorem li21 : (" a." : Str) = S [32, 97, 46] := by decide +kernel
theorem li22 : ("a. " : Str) = S [97, 46, 32] := by decide +kernel
theorem li23 : ("add" : Str) = S [97, 100, 100] := by decide +kernel
theorem li24 : ("ask" : Str) = S [97, 115, 107] := by decide +kernel
theorem li25 : ("end" : Str) = S [101, 110, 100] := by decide +kernel
theorem li26 : ("x y" : Str) = S [120, 32, 121] := by decide +kernel
theorem li27 : ("9999" : Str) = S [57, 57, 57, 57] := by decide +kernel
theorem li28 : ("best" : Str) = S [98, 101, 115, 116] := by decide +kernel
theorem li29 : ("book" : Str) = S [98, 111, 111, 107] := by decide +kernel
theorem li30 : ("copy" : Str) = S [99, 111, 112, 121] := by decide +kernel
theorem li31 : ("drop" : Str) = S [100, 114, 111, 112] := by decide +kernel
theorem li32 : ("size" : Str) = S [115, 105, 122, 101] := by decide +kernel
theorem li33 : ("take" : Str) = S [116, 97, 107, 101] := by decide +kernel
theorem li34 : ("tell" : Str) = S [116, 101, 108, 108] := by decide +kernel
theorem li35 : ("text" : Str) = S [116, 101, 120, 116] := by decide +kernel
theorem li36 : ("told" : Str) = S [116, 111, 108, 100] := by decide +kernel
theorem li37 : ("undo" : Str) = S [117, 110, 100, 111] := by decide +kernel
theorem li38 : ("10000" : Str) = S [49, 48, 48, 48, 48] := by decide +kernel
theorem li39 : ("alike" : Str) = S [97, 108, 105, 107, 101] := by decide +kernel
theorem li40 : ("begin" : Str) = S [98, 101, 103, 105, 110] := by decide +kernel
theorem li41 : ("books" : Str) = S [98, 111, 111, 107, 115] := by decide +kernel
theorem li42 : ("line " : Str) = S [108, 105, 110, 101, 32] := by decide +kernel
theorem li43 : ("other" : Str) = S [111, 116, 104, 101, 114] := by decide +kernel
theorem li44 : ("paper" : Str) = S [112, 97, 112, 101, 114] := by decide +kernel
theorem li45 : ("rules" : Str) = S [114, 117, 108, 101, 115] := by decide +kernel
theorem li46 : ("shown" : Str) = S [115, 104, 111, 119, 110] := by decide +kernel
theorem li47 : ("wrong" : Str) = S [119, 114, 111, 110, 103] := by decide +kernel
theorem li48 : ("forget" : Str) = S [102, 111, 114, 103, 101, 116] := by decide +kernel
theorem li49 : ("p(1,a)" : Str) = S [112, 40, 49, 44, 97, 41] := by decide +kernel
theorem li50 : ("simple" : Str) = S [115, 105, 109, 112, 108, 101] := by decide +kernel
theorem li51 : ("stable" : Str) = S [115, 116, 97, 98, 108, 101] := by decide +kernel
theorem li52 : ("surely" : Str) = S [115, 117, 114, 101, 108, 121] := by decide +kernel
theorem li53 : ("abcdefgh" : Str) = S [97, 98, 99, 100, 101, 102, 103, 104] := by decide +kernel
theorem li54 : ("abcdefghi" : Str) = S [97, 98, 99, 100, 101, 102, 103, 104, 105] := by decide +kernel
theorem li55 : ("0123456789" : Str) = S [48, 49, 50, 51, 52, 53, 54, 55, 56, 57] := by decide +kernel
theorem li56 : ("a :- not b." : Str) = S [97, 32, 58, 45, 32, 110, 111, 116, 32, 98, 46] := by decide +kernel
theorem li57 : ("a  :- b. ask c" : Str) = S [97, 32, 32, 58, 45, 32, 98, 46, 32, 97, 115, 107, 32, 99] := by decide +kernel
theorem li58 : ("p(X) :- q(X), X < 3." : Str) = S [112, 40, 88, 41, 32, 58, 45, 32, 113, 40, 88, 41, 44, 32, 88, 32, 60, 32, 51, 46] := by decide +kernel
theorem li59 : ("abcdefghijklmnopqrstuvwxyz" : Str) = S [97, 98, 99, 100, 101, 102, 103, 104, 105, 106, 107, 108, 109, 110, 111, 112, 113, 114, 115, 116, 117, 118, 119, 120, 121, 122] := by decide +kernel
end G_k97_orders_read_and_written

set_option Elab.async false
set_option linter.all false
set_option maxRecDepth 100000
set_option maxHeartbeats 2000000
namespace G_k97_orders_read_and_written
open PySem L2 Wy
open SX (S S_len S_cat S_inj in_one int_S num_S)
local macro_rules | `(tactic| walk_at "lits") => `(tactic| simp only [li0, li1, li2, li3, li4, li5, li6, li7, li8, li9, li10, li11, li12, li13, li14, li15, li16, li17, li18, li19, li20, li21, li22, li23, li24, li25, li26, li27, li28, li29, li30, li31, li32, li33, li34, li35, li36, li37, li38, li39, li40, li41, li42, li43, li44, li45, li46, li47, li48, li49, li50, li51, li52, li53, li54, li55, li56, li57, li58, li59])
local macro_rules | `(tactic| walk_at "wx") => `(tactic| simp only [x_seq, x_asg, x_asgS, x_ret, x_retN, x_ifS, x_next, x_drop, x_break, x_cont, x_frz, x_c, x_op, x_un, x_if, x_nil, x_cons, x_tup, x_lst, x_call, x_on1, x_fn, x_and, x_or, x_not, x_bW, x_tru, x_no, x_part, x_andV, x_orV, x_notV, x_chain, x_sl, x_m1, x_iter, x_rng1, x_rng2, x_for, x_lc, x_par, x_repl, x_own, x_vF, x_vH, x_vF0, x_vH0, x_slFd, x_slHd, x_slFo, x_slHo, x_var0, x_varS, x_aug0, x_aug1, x_aug2, o_addI, o_iaddI, o_subI, o_mulI, o_divI, o_modI, o_negI, o_addL, o_addT, o_addS, o_iaddS, o_lenS, o_lenL, o_lenT, o_ltI, o_leI, o_gtI, o_geI, o_eqS, o_neS, o_eqI, o_neI, o_isN, o_notN, o_isBv, o_ordS, o_intI, o_strI, o_inC, o_ninC, items_S, items_L, items_T, List.set_cons_zero, List.set_cons_succ, List.length_cons, List.length_nil, startS, List.map_cons, List.map_nil, List.replicate_succ, List.replicate_zero, List.cons_append, List.nil_append, Nat.reduceAdd, Nat.reduceSub, putS, true_and, and_true, x_truB, x_truL, x_truT, eq_self, if_true, if_false, Bool.false_eq_true])
def az : List Nat := [97, 98, 99, 100, 101, 102, 103, 104, 105, 106, 107, 108, 109, 110, 111, 112, 113, 114, 115, 116, 117, 118, 119, 120, 121, 122]
def dg : List Nat := [48, 49, 50, 51, 52, 53, 54, 55, 56, 57]
def wordOk (w : List Nat) : Bool := decide (1 ≤ w.length) && (decide (w.length ≤ 8) && w.all fun c => decide (c ∈ az))
theorem boolsD_map {α : Type} (f : α → Bool) : ∀ l : List α, boolsD (l.map fun c => PyData.bool (f c)) = some (l.map f)
  | [] => rfl
  | c :: l => by show (boolsD _).map (f c :: ·) = _; rw [boolsD_map f l]; rfl
/-- [c in z for c in w] -/
theorem lc_in {w z : List Nat} {δ : DE} {QL : List D → Prop} (hw : w.length ≤ 16777216) (hδ : ∀ d R, wVar 1 (putD (wipeD δ [1]) [1] [d]) R = R d) (h : QL (w.map fun c => PyData.bool (decide (c ∈ z)))) :
    lcN (wipeD δ [1]) [1] uName wYes (wOp (oInB false) (wVar 1) (wC (.str (S z)))) (w.map fun c => PyData.str (S [c])) [] QL := by
  have key : ∀ (l : List Nat) (acc : List D), acc.length + l.length ≤ 16777216 → QL (acc ++ l.map fun c => PyData.bool (decide (c ∈ z))) → lcN (wipeD δ [1]) [1] uName wYes (wOp (oInB false) (wVar 1) (wC (.str (S z)))) (l.map fun c => PyData.str (S [c])) acc QL := by
    intro l
    induction l with
    | nil => intro acc _ h; rw [List.map_nil, List.append_nil] at h; exact h
    | cons c l ih =>
      intro acc hl h
      rw [List.length_cons] at hl
      refine ⟨_, rfl, ?_⟩
      show wVar 1 _ _
      rw [hδ, x_c]
      show oInB false (.str (S [c])) (.str (S z)) _
      rw [o_inC]
      refine ⟨by rw [sizeLine_eq]; omega, ih _ (by rw [List.length_append, List.length_singleton]; omega) ?_⟩
      rw [List.append_assoc]
      exact h
  exact key w [] (by show 0 + _ ≤ _; omega) (by rw [List.nil_append]; exact h)
/-- [c for c in w if c not in z] -/
theorem lc_out {w z : List Nat} {δ : DE} {k : Nat} {QL : List D → Prop} (hw : w.length ≤ 16777216) (hδ : ∀ d R, wVar k (putD (wipeD δ [k]) [k] [d]) R = R d) (h : QL ((w.filter fun c => !decide (c ∈ z)).map fun c => PyData.str (S [c]))) :
    lcN (wipeD δ [k]) [k] uName (bW (wOp (oInB true) (wVar k) (wC (.str (S z))))) (wVar k) (w.map fun c => PyData.str (S [c])) [] QL := by
  have key : ∀ (l : List Nat) (acc : List D), acc.length + l.length ≤ 16777216 → QL (acc ++ (l.filter fun c => !decide (c ∈ z)).map fun c => PyData.str (S [c])) → lcN (wipeD δ [k]) [k] uName (bW (wOp (oInB true) (wVar k) (wC (.str (S z))))) (wVar k) (l.map fun c => PyData.str (S [c])) acc QL := by
    intro l
    induction l with
    | nil => intro acc _ h; rw [List.filter_nil, List.map_nil, List.append_nil] at h; exact h
    | cons c l ih =>
      intro acc hl h
      rw [List.length_cons] at hl
      refine ⟨_, rfl, ?_⟩
      rw [x_bW, x_op, hδ, x_c]
      show oInB true (.str (S [c])) (.str (S z)) _
      rw [o_ninC]
      show if (!decide (c ∈ z)) = true then _ else _
      cases e : (!decide (c ∈ z)) with
      | true =>
        rw [if_pos rfl, hδ]
        rw [List.filter_cons_of_pos (by rw [e]), List.map_cons] at h
        refine ⟨by rw [sizeLine_eq]; omega, ih _ (by rw [List.length_append, List.length_singleton]; omega) ?_⟩
        rw [List.append_assoc]
        exact h
      | false =>
        rw [if_neg (by decide)]
        rw [List.filter_cons_of_neg (by rw [e]; decide)] at h
        exact ih _ (by omega) h
  exact key w [] (by show 0 + _ ≤ _; omega) (by rw [List.nil_append]; exact h)
local macro_rules | `(tactic| walk_at "ifs") => `(tactic| simp only [if_true, if_false, Bool.not_true, Bool.not_false, Bool.false_eq_true, Bool.true_and, Bool.and_true, Bool.false_and, Bool.and_false, x_truB, Bool.not_not])
theorem filter_all {w z : List Nat} : ((w.filter fun c => !decide (c ∈ z)).map fun c => PyData.str (S [c])).isEmpty = w.all fun c => decide (c ∈ z) := by
  induction w with
  | nil => rfl
  | cons c w ih =>
    rw [List.all_cons]
    by_cases h : c ∈ z
    · rw [List.filter_cons_of_neg (by simp [h]), ih]; simp [h]
    · rw [List.filter_cons_of_pos (by simp [h])]; simp [h]
theorem flat_signs {l : List Nat} (h : ∀ x ∈ l, x < 128) : ∀ d ∈ l.map (fun x => PyData.str (S [x])), flatOk d := fun d hd => by
  obtain ⟨c, hc, rfl⟩ := List.mem_map.mp hd
  exact strOk_S fun x hx => by have e := List.mem_singleton.mp hx; have := h c hc; omega
theorem ite_b {b : Bool} {p q : Prop} : (if b = true then p else q) = (match b with | true => p | false => q) := by cases b <;> rfl
theorem le_int {n : Nat} {k : Nat} : decide ((n : Int) ≤ (k : Nat)) = decide (n ≤ k) := by simp
theorem sp_is_word {w : List Nat} {Q : D → Prop} (hw : w.length ≤ 16777216) (h : Q (.bool (wordOk w))) : w_is_word [.str (S w)] Q := by
  unfold w_is_word
  rw [x_fnW]
  walk_at "lits"
  walk_at "wx"
  refine ⟨hw, ?_⟩
  unfold wordOk at h
  by_cases h1 : 1 ≤ w.length
  · rw [if_pos (decide_eq_true (by omega))]
    rw [decide_eq_true h1, Bool.true_and] at h
    by_cases h2 : w.length ≤ 8
    · rw [if_pos (decide_eq_true (by omega))]
      rw [decide_eq_true h2, Bool.true_and] at h
      refine lc_in hw (fun d R => rfl) ⟨_, boolsD_map (fun c => decide (c ∈ az)) w, ?_⟩
      rw [List.all_map]
      exact h
    · rw [if_neg (by rw [decide_eq_false (by omega)]; decide)]
      rw [decide_eq_false h2, Bool.false_and] at h
      exact h
  · rw [if_neg (by rw [decide_eq_false (by omega)]; decide)]
    rw [decide_eq_false h1, Bool.false_and] at h
    exact h
theorem sp_law_is_word {w : List Nat} {Q : D → Prop} (hw : w.length ≤ 16777216) (hc : ∀ c ∈ w, c < 128) (h : Q (.bool (wordOk w))) : w__law_is_word [.str (S w)] Q := by
  unfold w__law_is_word
  rw [x_fnW]
  walk_at "lits"
  walk_at "wx"
  refine ⟨hw, ?_⟩
  unfold wordOk at h
  by_cases h1 : 1 ≤ w.length
  · rw [if_pos (decide_eq_true (by omega))]
    rw [decide_eq_true h1, Bool.true_and] at h
    by_cases h2 : w.length ≤ 8
    · rw [if_pos (decide_eq_true (by omega))]
      rw [decide_eq_true h2, Bool.true_and] at h
      refine lc_out hw (fun d R => rfl) ⟨by rw [sizeLine_eq]; decide, ?_⟩
      rw [o_eqNil (flat_signs fun c q => hc c (List.mem_filter.mp q).1), filter_all]
      exact h
    · rw [if_neg (by rw [decide_eq_false (by omega)]; decide)]
      rw [decide_eq_false h2, Bool.false_and] at h
      exact h
  · rw [if_neg (by rw [decide_eq_false (by omega)]; decide)]
    rw [decide_eq_false h1, Bool.false_and] at h
    exact h
/-! numbers -/
def numOk (w : List Nat) : Bool := decide (1 ≤ w.length) && (decide (w.length ≤ 4) && (w.all (fun c => decide (c ∈ dg)) && !(decide (1 < w.length) && decide (w.head? = some 48))))
def numOf (w : List Nat) : D := if numOk w = true then .int (NumText.digitsVal w : Nat) else .none
theorem at0 {α : Type} {c : α} {r : List α} : atI (c :: r) 0 = some c := at_nat (i := 0) rfl
theorem head_ix {w : List Nat} (h : 1 ≤ w.length) : ∃ c r, w = c :: r := by
  cases w with
  | nil => exact absurd h (by decide)
  | cons c r => exact ⟨c, r, rfl⟩
theorem dig_all {w : List Nat} (h : (w.all fun c => decide (c ∈ dg)) = true) : w.all (fun c => decide (48 ≤ c) && decide (c ≤ 57)) = true := by
  rw [List.all_eq_true] at h ⊢
  intro c hc
  have := of_decide_eq_true (h c hc)
  revert this
  have key : ∀ x ∈ dg, (decide (48 ≤ x) && decide (x ≤ 57)) = true := by decide
  exact key c
theorem sp_number_of {w : List Nat} {Q : D → Prop} (hw : w.length ≤ 16777216) (h : Q (numOf w)) : w_number_of [.str (S w)] Q := by
  unfold w_number_of
  rw [x_fnW]
  walk_at "lits"
  walk_at "wx"
  refine ⟨hw, ?_⟩
  unfold numOf numOk at h
  by_cases h1 : 1 ≤ w.length
  · have d1 : decide ((1 : Int) ≤ (w.length : Nat)) = true := decide_eq_true (by omega)
    by_cases h2 : w.length ≤ 4
    · have d2 : decide (((w.length : Nat) : Int) ≤ 4) = true := decide_eq_true (by omega)
      simp only [d1, d2, decide_eq_true h1, decide_eq_true h2] at h ⊢
      walk_at "ifs"
      refine lc_in hw (fun d R => rfl) ⟨_, boolsD_map (fun c => decide (c ∈ dg)) w, ?_⟩
      rw [List.all_map, show (id ∘ fun c => decide (c ∈ dg)) = fun c => decide (c ∈ dg) from rfl]
      cases e : w.all fun c => decide (c ∈ dg) with
      | false =>
        rw [e] at h
        exact h
      | true =>
        rw [e] at h
        walk_at "ifs"
        refine ⟨hw, ?_⟩
        obtain ⟨c, r, ew⟩ := head_ix h1
        have fin : Q (.int (NumText.digitsVal w : Nat)) → oInt (.str (S w)) Q := fun q => ⟨_, SX.int_S (dig_all e) (by rw [ew]; simp) (by omega), by rw [S_len]; omega, q⟩
        by_cases h3 : 1 < w.length
        · have d3 : decide ((1 : Int) < (w.length : Nat)) = true := decide_eq_true (by omega)
          rw [d3, if_pos rfl, o_ixS (k := c) (by rw [ew]; exact at0), o_eqS]
          refine ⟨hw, ?_⟩
          rw [decide_eq_true h3, ew] at h
          by_cases h4 : c = 48
          · subst h4
            exact h
          · show if decide ([c] = [48]) = true then _ else _
            rw [if_neg (by simp [h4])]
            simp only [List.head?_cons, Option.some.injEq, h4, decide_false, Bool.and_false, Bool.not_false, Bool.true_and, if_true] at h
            exact fin (by rw [ew]; exact h)
        · have d3 : decide ((1 : Int) < (w.length : Nat)) = false := decide_eq_false (by omega)
          rw [d3, if_neg (by decide)]
          rw [decide_eq_false h3] at h
          exact fin h
    · have d2 : decide (((w.length : Nat) : Int) ≤ 4) = false := decide_eq_false (by omega)
      simp only [d1, d2, decide_eq_true h1, decide_eq_false h2] at h ⊢
      exact h
  · have d1 : decide ((1 : Int) ≤ (w.length : Nat)) = false := decide_eq_false (by omega)
    simp only [d1, decide_eq_false h1] at h ⊢
    exact h
theorem idx10 : ∀ c : Nat, c ∈ dg → ∃ rest, Builtin.Str.occurrences (S dg) (S [c]) 0 (S dg).length 1 = (c - 48) :: rest := by
  intro c h
  have : c = 48 ∨ c = 49 ∨ c = 50 ∨ c = 51 ∨ c = 52 ∨ c = 53 ∨ c = 54 ∨ c = 55 ∨ c = 56 ∨ c = 57 := by simpa [dg] using h
  rcases this with h | h | h | h | h | h | h | h | h | h <;> subst h <;> exact ⟨[], by decide +kernel⟩
theorem sp_law_number {w : List Nat} {Q : D → Prop} (hw : w.length ≤ 16777216) (hc : ∀ c ∈ w, c < 128) (h : Q (numOf w)) : w__law_number [.str (S w)] Q := by
  unfold w__law_number
  rw [x_fnW]
  walk_at "lits"
  walk_at "wx"
  refine ⟨hw, ?_⟩
  unfold numOf numOk at h
  by_cases h1 : 1 ≤ w.length
  · have d1 : decide ((1 : Int) ≤ (w.length : Nat)) = true := decide_eq_true (by omega)
    by_cases h2 : w.length ≤ 4
    · have d2 : decide (((w.length : Nat) : Int) ≤ 4) = true := decide_eq_true (by omega)
      simp only [d1, d2, decide_eq_true h1, decide_eq_true h2] at h ⊢
      walk_at "ifs"
      refine lc_out hw (fun d R => rfl) ⟨by rw [sizeLine_eq]; decide, ?_⟩
      rw [o_eqNil (flat_signs fun c q => hc c (List.mem_filter.mp q).1), filter_all, show (w.all fun c => decide (c ∈ [48, 49, 50, 51, 52, 53, 54, 55, 56, 57])) = w.all fun c => decide (c ∈ dg) from rfl]
      cases e : w.all fun c => decide (c ∈ dg) with
      | false =>
        rw [e] at h
        exact h
      | true =>
        rw [e] at h
        walk_at "ifs"
        obtain ⟨c, r, ew⟩ := head_ix h1
        have loop : ∀ z : Option Sl, Q (.int (NumText.digitsVal w : Nat)) → forD [3] uName (wAsg 2 (wOp oAdd (wOp oMul (wVar 2) (wC (.int 10))) (wM1 oSIndex (wC (.str (S dg))) (wVar 3)))) (w.map fun c => PyData.str (S [c])) [some (.dat (.str (S w))), z, some (.dat (.int 0)), none] { nx := fun ρ' => wVar 2 (vF ρ') Q, rt := Q } := by
          intro z q
          refine for_inv (fun ds ρ => ∃ (l : List Nat) (n : Nat) (a : Option Sl), ds = l.map (fun c => PyData.str (S [c])) ∧ (∀ c ∈ l, c ∈ dg) ∧ ρ = [some (.dat (.str (S w))), z, some (.dat (.int (n : Nat))), a] ∧ l.foldl (fun acc c => acc * 10 + (c - 48)) n = NumText.digitsVal w) ?_ ?_ _ _ ⟨w, 0, none, rfl, fun c q => of_decide_eq_true (List.all_eq_true.mp e c q), rfl, rfl⟩
          · rintro d r ρ ⟨l, n, a, el, hl, rfl, hn⟩ P' hP _ _ _
            cases l with
            | nil => cases el
            | cons c l =>
              cases el
              refine ⟨_, rfl, ?_⟩
              walk_at "wx"
              obtain ⟨rest, hr⟩ := idx10 c (hl c (by simp))
              refine ⟨.inr ⟨by decide, by decide⟩, c - 48, rest, hr, ?_⟩
              dsimp only
              rw [o_addI]
              exact hP _ ⟨l, n * 10 + (c - 48), some (.dat (.str (S [c]))), rfl, fun x hx => hl x (List.mem_cons_of_mem _ hx), rfl, hn⟩
          · rintro ρ ⟨l, n, a, el, hl, rfl, hn⟩
            cases l with
            | cons c l => cases el
            | nil =>
              have hn2 : n = NumText.digitsVal w := hn
              walk_at "wx"
              rw [hn2]
              exact q
        rw [o_ixS (k := c) (by rw [ew]; exact at0), o_eqS]
        refine ⟨hw, ?_⟩
        show if decide ([c] = [48]) = true then _ else _
        rw [ew] at h
        by_cases h4 : c = 48
        · subst h4
          rw [if_pos (by decide)]
          refine ⟨hw, ?_⟩
          by_cases h3 : 1 < w.length
          · have d3 : decide ((1 : Int) < (w.length : Nat)) = true := decide_eq_true (by omega)
            rw [d3, if_pos rfl]
            rw [← ew, decide_eq_true h3, ew] at h
            exact h
          · have d3 : decide ((1 : Int) < (w.length : Nat)) = false := decide_eq_false (by omega)
            rw [d3, if_neg (by decide)]
            rw [← ew, decide_eq_false h3, ew] at h
            exact loop _ (by rw [ew]; exact h)
        · rw [if_neg (by simp [h4])]
          simp only [List.head?_cons, Option.some.injEq, h4, decide_false, Bool.and_false, Bool.not_false, Bool.true_and, if_true] at h
          exact loop _ (by rw [ew]; exact h)
    · have d2 : decide (((w.length : Nat) : Int) ≤ 4) = false := decide_eq_false (by omega)
      simp only [d1, d2, decide_eq_true h1, decide_eq_false h2] at h ⊢
      exact h
  · have d1 : decide ((1 : Int) ≤ (w.length : Nat)) = false := decide_eq_false (by omega)
    simp only [d1, decide_eq_false h1] at h ⊢
    exact h
end G_k97_orders_read_and_written

set_option Elab.async false
set_option linter.all false
set_option maxRecDepth 100000
set_option maxHeartbeats 2000000
namespace G_k97_orders_read_and_written
open PySem L2 Wy
open SX (S S_len S_cat S_inj in_one int_S num_S)
local macro_rules | `(tactic| walk_at "lits") => `(tactic| simp only [li0, li1, li2, li3, li4, li5, li6, li7, li8, li9, li10, li11, li12, li13, li14, li15, li16, li17, li18, li19, li20, li21, li22, li23, li24, li25, li26, li27, li28, li29, li30, li31, li32, li33, li34, li35, li36, li37, li38, li39, li40, li41, li42, li43, li44, li45, li46, li47, li48, li49, li50, li51, li52, li53, li54, li55, li56, li57, li58, li59])
local macro_rules | `(tactic| walk_at "wx") => `(tactic| simp only [x_seq, x_asg, x_asgS, x_ret, x_retN, x_ifS, x_next, x_drop, x_break, x_cont, x_frz, x_c, x_op, x_un, x_if, x_nil, x_cons, x_tup, x_lst, x_call, x_on1, x_fn, x_and, x_or, x_not, x_bW, x_tru, x_no, x_part, x_andV, x_orV, x_notV, x_chain, x_sl, x_m1, x_iter, x_rng1, x_rng2, x_for, x_lc, x_par, x_repl, x_own, x_vF, x_vH, x_vF0, x_vH0, x_slFd, x_slHd, x_slFo, x_slHo, x_var0, x_varS, x_aug0, x_aug1, x_aug2, o_addI, o_iaddI, o_subI, o_mulI, o_divI, o_modI, o_negI, o_addL, o_addT, o_addS, o_iaddS, o_lenS, o_lenL, o_lenT, o_ltI, o_leI, o_gtI, o_geI, o_eqS, o_neS, o_eqI, o_neI, o_isN, o_notN, o_isBv, o_ordS, o_intI, o_strI, o_inC, o_ninC, items_S, items_L, items_T, List.set_cons_zero, List.set_cons_succ, List.length_cons, List.length_nil, startS, List.map_cons, List.map_nil, List.replicate_succ, List.replicate_zero, List.cons_append, List.nil_append, Nat.reduceAdd, Nat.reduceSub, putS, true_and, and_true, x_truB, x_truL, x_truT, eq_self, if_true, if_false, Bool.false_eq_true])
local macro_rules | `(tactic| walk_at "st") => `(tactic| (rw [x_seq]; simp only [x_asg, x_asgS, x_ret, x_retN, x_ifS, x_next, x_drop, x_break, x_cont, x_frz, x_c, x_op, x_un, x_if, x_nil, x_cons, x_tup, x_lst, x_call, x_on1, x_fn, x_and, x_or, x_not, x_bW, x_tru, x_no, x_part, x_andV, x_orV, x_notV, x_chain, x_sl, x_m1, x_iter, x_rng1, x_rng2, x_for, x_lc, x_par, x_repl, x_own, x_vF, x_vH, x_vF0, x_vH0, x_slFd, x_slHd, x_slFo, x_slHo, x_var0, x_varS, x_aug0, x_aug1, x_aug2, o_addI, o_iaddI, o_subI, o_mulI, o_divI, o_modI, o_negI, o_addL, o_addT, o_addS, o_iaddS, o_lenS, o_lenL, o_lenT, o_ltI, o_leI, o_gtI, o_geI, o_eqS, o_neS, o_eqI, o_neI, o_isN, o_notN, o_isBv, o_ordS, o_intI, o_strI, o_inC, o_ninC, items_S, items_L, items_T, List.set_cons_zero, List.set_cons_succ, List.length_cons, List.length_nil, startS, List.map_cons, List.map_nil, List.replicate_succ, List.replicate_zero, List.cons_append, List.nil_append, Nat.reduceAdd, Nat.reduceSub, putS, true_and, and_true, x_truB, x_truL, x_truT, eq_self, if_true, if_false, Bool.false_eq_true]))
local macro_rules | `(tactic| walk_at "w1") => `(tactic| try simp only [x_asg, x_asgS, x_ret, x_retN, x_ifS, x_next, x_drop, x_break, x_cont, x_frz, x_c, x_op, x_un, x_if, x_nil, x_cons, x_tup, x_lst, x_call, x_on1, x_fn, x_and, x_or, x_not, x_bW, x_tru, x_no, x_part, x_andV, x_orV, x_notV, x_chain, x_sl, x_m1, x_iter, x_rng1, x_rng2, x_for, x_lc, x_par, x_repl, x_own, x_vF, x_vH, x_vF0, x_vH0, x_slFd, x_slHd, x_slFo, x_slHo, x_var0, x_varS, x_aug0, x_aug1, x_aug2, o_addI, o_iaddI, o_subI, o_mulI, o_divI, o_modI, o_negI, o_addL, o_addT, o_addS, o_iaddS, o_lenS, o_lenL, o_lenT, o_ltI, o_leI, o_gtI, o_geI, o_eqS, o_neS, o_eqI, o_neI, o_isN, o_notN, o_isBv, o_ordS, o_intI, o_strI, o_inC, o_ninC, items_S, items_L, items_T, List.set_cons_zero, List.set_cons_succ, List.length_cons, List.length_nil, startS, List.map_cons, List.map_nil, List.replicate_succ, List.replicate_zero, List.cons_append, List.nil_append, Nat.reduceAdd, Nat.reduceSub, putS, true_and, and_true, x_truB, x_truL, x_truT, eq_self, if_true, if_false, Bool.false_eq_true])
local macro_rules | `(tactic| walk_at "ifs") => `(tactic| try simp only [if_true, if_false, Bool.not_true, Bool.not_false, Bool.false_eq_true, Bool.true_and, Bool.and_true, Bool.false_and, Bool.and_false, x_truB, Bool.not_not])
def tAdd : List Nat := [97, 100, 100]
def tTake : List Nat := [116, 97, 107, 101]
def tAsk : List Nat := [97, 115, 107]
def tCopy : List Nat := [99, 111, 112, 121]
def tAlike : List Nat := [97, 108, 105, 107, 101]
def tTell : List Nat := [116, 101, 108, 108]
def bares : List (List Nat) := [[98, 111, 111, 107, 115], [98, 101, 103, 105, 110], [101, 110, 100], [100, 114, 111, 112]]
def twos : List (List Nat) := [[98, 111, 111, 107], [102, 111, 114, 103, 101, 116], [117, 110, 100, 111]]
def copies : List (List Nat) := [[99, 111, 112, 121], [97, 108, 105, 107, 101]]
def asked : List (List Nat) := [[116, 101, 120, 116], [114, 117, 108, 101, 115], [115, 116, 97, 98, 108, 101], [115, 104, 111, 119, 110], [98, 101, 115, 116], [115, 117, 114, 101, 108, 121], [115, 105, 122, 101], [112, 97, 112, 101, 114], [115, 105, 109, 112, 108, 101]]
theorem tb0 : decide (([97, 100, 100] : List Nat) = [97, 100, 100]) = true := by decide
theorem tb1 : decide (([97, 100, 100] : List Nat) = [116, 97, 107, 101]) = false := by decide
theorem tb2 : decide (([97, 100, 100] : List Nat) = [97, 115, 107]) = false := by decide
theorem tb3 : decide (([97, 100, 100] : List Nat) = [99, 111, 112, 121]) = false := by decide
theorem tb4 : decide (([97, 100, 100] : List Nat) = [97, 108, 105, 107, 101]) = false := by decide
theorem tb5 : decide (([97, 100, 100] : List Nat) = [116, 101, 108, 108]) = false := by decide
theorem tb6 : decide (([97, 100, 100] : List Nat) ∈ copies) = false := by decide
theorem tb7 : decide (([97, 100, 100] : List Nat) ∈ twos) = false := by decide
theorem tb8 : decide (([116, 97, 107, 101] : List Nat) = [97, 100, 100]) = false := by decide
theorem tb9 : decide (([116, 97, 107, 101] : List Nat) = [116, 97, 107, 101]) = true := by decide
theorem tb10 : decide (([116, 97, 107, 101] : List Nat) = [97, 115, 107]) = false := by decide
theorem tb11 : decide (([116, 97, 107, 101] : List Nat) = [99, 111, 112, 121]) = false := by decide
theorem tb12 : decide (([116, 97, 107, 101] : List Nat) = [97, 108, 105, 107, 101]) = false := by decide
theorem tb13 : decide (([116, 97, 107, 101] : List Nat) = [116, 101, 108, 108]) = false := by decide
theorem tb14 : decide (([116, 97, 107, 101] : List Nat) ∈ copies) = false := by decide
theorem tb15 : decide (([116, 97, 107, 101] : List Nat) ∈ twos) = false := by decide
theorem tb16 : decide (([97, 115, 107] : List Nat) = [97, 100, 100]) = false := by decide
theorem tb17 : decide (([97, 115, 107] : List Nat) = [116, 97, 107, 101]) = false := by decide
theorem tb18 : decide (([97, 115, 107] : List Nat) = [97, 115, 107]) = true := by decide
theorem tb19 : decide (([97, 115, 107] : List Nat) = [99, 111, 112, 121]) = false := by decide
theorem tb20 : decide (([97, 115, 107] : List Nat) = [97, 108, 105, 107, 101]) = false := by decide
theorem tb21 : decide (([97, 115, 107] : List Nat) = [116, 101, 108, 108]) = false := by decide
theorem tb22 : decide (([97, 115, 107] : List Nat) ∈ copies) = false := by decide
theorem tb23 : decide (([97, 115, 107] : List Nat) ∈ twos) = false := by decide
theorem tb24 : decide (([99, 111, 112, 121] : List Nat) = [97, 100, 100]) = false := by decide
theorem tb25 : decide (([99, 111, 112, 121] : List Nat) = [116, 97, 107, 101]) = false := by decide
theorem tb26 : decide (([99, 111, 112, 121] : List Nat) = [97, 115, 107]) = false := by decide
theorem tb27 : decide (([99, 111, 112, 121] : List Nat) = [99, 111, 112, 121]) = true := by decide
theorem tb28 : decide (([99, 111, 112, 121] : List Nat) = [97, 108, 105, 107, 101]) = false := by decide
theorem tb29 : decide (([99, 111, 112, 121] : List Nat) = [116, 101, 108, 108]) = false := by decide
theorem tb30 : decide (([99, 111, 112, 121] : List Nat) ∈ copies) = true := by decide
theorem tb31 : decide (([99, 111, 112, 121] : List Nat) ∈ twos) = false := by decide
theorem tb32 : decide (([97, 108, 105, 107, 101] : List Nat) = [97, 100, 100]) = false := by decide
theorem tb33 : decide (([97, 108, 105, 107, 101] : List Nat) = [116, 97, 107, 101]) = false := by decide
theorem tb34 : decide (([97, 108, 105, 107, 101] : List Nat) = [97, 115, 107]) = false := by decide
theorem tb35 : decide (([97, 108, 105, 107, 101] : List Nat) = [99, 111, 112, 121]) = false := by decide
theorem tb36 : decide (([97, 108, 105, 107, 101] : List Nat) = [97, 108, 105, 107, 101]) = true := by decide
theorem tb37 : decide (([97, 108, 105, 107, 101] : List Nat) = [116, 101, 108, 108]) = false := by decide
theorem tb38 : decide (([97, 108, 105, 107, 101] : List Nat) ∈ copies) = true := by decide
theorem tb39 : decide (([97, 108, 105, 107, 101] : List Nat) ∈ twos) = false := by decide
theorem tb40 : decide (([116, 101, 108, 108] : List Nat) = [97, 100, 100]) = false := by decide
theorem tb41 : decide (([116, 101, 108, 108] : List Nat) = [116, 97, 107, 101]) = false := by decide
theorem tb42 : decide (([116, 101, 108, 108] : List Nat) = [97, 115, 107]) = false := by decide
theorem tb43 : decide (([116, 101, 108, 108] : List Nat) = [99, 111, 112, 121]) = false := by decide
theorem tb44 : decide (([116, 101, 108, 108] : List Nat) = [97, 108, 105, 107, 101]) = false := by decide
theorem tb45 : decide (([116, 101, 108, 108] : List Nat) = [116, 101, 108, 108]) = true := by decide
theorem tb46 : decide (([116, 101, 108, 108] : List Nat) ∈ copies) = false := by decide
theorem tb47 : decide (([116, 101, 108, 108] : List Nat) ∈ twos) = false := by decide
theorem inTBares {k : List Nat} {Q : D → Prop} : oInB false (.str (S k)) (.tuple [.str (S [98, 111, 111, 107, 115]), .str (S [98, 101, 103, 105, 110]), .str (S [101, 110, 100]), .str (S [100, 114, 111, 112])]) Q = Q (.bool (decide (k ∈ bares))) := o_inT (ls := bares)
theorem bdBares : ∀ l ∈ bares, ∀ c ∈ l, c < 128 := by decide
theorem inLBares {k : List Nat} {Q : D → Prop} (hk : ∀ c ∈ k, c < 128) : oInB false (.str (S k)) (.list [.str (S [98, 111, 111, 107, 115]), .str (S [98, 101, 103, 105, 110]), .str (S [101, 110, 100]), .str (S [100, 114, 111, 112])]) Q = Q (.bool (decide (k ∈ bares))) := o_inL (ls := bares) (fun c q => by have := hk c q; omega) (fun l hl c q => by have := bdBares l hl c q; omega)
theorem inTTwos {k : List Nat} {Q : D → Prop} : oInB false (.str (S k)) (.tuple [.str (S [98, 111, 111, 107]), .str (S [102, 111, 114, 103, 101, 116]), .str (S [117, 110, 100, 111])]) Q = Q (.bool (decide (k ∈ twos))) := o_inT (ls := twos)
theorem bdTwos : ∀ l ∈ twos, ∀ c ∈ l, c < 128 := by decide
theorem inLTwos {k : List Nat} {Q : D → Prop} (hk : ∀ c ∈ k, c < 128) : oInB false (.str (S k)) (.list [.str (S [98, 111, 111, 107]), .str (S [102, 111, 114, 103, 101, 116]), .str (S [117, 110, 100, 111])]) Q = Q (.bool (decide (k ∈ twos))) := o_inL (ls := twos) (fun c q => by have := hk c q; omega) (fun l hl c q => by have := bdTwos l hl c q; omega)
theorem inTCopies {k : List Nat} {Q : D → Prop} : oInB false (.str (S k)) (.tuple [.str (S [99, 111, 112, 121]), .str (S [97, 108, 105, 107, 101])]) Q = Q (.bool (decide (k ∈ copies))) := o_inT (ls := copies)
theorem bdCopies : ∀ l ∈ copies, ∀ c ∈ l, c < 128 := by decide
theorem inLCopies {k : List Nat} {Q : D → Prop} (hk : ∀ c ∈ k, c < 128) : oInB false (.str (S k)) (.list [.str (S [99, 111, 112, 121]), .str (S [97, 108, 105, 107, 101])]) Q = Q (.bool (decide (k ∈ copies))) := o_inL (ls := copies) (fun c q => by have := hk c q; omega) (fun l hl c q => by have := bdCopies l hl c q; omega)
theorem inTAsked {k : List Nat} {Q : D → Prop} : oInB false (.str (S k)) (.tuple [.str (S [116, 101, 120, 116]), .str (S [114, 117, 108, 101, 115]), .str (S [115, 116, 97, 98, 108, 101]), .str (S [115, 104, 111, 119, 110]), .str (S [98, 101, 115, 116]), .str (S [115, 117, 114, 101, 108, 121]), .str (S [115, 105, 122, 101]), .str (S [112, 97, 112, 101, 114]), .str (S [115, 105, 109, 112, 108, 101])]) Q = Q (.bool (decide (k ∈ asked))) := o_inT (ls := asked)
theorem bdAsked : ∀ l ∈ asked, ∀ c ∈ l, c < 128 := by decide
theorem inLAsked {k : List Nat} {Q : D → Prop} (hk : ∀ c ∈ k, c < 128) : oInB false (.str (S k)) (.list [.str (S [116, 101, 120, 116]), .str (S [114, 117, 108, 101, 115]), .str (S [115, 116, 97, 98, 108, 101]), .str (S [115, 104, 111, 119, 110]), .str (S [98, 101, 115, 116]), .str (S [115, 117, 114, 101, 108, 121]), .str (S [115, 105, 122, 101]), .str (S [112, 97, 112, 101, 114]), .str (S [115, 105, 109, 112, 108, 101])]) Q = Q (.bool (decide (k ∈ asked))) := o_inL (ls := asked) (fun c q => by have := hk c q; omega) (fun l hl c q => by have := bdAsked l hl c q; omega)
local macro_rules | `(tactic| walk_at "tab") => `(tactic| try simp only [decide_true, eq_self, if_true, if_false, Bool.false_eq_true, tb0, tb1, tb2, tb3, tb4, tb5, tb6, tb7, tb8, tb9, tb10, tb11, tb12, tb13, tb14, tb15, tb16, tb17, tb18, tb19, tb20, tb21, tb22, tb23, tb24, tb25, tb26, tb27, tb28, tb29, tb30, tb31, tb32, tb33, tb34, tb35, tb36, tb37, tb38, tb39, tb40, tb41, tb42, tb43, tb44, tb45, tb46, tb47])
section
variable {Q : D → Prop} {l : List Nat} {x y z : D} {r : List D}
theorem o_split32 : fSplit (S l) (.str (S [32])) Q = (l.length + 2 ≤ 16777216 ∧ Q (.list ((cut1 32 l).map fun w => .str (S w)))) := by
  show (((S [32]).length == 0) = false ∧ (S l).length + 2 ≤ sizeLine ∧ Q (.list ((Txt.split (S l) (S [32])).map PyData.str))) = _
  rw [S_len, sizeLine_eq, split_cut (by decide), List.map_map]
  exact propext ⟨fun h => h.2, fun h => ⟨rfl, h⟩⟩
theorem o_split10 : fSplit (S l) (.str (S [10])) Q = (l.length + 2 ≤ 16777216 ∧ Q (.list ((cut1 10 l).map fun w => .str (S w)))) := by
  show (((S [10]).length == 0) = false ∧ (S l).length + 2 ≤ sizeLine ∧ Q (.list ((Txt.split (S l) (S [10])).map PyData.str))) = _
  rw [S_len, sizeLine_eq, split_cut (by decide), List.map_map]
  exact propext ⟨fun h => h.2, fun h => ⟨rfl, h⟩⟩
theorem ixL0 : oIx (.list (x :: r)) (.int 0) Q = Q x := o_ixL at0
theorem ixL1 : oIx (.list (x :: y :: r)) (.int 1) Q = Q y := o_ixL (at_nat (i := 1) rfl)
theorem ixL2 : oIx (.list (x :: y :: z :: r)) (.int 2) Q = Q z := o_ixL (at_nat (i := 2) rfl)
theorem slL2 : oSl (.list (x :: y :: r)) (some 2) none Q = Q (.list r) := by
  show Q (.list (cutD (x :: y :: r) (some 2) none)) = _
  unfold cutD HT.sIx
  congr 2
  show ((x :: y :: r).drop (if (2 : Int) < 0 then _ else min (2 : Int).toNat (r.length + 1 + 1))).take ((r.length + 1 + 1) - (if (2 : Int) < 0 then _ else min (2 : Int).toNat (r.length + 1 + 1))) = r
  rw [if_neg (by decide), Nat.min_eq_left (by show 2 ≤ _; omega)]
  show r.take (r.length + 1 + 1 - 2) = r
  rw [List.take_of_length_le (by omega)]
end
theorem cm0 : decide (((1 : Nat) : Int) = 1) = true := by decide
theorem cm1 : decide (((1 : Nat) : Int) = 2) = false := by decide
theorem cm2 : decide (((1 : Nat) : Int) = 3) = false := by decide
theorem cm3 : decide (((1 : Nat) : Int) < 2) = true := by decide
theorem cm4 : decide ((2 : Int) < ((1 : Nat) : Int)) = false := by decide
theorem cm5 : decide (((2 : Nat) : Int) = 1) = false := by decide
theorem cm6 : decide (((2 : Nat) : Int) = 2) = true := by decide
theorem cm7 : decide (((2 : Nat) : Int) = 3) = false := by decide
theorem cm8 : decide (((2 : Nat) : Int) < 2) = false := by decide
theorem cm9 : decide ((2 : Int) < ((2 : Nat) : Int)) = false := by decide
theorem cm10 : decide (((3 : Nat) : Int) = 1) = false := by decide
theorem cm11 : decide (((3 : Nat) : Int) = 2) = false := by decide
theorem cm12 : decide (((3 : Nat) : Int) = 3) = true := by decide
theorem cm13 : decide (((3 : Nat) : Int) < 2) = false := by decide
theorem cm14 : decide ((2 : Int) < ((3 : Nat) : Int)) = true := by decide
local macro_rules | `(tactic| walk_at "cm") => `(tactic| try simp only [cm0, cm1, cm2, cm3, cm4, cm5, cm6, cm7, cm8, cm9, cm10, cm11, cm12, cm13, cm14, ite_self, slL2, if_true, if_false, Bool.not_true, Bool.not_false, Bool.false_eq_true, ixL0, ixL1, ixL2, inTBares, inTTwos, inTCopies, inTAsked])
def takeD (a : List Nat) : D → D
  | .int n => .tuple [.str (S tTake), .str (S a), .int n]
  | _ => .none
def rd3 (k a b : List Nat) : D := if k = tAdd then .tuple [.str (S tAdd), .str (S a), .str (S b)] else if k = tTake then takeD a (numOf b) else if k = tAsk then (if b ∈ asked then .tuple [.str (S tAsk), .str (S a), .str (S b)] else .none)
  else if k ∈ copies then (if wordOk b = true then .tuple [.str (S k), .str (S a), .str (S b)] else .none) else if k = tTell then (if b ≠ [] then .tuple [.str (S tTell), .str (S a), .str (S b)] else .none) else .none
/-- the order that words tell -/
def rd : List (List Nat) → D
  | [] => .none
  | [k] => if k ∈ bares then .tuple [.str (S k)] else .none
  | [k, a] => if wordOk a = true then (if k ∈ twos then .tuple [.str (S k), .str (S a)] else .none) else .none
  | [k, a, b] => if wordOk a = true then rd3 k a b else .none
  | k :: a :: b :: c :: r => if wordOk a = true then (if k = tAdd then .tuple [.str (S tAdd), .str (S a), .str (S (TL.joinL [32] (b :: c :: r)))] else .none) else .none
theorem rd_1 {k : List Nat} : rd [k] = if k ∈ bares then .tuple [.str (S k)] else .none := rfl
theorem rd_2 {k a : List Nat} : rd [k, a] = if wordOk a = true then (if k ∈ twos then .tuple [.str (S k), .str (S a)] else .none) else .none := rfl
theorem rd_3 {k a b : List Nat} : rd [k, a, b] = if wordOk a = true then rd3 k a b else .none := rfl
theorem rd_4 {k a b c : List Nat} {r : List (List Nat)} : rd (k :: a :: b :: c :: r) = if wordOk a = true then (if k = tAdd then .tuple [.str (S tAdd), .str (S a), .str (S (TL.joinL [32] (b :: c :: r)))] else .none) else .none := rfl
theorem rd3_add {a b : List Nat} : rd3 tAdd a b = .tuple [.str (S tAdd), .str (S a), .str (S b)] := if_pos rfl
theorem rd3_take {a b : List Nat} : rd3 tTake a b = takeD a (numOf b) := by unfold rd3; rw [if_neg (by decide), if_pos rfl]
theorem rd3_ask {a b : List Nat} : rd3 tAsk a b = if b ∈ asked then .tuple [.str (S tAsk), .str (S a), .str (S b)] else .none := by unfold rd3; rw [if_neg (by decide), if_neg (by decide), if_pos rfl]
theorem rd3_copy {a b : List Nat} : rd3 tCopy a b = if wordOk b = true then .tuple [.str (S tCopy), .str (S a), .str (S b)] else .none := by unfold rd3; rw [if_neg (by decide), if_neg (by decide), if_neg (by decide), if_pos (by decide)]
theorem rd3_alike {a b : List Nat} : rd3 tAlike a b = if wordOk b = true then .tuple [.str (S tAlike), .str (S a), .str (S b)] else .none := by unfold rd3; rw [if_neg (by decide), if_neg (by decide), if_neg (by decide), if_pos (by decide)]
theorem rd3_tell {a b : List Nat} : rd3 tTell a b = if b ≠ [] then .tuple [.str (S tTell), .str (S a), .str (S b)] else .none := by unfold rd3; rw [if_neg (by decide), if_neg (by decide), if_neg (by decide), if_neg (by decide), if_pos rfl]
theorem rd3_other {k a b : List Nat} (h1 : decide (k = tAdd) = false) (h2 : decide (k = tTake) = false) (h3 : decide (k = tAsk) = false) (h4 : decide (k ∈ copies) = false) (h5 : decide (k = tTell) = false) : rd3 k a b = .none := by
  unfold rd3; rw [if_neg (of_decide_eq_false h1), if_neg (of_decide_eq_false h2), if_neg (of_decide_eq_false h3), if_neg (of_decide_eq_false h4), if_neg (of_decide_eq_false h5)]
theorem fj {s : List Nat} {ws : List (List Nat)} {Q : D → Prop} : fJoin (S s) (.list (ws.map fun w => .str (S w))) Q = ((ws.map List.length).sum + ws.length * s.length ≤ 16777216 ∧ Q (.str (S (TL.joinL s ws)))) := by
  show (∃ ys, strsD (ws.map fun w => PyData.str (S w)) = some ys ∧ (ys.map (·.length)).sum + ys.length * (S s).length ≤ 16777216 ∧ Q (.str (Txt.join (S s) ys))) = _
  rw [strsD_map S ws]
  have e1 : ((ws.map S).map (·.length)) = ws.map List.length := SX.lens ws
  refine propext ⟨fun ⟨ys, h1, h2, h3⟩ => ?_, fun ⟨h2, h3⟩ => ⟨_, rfl, ?_, ?_⟩⟩
  · cases h1
    rw [e1, List.length_map, S_len] at h2
    rw [SX.join_S] at h3
    exact ⟨h2, h3⟩
  · rw [e1, List.length_map, S_len]
    exact h2
  · rw [SX.join_S]
    exact h3
theorem kinds (k : List Nat) : k = tAdd ∨ k = tTake ∨ k = tAsk ∨ k = tCopy ∨ k = tAlike ∨ k = tTell ∨ (decide (k = tAdd) = false ∧ decide (k = tTake) = false ∧ decide (k = tAsk) = false ∧ decide (k ∈ copies) = false ∧ decide (k = tTell) = false) := by
  by_cases h1 : k = tAdd
  · exact Or.inl h1
  by_cases h2 : k = tTake
  · exact Or.inr (Or.inl h2)
  by_cases h3 : k = tAsk
  · exact Or.inr (Or.inr (Or.inl h3))
  by_cases h4 : k = tCopy
  · exact Or.inr (Or.inr (Or.inr (Or.inl h4)))
  by_cases h5 : k = tAlike
  · exact Or.inr (Or.inr (Or.inr (Or.inr (Or.inl h5))))
  by_cases h6 : k = tTell
  · exact Or.inr (Or.inr (Or.inr (Or.inr (Or.inr (Or.inl h6)))))
  refine Or.inr (Or.inr (Or.inr (Or.inr (Or.inr (Or.inr ⟨decide_eq_false h1, decide_eq_false h2, decide_eq_false h3, decide_eq_false fun q => ?_, decide_eq_false h6⟩)))))
  have : k ∈ [tCopy, tAlike] := q
  simp at this
  rcases this with q | q
  · exact h4 q
  · exact h5 q
theorem sz (n : Nat) (h : n ≤ 100 := by decide) : n ≤ sizeLine := by rw [sizeLine_eq]; omega
theorem sp_read_order {l : List Nat} {Q : D → Prop} (hl : l.length ≤ 10000) (h : Q (rd (cut1 32 l))) : w_read_order [.str (S l)] Q := by
  unfold w_read_order
  rw [x_fnW]
  walk_at "lits"
  walk_at "st"
  rw [o_split32]
  refine ⟨by omega, ?_⟩
  have hm : ∀ w ∈ cut1 32 l, w.length ≤ l.length ∧ 32 ∉ w ∧ ∀ x ∈ w, x ∈ l := fun w q => cut1_mem q
  have hn := cut1_len 32 l
  have hj := cut1_join 32 l
  have hne := cut1_ne 32 l
  generalize cut1 32 l = ws at h hm hn hj hne
  have hwl : ∀ w ∈ ws, w.length ≤ 16777216 := fun w q => Nat.le_trans (hm w q).1 (by omega)
  match ws, h, hm, hn, hj, hwl, hne with
  | [], h, hm, hn, hj, hwl, hne => exact absurd rfl hne
  | [k], h, hm, hn, hj, hwl, hne =>
    walk_at "st"
    walk_at "cm"
    rw [rd_1] at h
    by_cases hk : k ∈ bares
    · rw [decide_eq_true hk, if_pos rfl]
      rw [if_pos hk] at h
      exact ⟨sz 1, h⟩
    · rw [decide_eq_false hk, if_neg (by decide)]
      rw [if_neg hk] at h
      walk_at "st"
      walk_at "cm"
      exact h
  | [k, a], h, hm, hn, hj, hwl, hne =>
    walk_at "st"
    walk_at "cm"
    walk_at "st"
    walk_at "cm"
    refine sp_is_word (hwl a (by simp)) ?_
    walk_at "ifs"
    rw [rd_2] at h
    cases e : wordOk a with
    | false =>
      rw [e] at h
      exact h
    | true =>
      rw [e, if_pos rfl] at h
      walk_at "ifs"
      walk_at "st"
      walk_at "cm"
      walk_at "st"
      walk_at "cm"
      refine ⟨sz 3, ?_⟩
      by_cases hk : k ∈ twos
      · rw [decide_eq_true hk, if_pos rfl]
        rw [if_pos hk] at h
        exact ⟨sz 2, h⟩
      · rw [decide_eq_false hk, if_neg (by decide)]
        rw [if_neg hk] at h
        walk_at "st"
        walk_at "cm"
        walk_at "st"
        walk_at "cm"
        walk_at "st"
        walk_at "cm"
        walk_at "st"
        walk_at "cm"
        walk_at "st"
        walk_at "cm"
        exact h
  | [k, a, b], h, hm, hn, hj, hwl, hne =>
    walk_at "st"
    walk_at "cm"
    walk_at "st"
    walk_at "cm"
    refine sp_is_word (hwl a (by simp)) ?_
    walk_at "ifs"
    rw [rd_3] at h
    have hb := hwl b (by simp)
    cases e : wordOk a with
    | false =>
      rw [e] at h
      exact h
    | true =>
      rw [e, if_pos rfl] at h
      walk_at "ifs"
      walk_at "st"
      walk_at "cm"
      walk_at "st"
      walk_at "cm"
      walk_at "st"
      walk_at "cm"
      rcases kinds k with rfl | rfl | rfl | rfl | rfl | rfl | ⟨h1, h2, h3, h4, h5⟩
      · rw [rd3_add] at h
        simp only [tAdd] at h ⊢
        walk_at "tab"
        refine Eq.mpr (fj (ws := [b])) ⟨?_, sz 3, h⟩
        show b.length + 0 + 1 * 1 ≤ _
        have := (hm b (by simp)).1
        omega
      · rw [rd3_take] at h
        simp only [tTake] at h ⊢
        walk_at "tab"
        walk_at "ifs"
        walk_at "st"
        walk_at "cm"
        walk_at "tab"
        walk_at "ifs"
        refine sp_number_of hb ?_
        unfold numOf at h ⊢
        cases e2 : numOk b with
        | true =>
          rw [e2, if_pos rfl] at h
          simp only [if_true, isNone, Bool.not_false]
          refine sp_number_of hb ?_
          unfold numOf
          rw [e2, if_pos rfl]
          exact ⟨sz 3, h⟩
        | false =>
          rw [e2] at h
          simp only [Bool.false_eq_true, if_false, isNone, Bool.not_true]
          walk_at "st"
          walk_at "cm"
          walk_at "tab"
          walk_at "ifs"
          walk_at "st"
          walk_at "cm"
          refine ⟨sz 2, ?_⟩
          walk_at "tab"
          walk_at "ifs"
          walk_at "st"
          walk_at "cm"
          walk_at "tab"
          walk_at "ifs"
          walk_at "w1"
          exact h
      · rw [rd3_ask] at h
        simp only [tAsk] at h ⊢
        walk_at "tab"
        walk_at "st"
        walk_at "cm"
        walk_at "tab"
        walk_at "st"
        walk_at "cm"
        walk_at "tab"
        by_cases hk : b ∈ asked
        · rw [decide_eq_true hk, if_pos rfl]
          rw [if_pos hk] at h
          exact ⟨sz 3, h⟩
        · rw [decide_eq_false hk, if_neg (by decide)]
          rw [if_neg hk] at h
          walk_at "st"
          walk_at "cm"
          refine ⟨sz 2, ?_⟩
          walk_at "tab"
          walk_at "st"
          walk_at "cm"
          walk_at "tab"
          walk_at "w1"
          exact h
      · rw [rd3_copy] at h
        simp only [tCopy] at h ⊢
        walk_at "tab"
        walk_at "st"
        walk_at "cm"
        walk_at "tab"
        walk_at "st"
        walk_at "cm"
        walk_at "tab"
        walk_at "st"
        walk_at "cm"
        refine ⟨sz 2, ?_⟩
        walk_at "tab"
        refine sp_is_word hb ?_
        walk_at "ifs"
        cases e2 : wordOk b with
        | true =>
          rw [e2, if_pos rfl] at h
          exact ⟨sz 3, h⟩
        | false =>
          rw [e2] at h
          walk_at "ifs"
          walk_at "st"
          walk_at "cm"
          walk_at "tab"
          walk_at "w1"
          exact h
      · rw [rd3_alike] at h
        simp only [tAlike] at h ⊢
        walk_at "tab"
        walk_at "st"
        walk_at "cm"
        walk_at "tab"
        walk_at "st"
        walk_at "cm"
        walk_at "tab"
        walk_at "st"
        walk_at "cm"
        refine ⟨sz 2, ?_⟩
        walk_at "tab"
        refine sp_is_word hb ?_
        walk_at "ifs"
        cases e2 : wordOk b with
        | true =>
          rw [e2, if_pos rfl] at h
          exact ⟨sz 3, h⟩
        | false =>
          rw [e2] at h
          walk_at "ifs"
          walk_at "st"
          walk_at "cm"
          walk_at "tab"
          walk_at "w1"
          exact h
      · rw [rd3_tell] at h
        simp only [tTell] at h ⊢
        walk_at "tab"
        walk_at "st"
        walk_at "cm"
        walk_at "tab"
        walk_at "st"
        walk_at "cm"
        walk_at "tab"
        walk_at "st"
        walk_at "cm"
        refine ⟨sz 2, ?_⟩
        walk_at "tab"
        walk_at "st"
        walk_at "cm"
        walk_at "tab"
        walk_at "w1"
        by_cases hk : b = []
        · rw [decide_eq_true hk]
          rw [if_neg (by simp [hk])] at h
          exact h
        · rw [decide_eq_false hk]
          rw [if_pos hk] at h
          exact ⟨sz 3, h⟩
      · rw [rd3_other h1 h2 h3 h4 h5] at h
        have h1 : decide (k = [97, 100, 100]) = false := h1
        have h2 : decide (k = [116, 97, 107, 101]) = false := h2
        have h3 : decide (k = [97, 115, 107]) = false := h3
        have h5 : decide (k = [116, 101, 108, 108]) = false := h5
        rw [h1, if_neg (by decide)]
        walk_at "st"
        walk_at "cm"
        rw [h2, if_neg (by decide)]
        walk_at "st"
        walk_at "cm"
        rw [h3, if_neg (by decide)]
        walk_at "st"
        walk_at "cm"
        refine ⟨sz 2, ?_⟩
        rw [h4, if_neg (by decide)]
        walk_at "st"
        walk_at "cm"
        rw [h5, if_neg (by decide)]
        walk_at "w1"
        exact h
  | k :: a :: b :: c :: r, h, hm, hn, hj, hwl, hne =>
    have g1 : decide (((r.length + 1 + 1 + 1 + 1 : Nat) : Int) = 1) = false := decide_eq_false (by omega)
    have g2 : decide (((r.length + 1 + 1 + 1 + 1 : Nat) : Int) = 2) = false := decide_eq_false (by omega)
    have g3 : decide (((r.length + 1 + 1 + 1 + 1 : Nat) : Int) = 3) = false := decide_eq_false (by omega)
    have g4 : decide (((r.length + 1 + 1 + 1 + 1 : Nat) : Int) < 2) = false := decide_eq_false (by omega)
    have g5 : decide ((2 : Int) < ((r.length + 1 + 1 + 1 + 1 : Nat) : Int)) = true := decide_eq_true (by omega)
    rw [rd_4] at h
    walk_at "st"
    simp only [List.length_map, g1, Bool.false_eq_true, if_false]
    walk_at "st"
    simp only [List.length_map, g4, Bool.false_eq_true, if_false]
    walk_at "cm"
    refine sp_is_word (hwl a (by simp)) ?_
    walk_at "ifs"
    cases e : wordOk a with
    | false =>
      rw [e] at h
      exact h
    | true =>
      rw [e, if_pos rfl] at h
      walk_at "ifs"
      walk_at "st"
      walk_at "cm"
      walk_at "st"
      simp only [List.length_map, g2, Bool.false_eq_true, if_false]
      walk_at "st"
      simp only [List.length_map, g5, if_true]
      by_cases hk : k = tAdd
      · subst hk
        rw [if_pos rfl] at h
        simp only [tAdd] at h ⊢
        walk_at "tab"
        walk_at "cm"
        have hs := joinL_len [32] (b :: c :: r)
        refine Eq.mpr (fj (ws := b :: c :: r)) ⟨?_, sz 3, h⟩
        have key : ∀ ws : List (List Nat), (ws.map List.length).sum + ws.length = (TL.joinL [32] ws).length + (if ws = [] then 0 else 1) := by
          intro ws
          induction ws with
          | nil => rfl
          | cons w ws ih =>
            cases ws with
            | nil => simp [TL.joinL]
            | cons v vs =>
              rw [joinL_cons2, List.map_cons, List.sum_cons, List.length_cons, List.length_append, List.length_append]
              simp only [reduceCtorEq, if_false] at ih ⊢
              simp only [List.length_cons, List.length_nil] at ih ⊢
              omega
        have k1 := key (b :: c :: r)
        have k2 := key ([97, 100, 100] :: a :: b :: c :: r)
        simp only [tAdd] at hj
        rw [hj] at k2
        rw [if_neg (by simp)] at k1 k2
        show _ + _ * 1 ≤ _
        simp only [List.map_cons, List.sum_cons, List.length_cons] at k1 k2 ⊢
        omega
      · rw [if_neg hk] at h
        have h1 : decide (k = [97, 100, 100]) = false := decide_eq_false hk
        rw [h1, if_neg (by decide)]
        walk_at "st"
        simp only [List.length_map, g3, Bool.false_eq_true, if_false]
        walk_at "st"
        simp only [List.length_map, g3, Bool.false_eq_true, if_false]
        walk_at "st"
        simp only [List.length_map, g3, Bool.false_eq_true, if_false]
        walk_at "st"
        simp only [List.length_map, g3, Bool.false_eq_true, if_false]
        exact h
end G_k97_orders_read_and_written

set_option Elab.async false
set_option linter.all false
set_option maxRecDepth 100000
set_option maxHeartbeats 2000000
namespace G_k97_orders_read_and_written
open PySem L2 Wy
open SX (S S_len S_cat S_inj in_one int_S num_S)
local macro_rules | `(tactic| walk_at "lits") => `(tactic| simp only [li0, li1, li2, li3, li4, li5, li6, li7, li8, li9, li10, li11, li12, li13, li14, li15, li16, li17, li18, li19, li20, li21, li22, li23, li24, li25, li26, li27, li28, li29, li30, li31, li32, li33, li34, li35, li36, li37, li38, li39, li40, li41, li42, li43, li44, li45, li46, li47, li48, li49, li50, li51, li52, li53, li54, li55, li56, li57, li58, li59])
local macro_rules | `(tactic| walk_at "wx") => `(tactic| simp only [x_seq, x_asg, x_asgS, x_ret, x_retN, x_ifS, x_next, x_drop, x_break, x_cont, x_frz, x_c, x_op, x_un, x_if, x_nil, x_cons, x_tup, x_lst, x_call, x_on1, x_fn, x_and, x_or, x_not, x_bW, x_tru, x_no, x_part, x_andV, x_orV, x_notV, x_chain, x_sl, x_m1, x_iter, x_rng1, x_rng2, x_for, x_lc, x_par, x_repl, x_own, x_vF, x_vH, x_vF0, x_vH0, x_slFd, x_slHd, x_slFo, x_slHo, x_var0, x_varS, x_aug0, x_aug1, x_aug2, o_addI, o_iaddI, o_subI, o_mulI, o_divI, o_modI, o_negI, o_addL, o_addT, o_addS, o_iaddS, o_lenS, o_lenL, o_lenT, o_ltI, o_leI, o_gtI, o_geI, o_eqS, o_neS, o_eqI, o_neI, o_isN, o_notN, o_isBv, o_ordS, o_intI, o_strI, o_inC, o_ninC, items_S, items_L, items_T, List.set_cons_zero, List.set_cons_succ, List.length_cons, List.length_nil, startS, List.map_cons, List.map_nil, List.replicate_succ, List.replicate_zero, List.cons_append, List.nil_append, Nat.reduceAdd, Nat.reduceSub, putS, true_and, and_true, x_truB, x_truL, x_truT, eq_self, if_true, if_false, Bool.false_eq_true])
local macro_rules | `(tactic| walk_at "st") => `(tactic| (rw [x_seq]; simp only [x_asg, x_asgS, x_ret, x_retN, x_ifS, x_next, x_drop, x_break, x_cont, x_frz, x_c, x_op, x_un, x_if, x_nil, x_cons, x_tup, x_lst, x_call, x_on1, x_fn, x_and, x_or, x_not, x_bW, x_tru, x_no, x_part, x_andV, x_orV, x_notV, x_chain, x_sl, x_m1, x_iter, x_rng1, x_rng2, x_for, x_lc, x_par, x_repl, x_own, x_vF, x_vH, x_vF0, x_vH0, x_slFd, x_slHd, x_slFo, x_slHo, x_var0, x_varS, x_aug0, x_aug1, x_aug2, o_addI, o_iaddI, o_subI, o_mulI, o_divI, o_modI, o_negI, o_addL, o_addT, o_addS, o_iaddS, o_lenS, o_lenL, o_lenT, o_ltI, o_leI, o_gtI, o_geI, o_eqS, o_neS, o_eqI, o_neI, o_isN, o_notN, o_isBv, o_ordS, o_intI, o_strI, o_inC, o_ninC, items_S, items_L, items_T, List.set_cons_zero, List.set_cons_succ, List.length_cons, List.length_nil, startS, List.map_cons, List.map_nil, List.replicate_succ, List.replicate_zero, List.cons_append, List.nil_append, Nat.reduceAdd, Nat.reduceSub, putS, true_and, and_true, x_truB, x_truL, x_truT, eq_self, if_true, if_false, Bool.false_eq_true]))
local macro_rules | `(tactic| walk_at "w1") => `(tactic| try simp only [x_asg, x_asgS, x_ret, x_retN, x_ifS, x_next, x_drop, x_break, x_cont, x_frz, x_c, x_op, x_un, x_if, x_nil, x_cons, x_tup, x_lst, x_call, x_on1, x_fn, x_and, x_or, x_not, x_bW, x_tru, x_no, x_part, x_andV, x_orV, x_notV, x_chain, x_sl, x_m1, x_iter, x_rng1, x_rng2, x_for, x_lc, x_par, x_repl, x_own, x_vF, x_vH, x_vF0, x_vH0, x_slFd, x_slHd, x_slFo, x_slHo, x_var0, x_varS, x_aug0, x_aug1, x_aug2, o_addI, o_iaddI, o_subI, o_mulI, o_divI, o_modI, o_negI, o_addL, o_addT, o_addS, o_iaddS, o_lenS, o_lenL, o_lenT, o_ltI, o_leI, o_gtI, o_geI, o_eqS, o_neS, o_eqI, o_neI, o_isN, o_notN, o_isBv, o_ordS, o_intI, o_strI, o_inC, o_ninC, items_S, items_L, items_T, List.set_cons_zero, List.set_cons_succ, List.length_cons, List.length_nil, startS, List.map_cons, List.map_nil, List.replicate_succ, List.replicate_zero, List.cons_append, List.nil_append, Nat.reduceAdd, Nat.reduceSub, putS, true_and, and_true, x_truB, x_truL, x_truT, eq_self, if_true, if_false, Bool.false_eq_true])
local macro_rules | `(tactic| walk_at "ifs") => `(tactic| try simp only [if_true, if_false, Bool.not_true, Bool.not_false, Bool.false_eq_true, Bool.true_and, Bool.and_true, Bool.false_and, Bool.and_false, x_truB, Bool.not_not])
local macro_rules | `(tactic| walk_at "tab") => `(tactic| try simp only [decide_true, eq_self, if_true, if_false, Bool.false_eq_true, tb0, tb1, tb2, tb3, tb4, tb5, tb6, tb7, tb8, tb9, tb10, tb11, tb12, tb13, tb14, tb15, tb16, tb17, tb18, tb19, tb20, tb21, tb22, tb23, tb24, tb25, tb26, tb27, tb28, tb29, tb30, tb31, tb32, tb33, tb34, tb35, tb36, tb37, tb38, tb39, tb40, tb41, tb42, tb43, tb44, tb45, tb46, tb47])
local macro_rules | `(tactic| walk_at "cm") => `(tactic| try simp only [cm0, cm1, cm2, cm3, cm4, cm5, cm6, cm7, cm8, cm9, cm10, cm11, cm12, cm13, cm14, ite_self, slL2, if_true, if_false, Bool.not_true, Bool.not_false, Bool.false_eq_true, ixL0, ixL1, ixL2, inTBares, inTTwos, inTCopies, inTAsked])
theorem kindsL (k : List Nat) : k = [97, 100, 100] ∨ k = [116, 97, 107, 101] ∨ k = [97, 115, 107] ∨ k = [99, 111, 112, 121] ∨ k = [97, 108, 105, 107, 101] ∨ k = [116, 101, 108, 108] ∨ (decide (k = [97, 100, 100]) = false ∧ decide (k = [116, 97, 107, 101]) = false ∧ decide (k = [97, 115, 107]) = false ∧ decide (k ∈ copies) = false ∧ decide (k = [116, 101, 108, 108]) = false) := kinds k
theorem rdL_add {a b : List Nat} : rd3 [97, 100, 100] a b = .tuple [.str (S [97, 100, 100]), .str (S a), .str (S b)] := rd3_add
theorem rdL_take {a b : List Nat} : rd3 [116, 97, 107, 101] a b = takeD a (numOf b) := rd3_take
theorem rdL_ask {a b : List Nat} : rd3 [97, 115, 107] a b = if b ∈ asked then .tuple [.str (S [97, 115, 107]), .str (S a), .str (S b)] else .none := rd3_ask
theorem rdL_copy {a b : List Nat} : rd3 [99, 111, 112, 121] a b = if wordOk b = true then .tuple [.str (S [99, 111, 112, 121]), .str (S a), .str (S b)] else .none := rd3_copy
theorem rdL_alike {a b : List Nat} : rd3 [97, 108, 105, 107, 101] a b = if wordOk b = true then .tuple [.str (S [97, 108, 105, 107, 101]), .str (S a), .str (S b)] else .none := rd3_alike
theorem rdL_tell {a b : List Nat} : rd3 [116, 101, 108, 108] a b = if b ≠ [] then .tuple [.str (S [116, 101, 108, 108]), .str (S a), .str (S b)] else .none := rd3_tell
theorem drop_add {l a : List Nat} {ws : List (List Nat)} (hj : TL.joinL [32] ([97, 100, 100] :: a :: ws) = l) (hne : ws ≠ []) : l.drop (a.length + 5) = TL.joinL [32] ws := by
  cases ws with
  | nil => exact absurd rfl hne
  | cons b r =>
    rw [joinL_cons2, joinL_cons2] at hj
    rw [← hj, ← List.append_assoc, List.drop_append_of_le_length (by simp), List.drop_of_length_le (by simp), List.nil_append]
theorem sp_asked {Q : D → Prop} (h : Q (.list (asked.map dS))) : w__law_asked [] Q := by
  unfold w__law_asked
  rw [x_fnW]
  walk_at "lits"
  walk_at "w1"
  exact ⟨sz 9, h⟩
theorem sp_law_read {l : List Nat} {Q : D → Prop} (hl : l.length ≤ 10000) (hc : ∀ c ∈ l, c < 128) (h : Q (rd (cut1 32 l))) : w__law_read [.str (S l)] Q := by
  unfold w__law_read
  rw [x_fnW]
  walk_at "lits"
  walk_at "st"
  rw [o_split32]
  refine ⟨by omega, ?_⟩
  have hm : ∀ w ∈ cut1 32 l, w.length ≤ l.length ∧ 32 ∉ w ∧ ∀ x ∈ w, x ∈ l := fun w q => cut1_mem q
  have hn := cut1_len 32 l
  have hj := cut1_join 32 l
  have hne := cut1_ne 32 l
  generalize cut1 32 l = ws at h hm hn hj hne
  have hwl : ∀ w ∈ ws, w.length ≤ 16777216 := fun w q => Nat.le_trans (hm w q).1 (by omega)
  have hwc : ∀ w ∈ ws, ∀ c ∈ w, c < 128 := fun w q c z => hc c ((hm w q).2.2 c z)
  match ws, h, hm, hn, hj, hwl, hne, hwc with
  | [], h, hm, hn, hj, hwl, hne, hwc => exact absurd rfl hne
  | [k], h, hm, hn, hj, hwl, hne, hwc =>
    have hk := hwc k (by simp)
    rw [rd_1] at h
    walk_at "st"
    walk_at "cm"
    walk_at "st"
    walk_at "cm"
    refine ⟨sz 4, ?_⟩
    rw [inLBares hk]
    by_cases hb : k ∈ bares
    · rw [if_pos hb] at h
      show if decide (k ∈ bares) = true then _ else _
      rw [decide_eq_true hb, if_pos rfl]
      exact ⟨sz 1, h⟩
    · rw [if_neg hb] at h
      show if decide (k ∈ bares) = true then _ else _
      rw [decide_eq_false hb, if_neg (by decide)]
      exact h
  | [k, a], h, hm, hn, hj, hwl, hne, hwc =>
    have hk := hwc k (by simp)
    rw [rd_2] at h
    walk_at "st"
    walk_at "cm"
    walk_at "st"
    walk_at "cm"
    walk_at "st"
    walk_at "cm"
    refine sp_law_is_word (hwl a (by simp)) (hwc a (by simp)) ?_
    walk_at "ifs"
    cases e : wordOk a with
    | false =>
      rw [e] at h
      exact h
    | true =>
      rw [e, if_pos rfl] at h
      walk_at "ifs"
      walk_at "st"
      walk_at "cm"
      walk_at "st"
      walk_at "cm"
      refine ⟨sz 3, ?_⟩
      rw [inLTwos hk]
      by_cases hb : k ∈ twos
      · rw [if_pos hb] at h
        show if decide (k ∈ twos) = true then _ else _
        rw [decide_eq_true hb, if_pos rfl]
        exact ⟨sz 2, h⟩
      · rw [if_neg hb] at h
        show if decide (k ∈ twos) = true then _ else _
        rw [decide_eq_false hb, if_neg (by decide)]
        walk_at "st"
        walk_at "cm"
        exact h
  | [k, a, b], h, hm, hn, hj, hwl, hne, hwc =>
    have hk := hwc k (by simp)
    have hb := hwl b (by simp)
    have hbc := hwc b (by simp)
    have ha := hwl a (by simp)
    rw [rd_3] at h
    walk_at "st"
    walk_at "cm"
    walk_at "st"
    walk_at "cm"
    walk_at "st"
    walk_at "cm"
    refine sp_law_is_word ha (hwc a (by simp)) ?_
    walk_at "ifs"
    cases e : wordOk a with
    | false =>
      rw [e] at h
      exact h
    | true =>
      rw [e, if_pos rfl] at h
      walk_at "ifs"
      walk_at "st"
      walk_at "cm"
      rcases kindsL k with rfl | rfl | rfl | rfl | rfl | rfl | ⟨h1, h2, h3, h4, h5⟩
      · rw [rdL_add] at h
        walk_at "tab"
        walk_at "w1"
        refine ⟨ha, ?_⟩
        rw [o_slFrom (by omega), show ((a.length : Int) + 5).toNat = a.length + 5 by omega, drop_add hj (by simp)]
        exact ⟨by omega, sz 3, h⟩
      · rw [rdL_take] at h
        walk_at "tab"
        walk_at "st"
        walk_at "cm"
        walk_at "st"
        walk_at "cm"
        walk_at "st"
        walk_at "tab"
        walk_at "cm"
        refine sp_law_number hb hbc ?_
        walk_at "w1"
        unfold numOf at h ⊢
        cases e2 : numOk b with
        | true =>
          rw [e2, if_pos rfl] at h
          simp only [if_true, isNone, Bool.false_eq_true, if_false]
          refine sp_law_number hb hbc ?_
          unfold numOf
          rw [e2, if_pos rfl]
          exact ⟨sz 3, h⟩
        | false =>
          rw [e2] at h
          simp only [Bool.false_eq_true, if_false, isNone, if_true]
          exact h
      · rw [rdL_ask] at h
        walk_at "tab"
        walk_at "st"
        walk_at "cm"
        walk_at "st"
        walk_at "cm"
        walk_at "st"
        walk_at "tab"
        walk_at "st"
        walk_at "tab"
        walk_at "cm"
        refine sp_asked ?_
        refine Eq.mpr (o_inL (fun c q => by have := hbc c q; omega) (fun w hw c q => by have := bdAsked w hw c q; omega)) ?_
        by_cases hk : b ∈ asked
        · show if decide (b ∈ asked) = true then _ else _
          rw [decide_eq_true hk, if_pos rfl]
          rw [if_pos hk] at h
          exact ⟨sz 3, h⟩
        · show if decide (b ∈ asked) = true then _ else _
          rw [decide_eq_false hk, if_neg (by decide)]
          rw [if_neg hk] at h
          exact h
      · rw [rdL_copy] at h
        walk_at "tab"
        walk_at "st"
        walk_at "cm"
        walk_at "st"
        walk_at "cm"
        walk_at "st"
        walk_at "tab"
        walk_at "st"
        walk_at "tab"
        walk_at "st"
        refine ⟨sz 2, ?_⟩
        rw [inLCopies hk]
        walk_at "tab"
        walk_at "cm"
        refine sp_law_is_word hb hbc ?_
        walk_at "ifs"
        cases e2 : wordOk b with
        | true =>
          rw [e2, if_pos rfl] at h
          exact ⟨sz 3, h⟩
        | false =>
          rw [e2] at h
          exact h
      · rw [rdL_alike] at h
        walk_at "tab"
        walk_at "st"
        walk_at "cm"
        walk_at "st"
        walk_at "cm"
        walk_at "st"
        walk_at "tab"
        walk_at "st"
        walk_at "tab"
        walk_at "st"
        refine ⟨sz 2, ?_⟩
        rw [inLCopies hk]
        walk_at "tab"
        walk_at "cm"
        refine sp_law_is_word hb hbc ?_
        walk_at "ifs"
        cases e2 : wordOk b with
        | true =>
          rw [e2, if_pos rfl] at h
          exact ⟨sz 3, h⟩
        | false =>
          rw [e2] at h
          exact h
      · rw [rdL_tell] at h
        walk_at "tab"
        walk_at "st"
        walk_at "cm"
        walk_at "st"
        walk_at "cm"
        walk_at "st"
        walk_at "tab"
        walk_at "st"
        walk_at "tab"
        walk_at "st"
        refine ⟨sz 2, ?_⟩
        rw [inLCopies hk]
        walk_at "tab"
        walk_at "w1"
        walk_at "tab"
        walk_at "cm"
        walk_at "w1"
        by_cases hk : b = []
        · rw [decide_eq_true hk]
          rw [if_neg (by simp [hk])] at h
          exact h
        · rw [decide_eq_false hk]
          rw [if_pos hk] at h
          exact ⟨sz 3, h⟩
      · rw [rd3_other h1 h2 h3 h4 h5] at h
        have h1 : decide (k = [97, 100, 100]) = false := h1
        have h2 : decide (k = [116, 97, 107, 101]) = false := h2
        have h3 : decide (k = [97, 115, 107]) = false := h3
        have h5 : decide (k = [116, 101, 108, 108]) = false := h5
        rw [h1, if_neg (by decide)]
        walk_at "st"
        walk_at "cm"
        walk_at "st"
        walk_at "cm"
        walk_at "st"
        rw [h2, if_neg (by decide)]
        walk_at "st"
        rw [h3, if_neg (by decide)]
        walk_at "st"
        refine ⟨sz 2, ?_⟩
        rw [inLCopies hk]
        simp only [h4, Bool.false_eq_true, if_false]
        walk_at "w1"
        rw [h5, if_neg (by decide)]
        exact h
  | k :: a :: b :: c :: r, h, hm, hn, hj, hwl, hne, hwc =>
    have g1 : decide (((r.length + 1 + 1 + 1 + 1 : Nat) : Int) = 1) = false := decide_eq_false (by omega)
    have g2 : decide (((r.length + 1 + 1 + 1 + 1 : Nat) : Int) = 2) = false := decide_eq_false (by omega)
    have g3 : decide (((r.length + 1 + 1 + 1 + 1 : Nat) : Int) = 3) = false := decide_eq_false (by omega)
    have g4 : decide (((r.length + 1 + 1 + 1 + 1 : Nat) : Int) < 2) = false := decide_eq_false (by omega)
    have g5 : decide ((2 : Int) < ((r.length + 1 + 1 + 1 + 1 : Nat) : Int)) = true := decide_eq_true (by omega)
    have ha := hwl a (by simp)
    replace h : Q (if wordOk a = true then (if k = [97, 100, 100] then .tuple [.str (S [97, 100, 100]), .str (S a), .str (S (TL.joinL [32] (b :: c :: r)))] else .none) else .none) := h
    walk_at "st"
    walk_at "cm"
    walk_at "st"
    simp only [List.length_map, g1, Bool.false_eq_true, if_false]
    walk_at "st"
    walk_at "cm"
    refine sp_law_is_word ha (hwc a (by simp)) ?_
    walk_at "ifs"
    cases e : wordOk a with
    | false =>
      rw [e] at h
      exact h
    | true =>
      rw [e, if_pos rfl] at h
      walk_at "ifs"
      walk_at "st"
      simp only [List.length_map, g5, if_true]
      by_cases hk : k = [97, 100, 100]
      · subst hk
        rw [if_pos rfl] at h
        walk_at "tab"
        walk_at "cm"
        walk_at "w1"
        refine ⟨ha, ?_⟩
        rw [o_slFrom (by omega), show ((a.length : Int) + 5).toNat = a.length + 5 by omega, drop_add hj (by simp)]
        exact ⟨by omega, sz 3, h⟩
      · rw [if_neg hk] at h
        have h1 : decide (k = [97, 100, 100]) = false := decide_eq_false hk
        rw [h1, if_neg (by decide)]
        walk_at "st"
        simp only [List.length_map, g2, Bool.false_eq_true, if_false]
        walk_at "st"
        simp only [List.length_map, g3, Bool.not_false, if_true]
        exact h
end G_k97_orders_read_and_written

set_option Elab.async false
set_option linter.all false
set_option maxRecDepth 100000
set_option maxHeartbeats 2000000
namespace G_k97_orders_read_and_written
open PySem L2 Wy
open SX (S S_len S_cat S_inj in_one int_S num_S)
local macro_rules | `(tactic| walk_at "lits") => `(tactic| simp only [li0, li1, li2, li3, li4, li5, li6, li7, li8, li9, li10, li11, li12, li13, li14, li15, li16, li17, li18, li19, li20, li21, li22, li23, li24, li25, li26, li27, li28, li29, li30, li31, li32, li33, li34, li35, li36, li37, li38, li39, li40, li41, li42, li43, li44, li45, li46, li47, li48, li49, li50, li51, li52, li53, li54, li55, li56, li57, li58, li59])
local macro_rules | `(tactic| walk_at "wx") => `(tactic| simp only [x_seq, x_asg, x_asgS, x_ret, x_retN, x_ifS, x_next, x_drop, x_break, x_cont, x_frz, x_c, x_op, x_un, x_if, x_nil, x_cons, x_tup, x_lst, x_call, x_on1, x_fn, x_and, x_or, x_not, x_bW, x_tru, x_no, x_part, x_andV, x_orV, x_notV, x_chain, x_sl, x_m1, x_iter, x_rng1, x_rng2, x_for, x_lc, x_par, x_repl, x_own, x_vF, x_vH, x_vF0, x_vH0, x_slFd, x_slHd, x_slFo, x_slHo, x_var0, x_varS, x_aug0, x_aug1, x_aug2, o_addI, o_iaddI, o_subI, o_mulI, o_divI, o_modI, o_negI, o_addL, o_addT, o_addS, o_iaddS, o_lenS, o_lenL, o_lenT, o_ltI, o_leI, o_gtI, o_geI, o_eqS, o_neS, o_eqI, o_neI, o_isN, o_notN, o_isBv, o_ordS, o_intI, o_strI, o_inC, o_ninC, items_S, items_L, items_T, List.set_cons_zero, List.set_cons_succ, List.length_cons, List.length_nil, startS, List.map_cons, List.map_nil, List.replicate_succ, List.replicate_zero, List.cons_append, List.nil_append, Nat.reduceAdd, Nat.reduceSub, putS, true_and, and_true, x_truB, x_truL, x_truT, eq_self, if_true, if_false, Bool.false_eq_true])
local macro_rules | `(tactic| walk_at "st") => `(tactic| (rw [x_seq]; simp only [x_asg, x_asgS, x_ret, x_retN, x_ifS, x_next, x_drop, x_break, x_cont, x_frz, x_c, x_op, x_un, x_if, x_nil, x_cons, x_tup, x_lst, x_call, x_on1, x_fn, x_and, x_or, x_not, x_bW, x_tru, x_no, x_part, x_andV, x_orV, x_notV, x_chain, x_sl, x_m1, x_iter, x_rng1, x_rng2, x_for, x_lc, x_par, x_repl, x_own, x_vF, x_vH, x_vF0, x_vH0, x_slFd, x_slHd, x_slFo, x_slHo, x_var0, x_varS, x_aug0, x_aug1, x_aug2, o_addI, o_iaddI, o_subI, o_mulI, o_divI, o_modI, o_negI, o_addL, o_addT, o_addS, o_iaddS, o_lenS, o_lenL, o_lenT, o_ltI, o_leI, o_gtI, o_geI, o_eqS, o_neS, o_eqI, o_neI, o_isN, o_notN, o_isBv, o_ordS, o_intI, o_strI, o_inC, o_ninC, items_S, items_L, items_T, List.set_cons_zero, List.set_cons_succ, List.length_cons, List.length_nil, startS, List.map_cons, List.map_nil, List.replicate_succ, List.replicate_zero, List.cons_append, List.nil_append, Nat.reduceAdd, Nat.reduceSub, putS, true_and, and_true, x_truB, x_truL, x_truT, eq_self, if_true, if_false, Bool.false_eq_true]))
local macro_rules | `(tactic| walk_at "w1") => `(tactic| try simp only [x_asg, x_asgS, x_ret, x_retN, x_ifS, x_next, x_drop, x_break, x_cont, x_frz, x_c, x_op, x_un, x_if, x_nil, x_cons, x_tup, x_lst, x_call, x_on1, x_fn, x_and, x_or, x_not, x_bW, x_tru, x_no, x_part, x_andV, x_orV, x_notV, x_chain, x_sl, x_m1, x_iter, x_rng1, x_rng2, x_for, x_lc, x_par, x_repl, x_own, x_vF, x_vH, x_vF0, x_vH0, x_slFd, x_slHd, x_slFo, x_slHo, x_var0, x_varS, x_aug0, x_aug1, x_aug2, o_addI, o_iaddI, o_subI, o_mulI, o_divI, o_modI, o_negI, o_addL, o_addT, o_addS, o_iaddS, o_lenS, o_lenL, o_lenT, o_ltI, o_leI, o_gtI, o_geI, o_eqS, o_neS, o_eqI, o_neI, o_isN, o_notN, o_isBv, o_ordS, o_intI, o_strI, o_inC, o_ninC, items_S, items_L, items_T, List.set_cons_zero, List.set_cons_succ, List.length_cons, List.length_nil, startS, List.map_cons, List.map_nil, List.replicate_succ, List.replicate_zero, List.cons_append, List.nil_append, Nat.reduceAdd, Nat.reduceSub, putS, true_and, and_true, x_truB, x_truL, x_truT, eq_self, if_true, if_false, Bool.false_eq_true])
local macro_rules | `(tactic| walk_at "ifs") => `(tactic| try simp only [if_true, if_false, Bool.not_true, Bool.not_false, Bool.false_eq_true, Bool.true_and, Bool.and_true, Bool.false_and, Bool.and_false, x_truB, Bool.not_not])
local macro_rules | `(tactic| walk_at "tab") => `(tactic| try simp only [decide_true, eq_self, if_true, if_false, Bool.false_eq_true, tb0, tb1, tb2, tb3, tb4, tb5, tb6, tb7, tb8, tb9, tb10, tb11, tb12, tb13, tb14, tb15, tb16, tb17, tb18, tb19, tb20, tb21, tb22, tb23, tb24, tb25, tb26, tb27, tb28, tb29, tb30, tb31, tb32, tb33, tb34, tb35, tb36, tb37, tb38, tb39, tb40, tb41, tb42, tb43, tb44, tb45, tb46, tb47])
local macro_rules | `(tactic| walk_at "cm") => `(tactic| try simp only [cm0, cm1, cm2, cm3, cm4, cm5, cm6, cm7, cm8, cm9, cm10, cm11, cm12, cm13, cm14, ite_self, slL2, if_true, if_false, Bool.not_true, Bool.not_false, Bool.false_eq_true, ixL0, ixL1, ixL2, inTBares, inTTwos, inTCopies, inTAsked])
def tTold : List Nat := [116, 111, 108, 100]
def tWrong : List Nat := [119, 114, 111, 110, 103]
def tBad : Str := "BadOrder"
def tLine : Str := "line"
/-! orders -/
inductive Part where
  | t (l : List Nat)
  | n (k : Nat)
def Part.d : Part → D
  | .t l => .str (S l)
  | .n k => .int (k : Nat)
def Part.x : Part → List Nat
  | .t l => l
  | .n k => TL.numL k
def Part.ok : Part → Prop
  | .t l => l.length ≤ 100 ∧ ∀ c ∈ l, c < 128
  | .n k => k ≤ 9999
def od (ps : List Part) : D := .tuple (ps.map Part.d)
def line (ps : List Part) : List Nat := TL.joinL [32] (ps.map Part.x)
theorem numL_lt {k : Nat} : ∀ c ∈ TL.numL k, 48 ≤ c ∧ c ≤ 57 := TL.numL_digits k
theorem Part.x_len {p : Part} (h : p.ok) : p.x.length ≤ 100 := by
  cases p with
  | t l => exact h.1
  | n k => exact Nat.le_trans (TL.numL_len (k := 4) (by decide) (Nat.lt_of_le_of_lt h (by decide))) (by decide)
theorem strs_parts {ps : List Part} {δ : DE} {k : Nat} {QL : List D → Prop} (hp : ∀ p ∈ ps, p.ok) (hl : ps.length ≤ 100) (hδ : ∀ d R, wVar k (putD (wipeD δ [k]) [k] [d]) R = R d) (h : QL ((ps.map Part.x).map fun w => .str (S w))) :
    lcN (wipeD δ [k]) [k] uName wYes (wCall (on1 oStr) (wCons (wVar k) wNil)) (ps.map Part.d) [] QL := by
  have key : ∀ (qs : List Part) (acc : List D), (∀ p ∈ qs, p.ok) → acc.length + qs.length ≤ 16777216 → QL (acc ++ (qs.map Part.x).map fun w => .str (S w)) → lcN (wipeD δ [k]) [k] uName wYes (wCall (on1 oStr) (wCons (wVar k) wNil)) (qs.map Part.d) acc QL := by
    intro qs
    induction qs with
    | nil => intro acc _ _ h; rw [List.map_nil, List.map_nil, List.append_nil] at h; exact h
    | cons p qs ih =>
      intro acc hp hl h
      rw [List.length_cons] at hl
      refine ⟨_, rfl, ?_⟩
      show wCall (on1 oStr) (wCons (wVar k) wNil) _ _
      rw [x_call, x_cons, hδ, x_nil, x_on1]
      have fin := ih (acc ++ [.str (S p.x)]) (fun q hq => hp q (List.mem_cons_of_mem _ hq)) (by rw [List.length_append, List.length_singleton]; omega) (by rw [List.append_assoc]; exact h)
      cases p with
      | t l => exact ⟨by rw [sizeLine_eq]; omega, fin⟩
      | n j =>
        show oStr (.int (j : Nat)) _
        rw [o_strI]
        have : j ≤ 9999 := hp (.n j) (by simp)
        exact ⟨Nat.lt_trans (log2_of_lt (k := 14) (by decide) (by omega)) (by decide), by rw [sizeLine_eq]; omega, fin⟩
  exact key ps [] hp (by show 0 + _ ≤ _; omega) (by rw [List.nil_append]; exact h)
theorem sum_le {ws : List (List Nat)} {m : Nat} (h : ∀ w ∈ ws, w.length ≤ m) : (ws.map List.length).sum ≤ ws.length * m := by
  induction ws with
  | nil => exact Nat.zero_le _
  | cons w ws ih =>
    have h1 := h w (by simp)
    have h2 := ih fun x hx => h x (List.mem_cons_of_mem _ hx)
    rw [List.map_cons, List.sum_cons, List.length_cons, Nat.add_mul, Nat.one_mul]
    omega
theorem join_parts {ps : List Part} {Q : D → Prop} (hp : ∀ p ∈ ps, p.ok) (hl : ps.length ≤ 10) (h : Q (.str (S (line ps)))) : fJoin (S [32]) (.list ((ps.map Part.x).map fun w => .str (S w))) Q := by
  rw [fj]
  refine ⟨?_, h⟩
  have := sum_le (ws := ps.map Part.x) (m := 100) fun w hw => by
    obtain ⟨p, hq, rfl⟩ := List.mem_map.mp hw
    exact Part.x_len (hp p hq)
  rw [List.length_map] at this ⊢
  show _ + ps.length * 1 ≤ _
  omega
theorem line_len {ps : List Part} (hp : ∀ p ∈ ps, p.ok) (hl : ps.length ≤ 10) : (line ps).length ≤ 1010 := by
  have := sum_le (ws := ps.map Part.x) (m := 100) fun w hw => by
    obtain ⟨p, hq, rfl⟩ := List.mem_map.mp hw
    exact Part.x_len (hp p hq)
  have h2 := joinL_len [32] (ps.map Part.x)
  rw [List.length_map] at this h2
  unfold line
  have h3 : ps.length * [32].length = ps.length := Nat.mul_one _
  omega
theorem sp_write_order {ps : List Part} {Q : D → Prop} (hp : ∀ p ∈ ps, p.ok) (hl : ps.length ≤ 10) (h : Q (.str (S (line ps)))) : w_write_order [od ps] Q := by
  unfold w_write_order od
  rw [x_fnW]
  walk_at "lits"
  walk_at "w1"
  exact strs_parts hp (by omega) (fun d R => rfl) (join_parts hp hl h)
def OrdOk (ps : List Part) : Prop := (∀ p ∈ ps, p.ok) ∧ ps.length ≤ 10 ∧ rd (cut1 32 (line ps)) = od ps ∧ (∀ c ∈ line ps, c < 128) ∧ 10 ∉ line ps ∧ line ps ≠ []
theorem sp_write_orders {os : List (List Part)} {Q : D → Prop} (ho : ∀ o ∈ os, OrdOk o) (hl : os.length ≤ 8) (h : Q (.str (S (TL.joinL [10] (os.map line))))) : w_write_orders [.list (os.map od)] Q := by
  unfold w_write_orders
  rw [x_fnW]
  walk_at "lits"
  walk_at "w1"
  refine lc_map od (fun o => .str (S (line o))) os [] (fun o q R hR => ?_) (by show 0 + _ ≤ _; omega) ?_
  · have h1 := ho o q
    show wFn 1 w_write_order (wCons (wVar 1) wNil) _ R
    rw [x_fn, x_cons]
    exact ⟨rfl, sp_write_order h1.1 h1.2.1 hR⟩
  · show fJoin (S [10]) (.list (os.map fun o => .str (S (line o)))) Q
    have e : (os.map fun o => PyData.str (S (line o))) = (os.map line).map fun w => PyData.str (S w) := by rw [List.map_map]; rfl
    rw [e, fj]
    refine ⟨?_, h⟩
    have := sum_le (ws := os.map line) (m := 1010) fun w hw => by
      obtain ⟨o, hq, rfl⟩ := List.mem_map.mp hw
      exact line_len (ho o hq).1 (ho o hq).2.1
    rw [List.length_map] at this ⊢
    show _ + os.length * 1 ≤ _
    omega
/-! a text of lines, read -/
def badL (l : List Nat) : Bool := isNone (rd (cut1 32 l))
def outD (ls : List (List Nat)) : D := match ls.findIdx? badL with
  | none => .tuple [.str (S tTold), .list (ls.map fun l => rd (cut1 32 l))]
  | some i => .tuple [.str (S tWrong), .int (i + 1 : Nat)]
theorem x_wLs {w : SW} {ρ : SE} {P : PsW} {R : SE → ExD → Prop} : wLs w ρ P R = w ρ P := rfl
theorem x_wxSeq {w u : SWX} {ρ : SE} {P : PsW} {R : SE → ExD → Prop} : wxSeq w u ρ P R = w ρ { nx := fun ρ' => u ρ' P R, rt := P.rt, bk := P.bk, ct := P.ct } R := rfl
theorem x_wxIf {t : TW} {a b : SWX} {ρ : SE} {P : PsW} {R : SE → ExD → Prop} : wxIf t a b ρ P R = t (vF ρ) fun c => if c = true then a ρ P R else b ρ P R := rfl
theorem x_wxFor {wi : IW} {is : List Nat} {un : D → Option (List D)} {b : SWX} {ρ : SE} {P : PsW} {R : SE → ExD → Prop} : wxFor wi is un b ρ P R = wi (vH ρ) fun ds => forX is un b ds ρ P R := rfl
theorem x_fnWX {n : Nat} {w : SWX} {ds : List D} {Q : D → Prop} {R : ExD → Prop} : fnWX n w ds Q R = w (startS n ds) { nx := fun _ => Q .none, rt := Q } fun _ => R := rfl
theorem x_enum {a : EW} {δ : DE} {QI : List D → Prop} : wEnum a δ QI = a δ fun d => match d with | .list ds => QI (enumD ds) | _ => False := rfl
theorem sp_read_orders0 {Q : D → Prop} {R : ExD → Prop} (h : Q (.list [])) : w_read_orders [.str (S [])] Q R := by
  unfold w_read_orders
  rw [x_fnWX]
  walk_at "lits"
  rw [x_wxSeq, x_wLs]
  walk_at "w1"
  refine ⟨sz 0, ?_⟩
  rw [x_wxSeq, x_wLs]
  walk_at "w1"
  walk_at "tab"
  exact h
theorem x_wxRaise {x f lead : Str} {a : EW} {ρ : SE} {P : PsW} {R : SE → ExD → Prop} : wxRaise x f lead a ρ P R = a (vF ρ) fun d => match d with | .int i => (i.natAbs.log2 < 1920 ∧ (Str.empty ++ lead ++ (toString i : Str)).length ≤ sizeLine) ∧ R ρ (x, [(f, .int i)]) | _ => False := rfl
theorem loop_orders {Q : D → Prop} {R : ExD → Prop} {t : D} : ∀ (rest : List (List Nat)) (i : Nat) (acc : List D) (b2 b3 b4 : Option Sl), (∀ l ∈ rest, l.length ≤ 10000) → i + rest.length ≤ 200 → acc.length = i →
    (match rest.findIdx? badL with | none => Q (.list (acc ++ rest.map fun l => rd (cut1 32 l))) | some j => R (tBad, [(tLine, .int (i + j + 1 : Nat))])) →
    forX [2, 3] (uTup 2) (wxSeq (wLs (wAsg 4 (wFn 1 w_read_order (wCons (wVar 3) wNil)))) (wxSeq (wxIf (bW (wOp oIsN (wVar 4) (wC .none))) (wxRaise "BadOrder" "line" (S [108, 105, 110, 101, 32]) (wOp oAdd (wVar 2) (wC (.int 1)))) (wLs wNext)) (wLs (wApp 1 (wVar 4)))))
      (((rest.map fun w => PyData.str (S w)).zipIdx i).map fun p => .tuple [.int (p.2 : Nat), p.1]) [some (.dat t), some (.own acc), b2, b3, b4] { nx := fun ρ' => wLs (wRet (wVar 1)) ρ' { nx := fun x => Q .none, rt := Q } fun x => R, rt := Q } fun _ => R
  | [], i, acc, b2, b3, b4, _, _, _, h => by
    rw [List.map_nil, List.append_nil] at h
    exact h
  | l :: rest, i, acc, b2, b3, b4, hl, hn, ha, h => by
    rw [List.length_cons] at hn
    rw [List.findIdx?_cons] at h
    refine ⟨_, rfl, ?_⟩
    rw [x_wxSeq, x_wLs]
    walk_at "w1"
    refine sp_read_order (hl l (by simp)) ?_
    rw [x_wxSeq, x_wxIf]
    walk_at "w1"
    cases e : badL l with
    | true =>
      rw [e, if_pos rfl] at h
      rw [show isNone (rd (cut1 32 l)) = true from e, if_pos rfl, x_wxRaise]
      walk_at "w1"
      have e1 : ((i : Int) + 1) = ((i + 0 + 1 : Nat) : Int) := by omega
      rw [e1]
      refine ⟨⟨Nat.lt_trans (log2_of_lt (k := 14) (by decide) (show i + 0 + 1 < 2 ^ 14 by omega)) (by decide), ?_⟩, h⟩
      rw [num_S, show Str.empty = S [] from rfl, S_cat, S_cat, S_len, List.length_append, List.length_append, sizeLine_eq]
      have := TL.numL_len (n := i + 0 + 1) (k := 4) (by decide) (by omega)
      simp only [List.length_cons, List.length_nil]
      omega
    | false =>
      rw [e, if_neg (by decide)] at h
      rw [show isNone (rd (cut1 32 l)) = false from e, if_neg (by decide)]
      rw [x_wLs, x_next]
      dsimp only
      rw [x_wLs, x_app1]
      walk_at "w1"
      refine ⟨by rw [sizeLine_eq]; omega, ?_⟩
      refine loop_orders rest (i + 1) (acc ++ [rd (cut1 32 l)]) _ _ _ (fun x hx => hl x (List.mem_cons_of_mem _ hx)) (by omega) (by rw [List.length_append, ha]; rfl) ?_
      cases e2 : rest.findIdx? badL with
      | none =>
        rw [e2] at h
        rw [List.append_assoc]
        exact h
      | some j =>
        rw [e2] at h
        have e3 : i + 1 + j + 1 = i + (j + 1) + 1 := by omega
        show R (tBad, [(tLine, .int (i + 1 + j + 1 : Nat))])
        rw [e3]
        exact h
theorem sp_read_orders {ls : List (List Nat)} {Q : D → Prop} {R : ExD → Prop} (hne : ls ≠ []) (h0 : TL.joinL [10] ls ≠ []) (hf : ∀ l ∈ ls, 10 ∉ l) (hl : ∀ l ∈ ls, l.length ≤ 10000) (hn : ls.length ≤ 100)
    (h : match ls.findIdx? badL with | none => Q (.list (ls.map fun l => rd (cut1 32 l))) | some i => R (tBad, [(tLine, .int (i + 1 : Nat))])) : w_read_orders [.str (S (TL.joinL [10] ls))] Q R := by
  unfold w_read_orders
  rw [x_fnWX]
  walk_at "lits"
  rw [x_wxSeq, x_wLs]
  walk_at "w1"
  refine ⟨sz 0, ?_⟩
  rw [x_wxSeq, x_wLs]
  walk_at "w1"
  rw [decide_eq_false h0, if_neg (by decide)]
  rw [x_wxSeq, x_wxFor, x_enum]
  walk_at "w1"
  rw [o_split10, cut1_join' hne hf]
  have hlen := joinL_len [10] ls
  have hsum := sum_le hl
  refine ⟨by have : ls.length * [10].length = ls.length := Nat.mul_one _; omega, ?_⟩
  refine loop_orders ls 0 [] none none none hl (by omega) rfl ?_
  cases e : ls.findIdx? badL with
  | none =>
    rw [e] at h
    exact h
  | some j =>
    rw [e] at h
    show R (tBad, [(tLine, .int (0 + j + 1 : Nat))])
    rw [Nat.zero_add]
    exact h
theorem sp_law_text0 {Q : D → Prop} (h : Q (.tuple [.str (S tTold), .list []])) : w__law_text [.str (S [])] Q := by
  have e : (S tTold : Str) = ("told" : Str) := by decide +kernel
  rw [e] at h
  exact sp_read_orders0 h
theorem sp_law_text {ls : List (List Nat)} {Q : D → Prop} (hne : ls ≠ []) (h0 : TL.joinL [10] ls ≠ []) (hf : ∀ l ∈ ls, 10 ∉ l) (hl : ∀ l ∈ ls, l.length ≤ 10000) (hn : ls.length ≤ 100) (h : Q (outD ls)) : w__law_text [.str (S (TL.joinL [10] ls))] Q := by
  have e : (S tTold : Str) = ("told" : Str) := by decide +kernel
  have e2 : (S tWrong : Str) = ("wrong" : Str) := by decide +kernel
  refine sp_read_orders hne h0 hf hl hn ?_
  unfold outD at h
  cases q : ls.findIdx? badL with
  | none =>
    rw [q] at h
    dsimp only at h ⊢
    rw [e] at h
    exact h
  | some j =>
    rw [q] at h
    dsimp only at h ⊢
    rw [e2] at h
    exact ⟨rfl, _, rfl, h⟩
end G_k97_orders_read_and_written

set_option Elab.async false
set_option linter.all false
set_option maxRecDepth 100000
set_option maxHeartbeats 2000000
namespace G_k97_orders_read_and_written
open PySem L2 Wy
open SX (S S_len S_cat S_inj in_one int_S num_S)
local macro_rules | `(tactic| walk_at "lits") => `(tactic| simp only [li0, li1, li2, li3, li4, li5, li6, li7, li8, li9, li10, li11, li12, li13, li14, li15, li16, li17, li18, li19, li20, li21, li22, li23, li24, li25, li26, li27, li28, li29, li30, li31, li32, li33, li34, li35, li36, li37, li38, li39, li40, li41, li42, li43, li44, li45, li46, li47, li48, li49, li50, li51, li52, li53, li54, li55, li56, li57, li58, li59])
local macro_rules | `(tactic| walk_at "wx") => `(tactic| simp only [x_seq, x_asg, x_asgS, x_ret, x_retN, x_ifS, x_next, x_drop, x_break, x_cont, x_frz, x_c, x_op, x_un, x_if, x_nil, x_cons, x_tup, x_lst, x_call, x_on1, x_fn, x_and, x_or, x_not, x_bW, x_tru, x_no, x_part, x_andV, x_orV, x_notV, x_chain, x_sl, x_m1, x_iter, x_rng1, x_rng2, x_for, x_lc, x_par, x_repl, x_own, x_vF, x_vH, x_vF0, x_vH0, x_slFd, x_slHd, x_slFo, x_slHo, x_var0, x_varS, x_aug0, x_aug1, x_aug2, o_addI, o_iaddI, o_subI, o_mulI, o_divI, o_modI, o_negI, o_addL, o_addT, o_addS, o_iaddS, o_lenS, o_lenL, o_lenT, o_ltI, o_leI, o_gtI, o_geI, o_eqS, o_neS, o_eqI, o_neI, o_isN, o_notN, o_isBv, o_ordS, o_intI, o_strI, o_inC, o_ninC, items_S, items_L, items_T, List.set_cons_zero, List.set_cons_succ, List.length_cons, List.length_nil, startS, List.map_cons, List.map_nil, List.replicate_succ, List.replicate_zero, List.cons_append, List.nil_append, Nat.reduceAdd, Nat.reduceSub, putS, true_and, and_true, x_truB, x_truL, x_truT, eq_self, if_true, if_false, Bool.false_eq_true])
local macro_rules | `(tactic| walk_at "st") => `(tactic| (rw [x_seq]; simp only [x_asg, x_asgS, x_ret, x_retN, x_ifS, x_next, x_drop, x_break, x_cont, x_frz, x_c, x_op, x_un, x_if, x_nil, x_cons, x_tup, x_lst, x_call, x_on1, x_fn, x_and, x_or, x_not, x_bW, x_tru, x_no, x_part, x_andV, x_orV, x_notV, x_chain, x_sl, x_m1, x_iter, x_rng1, x_rng2, x_for, x_lc, x_par, x_repl, x_own, x_vF, x_vH, x_vF0, x_vH0, x_slFd, x_slHd, x_slFo, x_slHo, x_var0, x_varS, x_aug0, x_aug1, x_aug2, o_addI, o_iaddI, o_subI, o_mulI, o_divI, o_modI, o_negI, o_addL, o_addT, o_addS, o_iaddS, o_lenS, o_lenL, o_lenT, o_ltI, o_leI, o_gtI, o_geI, o_eqS, o_neS, o_eqI, o_neI, o_isN, o_notN, o_isBv, o_ordS, o_intI, o_strI, o_inC, o_ninC, items_S, items_L, items_T, List.set_cons_zero, List.set_cons_succ, List.length_cons, List.length_nil, startS, List.map_cons, List.map_nil, List.replicate_succ, List.replicate_zero, List.cons_append, List.nil_append, Nat.reduceAdd, Nat.reduceSub, putS, true_and, and_true, x_truB, x_truL, x_truT, eq_self, if_true, if_false, Bool.false_eq_true]))
local macro_rules | `(tactic| walk_at "w1") => `(tactic| try simp only [x_asg, x_asgS, x_ret, x_retN, x_ifS, x_next, x_drop, x_break, x_cont, x_frz, x_c, x_op, x_un, x_if, x_nil, x_cons, x_tup, x_lst, x_call, x_on1, x_fn, x_and, x_or, x_not, x_bW, x_tru, x_no, x_part, x_andV, x_orV, x_notV, x_chain, x_sl, x_m1, x_iter, x_rng1, x_rng2, x_for, x_lc, x_par, x_repl, x_own, x_vF, x_vH, x_vF0, x_vH0, x_slFd, x_slHd, x_slFo, x_slHo, x_var0, x_varS, x_aug0, x_aug1, x_aug2, o_addI, o_iaddI, o_subI, o_mulI, o_divI, o_modI, o_negI, o_addL, o_addT, o_addS, o_iaddS, o_lenS, o_lenL, o_lenT, o_ltI, o_leI, o_gtI, o_geI, o_eqS, o_neS, o_eqI, o_neI, o_isN, o_notN, o_isBv, o_ordS, o_intI, o_strI, o_inC, o_ninC, items_S, items_L, items_T, List.set_cons_zero, List.set_cons_succ, List.length_cons, List.length_nil, startS, List.map_cons, List.map_nil, List.replicate_succ, List.replicate_zero, List.cons_append, List.nil_append, Nat.reduceAdd, Nat.reduceSub, putS, true_and, and_true, x_truB, x_truL, x_truT, eq_self, if_true, if_false, Bool.false_eq_true])
local macro_rules | `(tactic| walk_at "ifs") => `(tactic| try simp only [if_true, if_false, Bool.not_true, Bool.not_false, Bool.false_eq_true, Bool.true_and, Bool.and_true, Bool.false_and, Bool.and_false, x_truB, Bool.not_not])
local macro_rules | `(tactic| walk_at "tab") => `(tactic| try simp only [decide_true, eq_self, if_true, if_false, Bool.false_eq_true, tb0, tb1, tb2, tb3, tb4, tb5, tb6, tb7, tb8, tb9, tb10, tb11, tb12, tb13, tb14, tb15, tb16, tb17, tb18, tb19, tb20, tb21, tb22, tb23, tb24, tb25, tb26, tb27, tb28, tb29, tb30, tb31, tb32, tb33, tb34, tb35, tb36, tb37, tb38, tb39, tb40, tb41, tb42, tb43, tb44, tb45, tb46, tb47])
local macro_rules | `(tactic| walk_at "cm") => `(tactic| try simp only [cm0, cm1, cm2, cm3, cm4, cm5, cm6, cm7, cm8, cm9, cm10, cm11, cm12, cm13, cm14, ite_self, slL2, if_true, if_false, Bool.not_true, Bool.not_false, Bool.false_eq_true, ixL0, ixL1, ixL2, inTBares, inTTwos, inTCopies, inTAsked])
theorem pick_eq : w__law_pick = pickW := rfl
theorem same_eq : ∀ n, w__law_same n = sameW n
  | 0 => rfl
  | n + 1 => by
    show bb__law_same (w__law_same n) = bbSame (sameW n)
    rw [same_eq n]
    rfl
theorem sp_lpick {xs : List D} {Q : D → Prop} (hl : xs.length ≤ 1000) (h0 : 0 < xs.length) (h : ∀ x ∈ xs, Q x) : w__law_pick [bxD, .list xs] Q := by
  rw [pick_eq]
  exact sp_pick hl h0 h
theorem sp_lpickT {ls : List (List Nat)} {Q : D → Prop} (hl : ls.length ≤ 1000) (h0 : 0 < ls.length) (h : ∀ l ∈ ls, Q (.str (S l))) : w__law_pick [bxD, .list (ls.map fun l => .str (S l))] Q := by
  refine sp_lpick (by rw [List.length_map]; exact hl) (by rw [List.length_map]; exact h0) fun x hx => ?_
  obtain ⟨l, hq, rfl⟩ := List.mem_map.mp hx
  exact h l hq
theorem wordOk_iff {w : List Nat} : wordOk w = true ↔ 1 ≤ w.length ∧ w.length ≤ 8 ∧ ∀ c ∈ w, c ∈ az := by
  unfold wordOk
  simp [List.all_eq_true]
theorem chars_in {z : List Nat} : ∀ {ys : List D}, (∀ y ∈ ys, ∃ c, c ∈ z ∧ y = PyData.str (S [c])) → ∃ cs : List Nat, ys = cs.map (fun c => PyData.str (S [c])) ∧ ∀ c ∈ cs, c ∈ z
  | [], _ => ⟨[], rfl, fun _ h => by cases h⟩
  | y :: ys, h => by
    obtain ⟨c, hc, e⟩ := h y List.mem_cons_self
    obtain ⟨cs, e2, h2⟩ := chars_in (ys := ys) fun x hx => h x (List.mem_cons_of_mem _ hx)
    exact ⟨c :: cs, by rw [e, e2]; rfl, fun x hx => by rcases List.mem_cons.mp hx with rfl | hx; exact hc; exact h2 x hx⟩
theorem sp_law_word {Q : D → Prop} (h : ∀ w, wordOk w = true → Q (.str (S w))) : w__law_word [bxD] Q := by
  unfold w__law_word
  rw [x_fnW]
  walk_at "lits"
  walk_at "w1"
  refine ⟨sz 5, ?_⟩
  have fin : ∀ j : Int, 1 ≤ j → j ≤ 8 → (-(2 ^ 62) ≤ j ∧ j < 2 ^ 62) ∧ lcN (wipeD [some bxD, slF none] [1]) [1] uName wYes (wFn 2 w__law_pick (wCons (wVar 0) (wCons (wC (.str (S az))) wNil))) (rangeD 0 j.toNat) [] fun l => fJoin (S []) (.list l) Q := fun j j0 j1 => by
    refine ⟨⟨by omega, by omega⟩, ?_⟩
    have hr : (rangeD 0 j.toNat).length = j.toNat := by unfold rangeD; rw [List.length_map, List.length_range]
    refine lc_any (fun y => ∃ c, c ∈ az ∧ y = PyData.str (S [c])) _ _ (fun d hd => ⟨_, rfl, fun R hR => ?_⟩) (by rw [hr]; show 0 + _ ≤ _; omega) fun ys hl hy => ?_
    · show 2 = 2 ∧ w__law_pick [bxD, .str (S az)] R
      rw [pick_eq]
      exact ⟨rfl, sp_pickS (by decide) (by decide) fun c hc => hR _ ⟨c, hc, rfl⟩⟩
    · obtain ⟨cs, e, hc⟩ := chars_in hy
      rw [hr, e, List.length_map] at hl
      rw [e, List.nil_append]
      show fJoin (S []) (.list (cs.map fun c => PyData.str (S [c]))) Q
      rw [show (cs.map fun c => PyData.str (S [c])) = (cs.map fun c => [c]).map (fun w => PyData.str (S w)) by rw [List.map_map]; rfl, fj]
      refine ⟨?_, ?_⟩
      · have := sum_le (ws := cs.map fun c => [c]) (m := 1) fun w hw => by
          obtain ⟨c, _, rfl⟩ := List.mem_map.mp hw
          exact Nat.le_refl _
        rw [List.length_map] at this ⊢
        show _ + cs.length * 0 ≤ _
        omega
      · rw [joinL_single]
        exact h cs (wordOk_iff.mpr ⟨by omega, by omega, hc⟩)
  refine sp_lpick (by decide) (by decide) fun x hx => ?_
  simp only [List.mem_cons, List.not_mem_nil, or_false] at hx
  rcases hx with rfl | rfl | rfl | rfl | rfl <;> exact fin _ (by decide) (by decide)
/-! each drawn order is one -/
theorem line_free {c : Nat} {ps : List Part} (hc : c ≠ 32) (h : ∀ p ∈ ps, c ∉ p.x) : c ∉ line ps := fun z => by
  rcases joinL_mem z with z | ⟨w, hw, z⟩
  · exact hc (List.mem_singleton.mp z)
  · obtain ⟨p, hp, rfl⟩ := List.mem_map.mp hw
    exact h p hp z
theorem line_lt {ps : List Part} (h : ∀ p ∈ ps, ∀ c ∈ p.x, c < 128) : ∀ c ∈ line ps, c < 128 := fun c z => by
  rcases joinL_mem z with z | ⟨w, hw, z⟩
  · rw [List.mem_singleton.mp z]; decide
  · obtain ⟨p, hp, rfl⟩ := List.mem_map.mp hw
    exact h p hp c z
theorem line_ne {p : Part} {ps : List Part} (h : p.x ≠ []) : line (p :: ps) ≠ [] := by
  cases ps with
  | nil => exact h
  | cons q qs =>
    intro z
    have : TL.joinL [32] (p.x :: q.x :: qs.map Part.x) = [] := z
    rw [joinL_cons2] at this
    simp at this
theorem cut_line {ps : List Part} (h0 : ps ≠ []) (h : ∀ p ∈ ps, 32 ∉ p.x) : cut1 32 (line ps) = ps.map Part.x := by
  refine cut1_join' (by simpa using h0) fun w hw => ?_
  obtain ⟨p, hp, rfl⟩ := List.mem_map.mp hw
  exact h p hp
/-- signs of a word, of a number -/
structure Nice (l : List Nat) : Prop where
  len : l.length ≤ 100
  lt : ∀ c ∈ l, c < 128
  n10 : 10 ∉ l
  n32 : 32 ∉ l
instance (l : List Nat) : Decidable (Nice l) := decidable_of_iff (l.length ≤ 100 ∧ (∀ c ∈ l, c < 128) ∧ 10 ∉ l ∧ 32 ∉ l) ⟨fun h => ⟨h.1, h.2.1, h.2.2.1, h.2.2.2⟩, fun h => ⟨h.1, h.2, h.3, h.4⟩⟩
theorem nice_word {w : List Nat} (h : wordOk w = true) : Nice w := by
  obtain ⟨h1, h2, h3⟩ := wordOk_iff.mp h
  have key : ∀ c ∈ az, c < 128 ∧ c ≠ 10 ∧ c ≠ 32 := by decide
  exact ⟨by omega, fun c hc => (key c (h3 c hc)).1, fun z => (key 10 (h3 10 z)).2.1 rfl, fun z => (key 32 (h3 32 z)).2.2 rfl⟩
theorem nice_num {k : Nat} (h : k ≤ 9999) : Nice (TL.numL k) :=
  ⟨Part.x_len (p := .n k) h, fun c hc => by have := numL_lt c hc; omega, TL.numL_free (by decide), TL.numL_free (by decide)⟩
theorem word_ne {w : List Nat} (h : wordOk w = true) : w ≠ [] := fun z => by
  have := (wordOk_iff.mp h).1
  rw [z] at this
  exact absurd this (by decide)
theorem ord_of {p : Part} {ps : List Part} (hl : ps.length ≤ 9) (hok : ∀ q ∈ p :: ps, q.ok) (hn : ∀ q ∈ p :: ps, Nice q.x) (h0 : p.x ≠ []) (hr : rd ((p :: ps).map Part.x) = od (p :: ps)) : OrdOk (p :: ps) :=
  ⟨hok, by rw [List.length_cons]; omega, by rw [cut_line (by simp) fun q hq => (hn q hq).n32]; exact hr, line_lt fun q hq => (hn q hq).lt, line_free (by decide) fun q hq => (hn q hq).n10, line_ne h0⟩
theorem okt {l : List Nat} (h : Nice l) : (Part.t l).ok := ⟨h.len, h.lt⟩
theorem nices : (∀ l ∈ bares, Nice l ∧ l ≠ []) ∧ (∀ l ∈ twos, Nice l ∧ l ≠ []) ∧ (∀ l ∈ asked, Nice l ∧ l ≠ []) ∧ (∀ l ∈ copies, Nice l ∧ l ≠ []) := by decide
theorem ord1 {k : List Nat} (h : k ∈ bares) : OrdOk [.t k] := by
  obtain ⟨h1, h2⟩ := nices.1 k h
  refine ord_of (by simp) (fun q hq => ?_) (fun q hq => ?_) h2 ?_
  · rw [List.mem_singleton.mp hq]; exact okt h1
  · rw [List.mem_singleton.mp hq]; exact h1
  · show rd [k] = _
    rw [rd_1, if_pos h]
    rfl
theorem ord2 {k w : List Nat} (h : k ∈ twos) (hw : wordOk w = true) : OrdOk [.t k, .t w] := by
  obtain ⟨h1, h2⟩ := nices.2.1 k h
  have h3 := nice_word hw
  refine ord_of (by simp) (fun q hq => ?_) (fun q hq => ?_) h2 ?_
  · simp only [List.mem_cons, List.not_mem_nil, or_false] at hq
    rcases hq with rfl | rfl
    · exact okt h1
    · exact okt h3
  · simp only [List.mem_cons, List.not_mem_nil, or_false] at hq
    rcases hq with rfl | rfl
    · exact h1
    · exact h3
  · show rd [k, w] = _
    rw [rd_2, if_pos hw, if_pos h]
    rfl
theorem ord3 {k w : List Nat} {p : Part} (hk : Nice k ∧ k ≠ []) (hw : wordOk w = true) (hp : p.ok) (hx : Nice p.x) (hr : rd3 k w p.x = od [.t k, .t w, p]) : OrdOk [.t k, .t w, p] := by
  have h3 := nice_word hw
  refine ord_of (by simp) (fun q hq => ?_) (fun q hq => ?_) hk.2 ?_
  · simp only [List.mem_cons, List.not_mem_nil, or_false] at hq
    rcases hq with rfl | rfl | rfl
    · exact okt hk.1
    · exact okt h3
    · exact hp
  · simp only [List.mem_cons, List.not_mem_nil, or_false] at hq
    rcases hq with rfl | rfl | rfl
    · exact hk.1
    · exact h3
    · exact hx
  · show rd [k, w, p.x] = _
    rw [rd_3, if_pos hw, hr]
theorem ord_take {w : List Nat} {n : Nat} (hw : wordOk w = true) (hn : n ≤ 9999) (ho : numOk (TL.numL n) = true) : OrdOk [.t tTake, .t w, .n n] := by
  refine ord3 (by decide) hw hn (nice_num hn) ?_
  show rd3 tTake w (TL.numL n) = _
  rw [rd3_take]
  unfold numOf
  rw [if_pos ho, TL.numL_val]
  rfl
theorem ord_ask {w a : List Nat} (hw : wordOk w = true) (ha : a ∈ asked) : OrdOk [.t tAsk, .t w, .t a] := by
  refine ord3 (by decide) hw (okt (nices.2.2.1 a ha).1) (nices.2.2.1 a ha).1 ?_
  show rd3 tAsk w a = _
  rw [rd3_ask, if_pos ha]
  rfl
theorem ord_tell {w a : List Nat} (hw : wordOk w = true) (ha : Nice a) (h0 : a ≠ []) : OrdOk [.t tTell, .t w, .t a] := by
  refine ord3 (by decide) hw (okt ha) ha ?_
  show rd3 tTell w a = _
  rw [rd3_tell, if_pos h0]
  rfl
theorem ord_copy {k w a : List Nat} (hk : k ∈ copies) (hw : wordOk w = true) (ha : wordOk a = true) : OrdOk [.t k, .t w, .t a] := by
  refine ord3 (nices.2.2.2 k hk) hw (okt (nice_word ha)) (nice_word ha) ?_
  show rd3 k w a = _
  have : k = tCopy ∨ k = tAlike := by simpa [copies, tCopy, tAlike] using hk
  rcases this with rfl | rfl
  · rw [rd3_copy, if_pos ha]; rfl
  · rw [rd3_alike, if_pos ha]; rfl
theorem ord_add {w x : List Nat} (hw : wordOk w = true) (h1 : x.length ≤ 100) (h2 : ∀ c ∈ x, c < 128) (h3 : 10 ∉ x) : OrdOk [.t tAdd, .t w, .t x] := by
  have hn := nice_word hw
  have hm : ∀ q ∈ [Part.t tAdd, .t w, .t x], q.ok ∧ (∀ c ∈ q.x, c < 128) ∧ 10 ∉ q.x := fun q hq => by
    simp only [List.mem_cons, List.not_mem_nil, or_false] at hq
    rcases hq with rfl | rfl | rfl
    · exact ⟨⟨by decide, by decide⟩, by decide, by decide⟩
    · exact ⟨okt hn, hn.lt, hn.n10⟩
    · exact ⟨⟨h1, h2⟩, h2, h3⟩
  refine ⟨fun q hq => (hm q hq).1, by simp, ?_, line_lt fun q hq => (hm q hq).2.1, line_free (by decide) fun q hq => (hm q hq).2.2, line_ne (by decide)⟩
  have e : line [.t tAdd, .t w, .t x] = tAdd ++ 32 :: (w ++ 32 :: x) := by
    show TL.joinL [32] [tAdd, w, x] = _
    rw [joinL_cons2, joinL_cons2, List.append_assoc, List.append_assoc]
    rfl
  rw [e, cut1_app _ (by decide), cut1_app _ hn.n32]
  obtain ⟨b, r, eb⟩ := cut1_ex 32 x
  have hj := cut1_join 32 x
  rw [eb] at hj ⊢
  cases r with
  | nil =>
    have : b = x := hj
    rw [rd_3, if_pos hw, rd3_add, this]
    rfl
  | cons c r =>
    rw [rd_4, if_pos hw, if_pos rfl, hj]
    rfl
end G_k97_orders_read_and_written

set_option Elab.async false
set_option linter.all false
set_option maxRecDepth 100000
set_option maxHeartbeats 2000000
namespace G_k97_orders_read_and_written
open PySem L2 Wy
open SX (S S_len S_cat S_inj in_one int_S num_S)
local macro_rules | `(tactic| walk_at "lits") => `(tactic| simp only [li0, li1, li2, li3, li4, li5, li6, li7, li8, li9, li10, li11, li12, li13, li14, li15, li16, li17, li18, li19, li20, li21, li22, li23, li24, li25, li26, li27, li28, li29, li30, li31, li32, li33, li34, li35, li36, li37, li38, li39, li40, li41, li42, li43, li44, li45, li46, li47, li48, li49, li50, li51, li52, li53, li54, li55, li56, li57, li58, li59])
local macro_rules | `(tactic| walk_at "wx") => `(tactic| simp only [x_seq, x_asg, x_asgS, x_ret, x_retN, x_ifS, x_next, x_drop, x_break, x_cont, x_frz, x_c, x_op, x_un, x_if, x_nil, x_cons, x_tup, x_lst, x_call, x_on1, x_fn, x_and, x_or, x_not, x_bW, x_tru, x_no, x_part, x_andV, x_orV, x_notV, x_chain, x_sl, x_m1, x_iter, x_rng1, x_rng2, x_for, x_lc, x_par, x_repl, x_own, x_vF, x_vH, x_vF0, x_vH0, x_slFd, x_slHd, x_slFo, x_slHo, x_var0, x_varS, x_aug0, x_aug1, x_aug2, o_addI, o_iaddI, o_subI, o_mulI, o_divI, o_modI, o_negI, o_addL, o_addT, o_addS, o_iaddS, o_lenS, o_lenL, o_lenT, o_ltI, o_leI, o_gtI, o_geI, o_eqS, o_neS, o_eqI, o_neI, o_isN, o_notN, o_isBv, o_ordS, o_intI, o_strI, o_inC, o_ninC, items_S, items_L, items_T, List.set_cons_zero, List.set_cons_succ, List.length_cons, List.length_nil, startS, List.map_cons, List.map_nil, List.replicate_succ, List.replicate_zero, List.cons_append, List.nil_append, Nat.reduceAdd, Nat.reduceSub, putS, true_and, and_true, x_truB, x_truL, x_truT, eq_self, if_true, if_false, Bool.false_eq_true])
local macro_rules | `(tactic| walk_at "st") => `(tactic| (rw [x_seq]; simp only [x_asg, x_asgS, x_ret, x_retN, x_ifS, x_next, x_drop, x_break, x_cont, x_frz, x_c, x_op, x_un, x_if, x_nil, x_cons, x_tup, x_lst, x_call, x_on1, x_fn, x_and, x_or, x_not, x_bW, x_tru, x_no, x_part, x_andV, x_orV, x_notV, x_chain, x_sl, x_m1, x_iter, x_rng1, x_rng2, x_for, x_lc, x_par, x_repl, x_own, x_vF, x_vH, x_vF0, x_vH0, x_slFd, x_slHd, x_slFo, x_slHo, x_var0, x_varS, x_aug0, x_aug1, x_aug2, o_addI, o_iaddI, o_subI, o_mulI, o_divI, o_modI, o_negI, o_addL, o_addT, o_addS, o_iaddS, o_lenS, o_lenL, o_lenT, o_ltI, o_leI, o_gtI, o_geI, o_eqS, o_neS, o_eqI, o_neI, o_isN, o_notN, o_isBv, o_ordS, o_intI, o_strI, o_inC, o_ninC, items_S, items_L, items_T, List.set_cons_zero, List.set_cons_succ, List.length_cons, List.length_nil, startS, List.map_cons, List.map_nil, List.replicate_succ, List.replicate_zero, List.cons_append, List.nil_append, Nat.reduceAdd, Nat.reduceSub, putS, true_and, and_true, x_truB, x_truL, x_truT, eq_self, if_true, if_false, Bool.false_eq_true]))
local macro_rules | `(tactic| walk_at "w1") => `(tactic| try simp only [x_asg, x_asgS, x_ret, x_retN, x_ifS, x_next, x_drop, x_break, x_cont, x_frz, x_c, x_op, x_un, x_if, x_nil, x_cons, x_tup, x_lst, x_call, x_on1, x_fn, x_and, x_or, x_not, x_bW, x_tru, x_no, x_part, x_andV, x_orV, x_notV, x_chain, x_sl, x_m1, x_iter, x_rng1, x_rng2, x_for, x_lc, x_par, x_repl, x_own, x_vF, x_vH, x_vF0, x_vH0, x_slFd, x_slHd, x_slFo, x_slHo, x_var0, x_varS, x_aug0, x_aug1, x_aug2, o_addI, o_iaddI, o_subI, o_mulI, o_divI, o_modI, o_negI, o_addL, o_addT, o_addS, o_iaddS, o_lenS, o_lenL, o_lenT, o_ltI, o_leI, o_gtI, o_geI, o_eqS, o_neS, o_eqI, o_neI, o_isN, o_notN, o_isBv, o_ordS, o_intI, o_strI, o_inC, o_ninC, items_S, items_L, items_T, List.set_cons_zero, List.set_cons_succ, List.length_cons, List.length_nil, startS, List.map_cons, List.map_nil, List.replicate_succ, List.replicate_zero, List.cons_append, List.nil_append, Nat.reduceAdd, Nat.reduceSub, putS, true_and, and_true, x_truB, x_truL, x_truT, eq_self, if_true, if_false, Bool.false_eq_true])
local macro_rules | `(tactic| walk_at "ifs") => `(tactic| try simp only [if_true, if_false, Bool.not_true, Bool.not_false, Bool.false_eq_true, Bool.true_and, Bool.and_true, Bool.false_and, Bool.and_false, x_truB, Bool.not_not])
local macro_rules | `(tactic| walk_at "tab") => `(tactic| try simp only [decide_true, eq_self, if_true, if_false, Bool.false_eq_true, tb0, tb1, tb2, tb3, tb4, tb5, tb6, tb7, tb8, tb9, tb10, tb11, tb12, tb13, tb14, tb15, tb16, tb17, tb18, tb19, tb20, tb21, tb22, tb23, tb24, tb25, tb26, tb27, tb28, tb29, tb30, tb31, tb32, tb33, tb34, tb35, tb36, tb37, tb38, tb39, tb40, tb41, tb42, tb43, tb44, tb45, tb46, tb47])
local macro_rules | `(tactic| walk_at "cm") => `(tactic| try simp only [cm0, cm1, cm2, cm3, cm4, cm5, cm6, cm7, cm8, cm9, cm10, cm11, cm12, cm13, cm14, ite_self, slL2, if_true, if_false, Bool.not_true, Bool.not_false, Bool.false_eq_true, ixL0, ixL1, ixL2, inTBares, inTTwos, inTCopies, inTAsked])
theorem sp_ldraw {m : Int} {Q : D → Prop} (hm : 0 < m) (h : ∀ r : Int, 0 ≤ r → r < m → Q (.int r)) : w__law_draw [bxD, .int m] Q := ⟨rfl, hm, h⟩
theorem sp_law_order {Q : D → Prop} (h : ∀ ps, OrdOk ps → Q (od ps)) : w__law_order [bxD] Q := by
  unfold w__law_order
  rw [x_fnW]
  walk_at "lits"
  walk_at "st"
  refine sp_law_word fun w hw => ?_
  walk_at "st"
  refine sp_ldraw (by decide) fun r r0 r1 => ?_
  walk_at "st"
  split
  · refine ⟨sz 4, sp_lpickT (ls := bares) (by decide) (by decide) fun k hk => ⟨sz 1, h [.t k] (ord1 hk)⟩⟩
  walk_at "st"
  split
  · refine ⟨sz 3, sp_lpickT (ls := twos) (by decide) (by decide) fun k hk => ⟨sz 2, h [.t k, .t w] (ord2 hk hw)⟩⟩
  walk_at "st"
  split
  · refine ⟨sz 5, sp_lpick (by decide) (by decide) fun x hx => ?_⟩
    have key : ∀ n : Nat, n ≤ 9999 → numOk (TL.numL n) = true → 3 ≤ sizeLine ∧ Q (.tuple [.str (S [116, 97, 107, 101]), .str (S w), .int (n : Nat)]) := fun n hn ho => ⟨sz 3, h [.t tTake, .t w, .n n] (ord_take hw hn ho)⟩
    simp only [List.mem_cons, List.not_mem_nil, or_false] at hx
    rcases hx with rfl | rfl | rfl | rfl | rfl
    · exact key 0 (by decide) (by decide +kernel)
    · exact key 1 (by decide) (by decide +kernel)
    · exact key 10 (by decide) (by decide +kernel)
    · exact key 9999 (by decide) (by decide +kernel)
    · exact key 305 (by decide) (by decide +kernel)
  walk_at "st"
  split
  · exact sp_asked (sp_lpickT (ls := asked) (by decide) (by decide) fun k hk => ⟨sz 3, h [.t tAsk, .t w, .t k] (ord_ask hw hk)⟩)
  walk_at "st"
  split
  · rw [o_slTo (by decide)]
    refine ⟨by decide, sz 5, sp_lpickT (ls := [[97], [112, 40, 49, 44, 97, 41], [45, 98], [35, 49], [120]]) (by decide) (by decide) fun k hk => ⟨sz 3, h [.t tTell, .t w, .t k] ?_⟩⟩
    have key : ∀ l ∈ ([[97], [112, 40, 49, 44, 97, 41], [45, 98], [35, 49], [120]] : List (List Nat)), Nice l ∧ l ≠ [] := by decide
    exact ord_tell hw (key k hk).1 (key k hk).2
  walk_at "st"
  split
  · refine ⟨sz 2, sp_lpickT (ls := copies) (by decide) (by decide) fun k hk => sp_law_word fun a ha => ⟨sz 3, h [.t k, .t w, .t a] (ord_copy hk hw ha)⟩⟩
  walk_at "w1"
  refine ⟨sz 8, sp_lpick (by decide) (by decide) fun x hx => ?_⟩
  have key : ∀ x : List Nat, (x.length ≤ 100 ∧ (∀ c ∈ x, c < 128) ∧ 10 ∉ x) → 3 ≤ sizeLine ∧ Q (.tuple [.str (S [97, 100, 100]), .str (S w), .str (S x)]) := fun x q => ⟨sz 3, h [.t tAdd, .t w, .t x] (ord_add hw q.1 q.2.1 q.2.2)⟩
  simp only [List.mem_cons, List.not_mem_nil, or_false] at hx
  rcases hx with rfl | rfl | rfl | rfl | rfl | rfl | rfl | rfl <;> exact key _ (by decide)
/-! a line changed -/
def LineOk (m : Nat) (l : List Nat) : Prop := l.length ≤ m ∧ (∀ c ∈ l, c < 128) ∧ 10 ∉ l
structure Words (ws : List (List Nat)) : Prop where
  n : ws.length ≤ 1100
  s : (ws.map List.length).sum ≤ 2040
  lt : ∀ w ∈ ws, ∀ c ∈ w, c < 128
  n10 : ∀ w ∈ ws, 10 ∉ w
theorem Words.line {ws : List (List Nat)} (h : Words ws) : LineOk 4000 (TL.joinL [32] ws) := by
  refine ⟨?_, fun c hc => ?_, fun z => ?_⟩
  · have := joinL_len [32] ws
    have h1 := h.n
    have h2 := h.s
    have e : ws.length * [32].length = ws.length := Nat.mul_one _
    omega
  · rcases joinL_mem hc with z | ⟨w, hw, z⟩
    · rw [List.mem_singleton.mp z]; decide
    · exact h.lt w hw c z
  · rcases joinL_mem z with z | ⟨w, hw, z⟩
    · exact absurd (List.mem_singleton.mp z) (by decide)
    · exact h.n10 w hw z
theorem fin_bent {ws : List (List Nat)} {Q : D → Prop} (h : ∀ l, LineOk 4000 l → Q (.str (S l))) (hw : Words ws) : fJoin (S [32]) (.list (ws.map fun w => .str (S w))) Q := by
  rw [fj]
  have h1 := hw.n
  have h2 := hw.s
  exact ⟨by have e : ws.length * [32].length = ws.length := Nat.mul_one _; omega, h _ hw.line⟩
section
variable {Q : D → Prop} {ρ : SE} {P : PsW} {s0 s1 : Option Sl} {l xs : List D} {a b : EW} {QN : List D → Prop} {δ : DE}
theorem x_setIS2 : wSetIS 2 a b (s0 :: s1 :: some (.own l) :: ρ) P = b (vF (s0 :: s1 :: some (.own l) :: ρ)) fun d => scal1 d = true ∧ a (vF (s0 :: s1 :: some (.own l) :: ρ)) fun k => match k with | .int z => ∃ j, ixN l.length z = some j ∧ P.nx (s0 :: s1 :: some (.own (l.set j d)) :: ρ) | _ => False := id rfl
theorem x_setI2 : wSetI 2 a b (s0 :: s1 :: some (.own l) :: ρ) P = b (vH (s0 :: s1 :: some (.own l) :: ρ)) fun d => a (vF (s0 :: s1 :: some (.own l) :: ρ)) fun k => match k with | .int z => ∃ j, ixN l.length z = some j ∧ P.nx (s0 :: s1 :: some (.own (l.set j d)) :: ρ) | _ => False := id rfl
theorem x_ins2 : wIns 2 a b (s0 :: s1 :: some (.own l) :: ρ) P = a (vF (s0 :: s1 :: some (.own l) :: ρ)) fun k => match k with | .int z => b (vH (s0 :: s1 :: some (.own l) :: ρ)) fun d => (l.length < sizeLine ∧ 0 ≤ z ∧ z < 2 ^ 63) ∧ P.nx (s0 :: s1 :: some (.own (l.take z.toNat ++ [d] ++ l.drop z.toNat)) :: ρ) | _ => False := id rfl
theorem x_frz2 : frz 2 (s0 :: s1 :: some (.own l) :: ρ) = s0 :: s1 :: some (.dat (.list l)) :: ρ := id rfl
theorem x_catN : wCatN a b δ QN = a δ fun x => b δ fun y => match x, y with | .list xs, .list ys => xs.length + ys.length ≤ sizeLine ∧ QN (xs ++ ys) | _, _ => False := id rfl
theorem slTo {i : Nat} : oSl (.list xs) none (some (i : Int)) Q = Q (.list (xs.take i)) := by
  show Q (.list (cutD xs none (some (i : Int)))) = _
  unfold cutD HT.sIx
  congr 2
  show ((xs.drop 0).take ((if (i : Int) < 0 then _ else min (i : Int).toNat xs.length) - 0)) = _
  rw [if_neg (by omega), List.drop_zero, Nat.sub_zero, Int.toNat_natCast]
  by_cases h : i ≤ xs.length
  · rw [Nat.min_eq_left h]
  · rw [Nat.min_eq_right (by omega), List.take_of_length_le (by omega), List.take_of_length_le (by omega)]
theorem slFrom {i : Nat} : oSl (.list xs) (some (i : Int)) none Q = Q (.list (xs.drop i)) := by
  show Q (.list (cutD xs (some (i : Int)) none)) = _
  unfold cutD HT.sIx
  congr 2
  show ((xs.drop (if (i : Int) < 0 then _ else min (i : Int).toNat xs.length)).take (xs.length - (if (i : Int) < 0 then _ else min (i : Int).toNat xs.length))) = _
  rw [if_neg (by omega), Int.toNat_natCast]
  by_cases h : i ≤ xs.length
  · rw [Nat.min_eq_left h, List.take_of_length_le (by rw [List.length_drop]; omega)]
  · rw [Nat.min_eq_right (by omega), List.drop_of_length_le (by omega), List.drop_of_length_le (by omega), List.take_nil]
theorem slFrom1 {i : Nat} : oSl (.list xs) (some ((i : Int) + 1)) none Q = Q (.list (xs.drop (i + 1))) := slFrom (i := i + 1)
theorem ixL {i : Nat} {x : D} (h : xs[i]? = some x) : oIx (.list xs) (.int (i : Int)) Q = Q x := o_ixL (at_nat h)
theorem ixN_nat {n i : Nat} (h : i < n) : ixN n (i : Int) = some i := by
  unfold ixN
  rw [if_pos (by omega), if_pos (by omega)]
  simp
end
theorem sum_joinL (s : List Nat) : ∀ ws : List (List Nat), ws ≠ [] → (ws.map List.length).sum + (ws.length - 1) * s.length = (TL.joinL s ws).length
  | [], h => absurd rfl h
  | [w], _ => by show w.length + 0 + 0 * _ = w.length; omega
  | w :: v :: vs, _ => by
    have := sum_joinL s (v :: vs) (by simp)
    rw [joinL_cons2, List.length_append, List.length_append, ← this, List.map_cons, List.sum_cons]
    simp only [List.length_cons, Nat.add_sub_cancel]
    rw [Nat.add_mul]
    omega
theorem words_cut {l : List Nat} (hl : LineOk 1010 l) : (cut1 32 l).length ≤ 1011 ∧ ((cut1 32 l).map List.length).sum ≤ 1010 ∧ ∀ w ∈ cut1 32 l, w.length ≤ 1010 ∧ (∀ c ∈ w, c < 128) ∧ 10 ∉ w := by
  obtain ⟨h1, h2, h3⟩ := hl
  refine ⟨by have := cut1_len 32 l; omega, ?_, fun w hw => ?_⟩
  · have := sum_joinL [32] _ (cut1_ne 32 l)
    rw [cut1_join] at this
    omega
  · obtain ⟨a, b, c⟩ := cut1_mem hw
    exact ⟨by omega, fun x hx => h2 x (c x hx), fun z => h3 (c 10 z)⟩
def okw (w : List Nat) : Prop := w.length ≤ 1020 ∧ (∀ c ∈ w, c < 128) ∧ 10 ∉ w
instance (w : List Nat) : Decidable (okw w) := by unfold okw; infer_instance
theorem sum_take (f : List Nat → Nat) (n : Nat) (ws : List (List Nat)) : ((ws.take n).map f).sum + ((ws.drop n).map f).sum = (ws.map f).sum := by
  rw [← List.sum_append, ← List.map_append, List.take_append_drop]
theorem sum_set (f : List Nat → Nat) : ∀ (ws : List (List Nat)) (i : Nat) (x : List Nat), ((ws.set i x).map f).sum ≤ (ws.map f).sum + f x
  | [], i, x => by simp
  | w :: ws, 0, x => by simp only [List.set_cons_zero, List.map_cons, List.sum_cons]; omega
  | w :: ws, i + 1, x => by
    have := sum_set f ws i x
    simp only [List.set_cons_succ, List.map_cons, List.sum_cons]; omega
structure Cut (ws : List (List Nat)) : Prop where
  n : ws.length ≤ 1011
  s : (ws.map List.length).sum ≤ 1010
  ok : ∀ w ∈ ws, w.length ≤ 1010 ∧ (∀ c ∈ w, c < 128) ∧ 10 ∉ w
theorem Words.of {ws : List (List Nat)} (h1 : ws.length ≤ 1100) (h2 : (ws.map List.length).sum ≤ 2040) (h3 : ∀ w ∈ ws, (∀ c ∈ w, c < 128) ∧ 10 ∉ w) : Words ws :=
  ⟨h1, h2, fun w hw => (h3 w hw).1, fun w hw => (h3 w hw).2⟩
theorem Cut.set {ws : List (List Nat)} (h : Cut ws) (i : Nat) {x : List Nat} (hx : okw x) : Words (ws.set i x) := by
  have h1 := h.n
  have h2 := h.s
  have h3 := sum_set List.length ws i x
  have h4 := hx.1
  refine .of (by rw [List.length_set]; omega) (by omega) fun w hw => ?_
  rcases List.mem_or_eq_of_mem_set hw with z | rfl
  · exact (h.ok w z).2
  · exact hx.2
theorem Cut.ins {ws : List (List Nat)} (h : Cut ws) (i : Nat) {x : List Nat} (hx : okw x) : Words (ws.take i ++ [x] ++ ws.drop i) := by
  have h1 := h.n
  have h2 := h.s
  have h3 := sum_take List.length i ws
  have h4 := hx.1
  refine .of ?_ ?_ fun w hw => ?_
  · simp only [List.length_append, List.length_take, List.length_drop, List.length_singleton]; omega
  · simp only [List.map_append, List.sum_append, List.map_cons, List.map_nil, List.sum_cons, List.sum_nil]; omega
  · rcases List.mem_append.mp hw with z | z
    · rcases List.mem_append.mp z with z | z
      · exact (h.ok w (List.mem_of_mem_take z)).2
      · rw [List.mem_singleton.mp z]; exact hx.2
    · exact (h.ok w (List.mem_of_mem_drop z)).2
theorem Cut.del {ws : List (List Nat)} (h : Cut ws) (i : Nat) : Words (ws.take i ++ ws.drop (i + 1)) := by
  have h1 := h.n
  have h2 := h.s
  have h3 := sum_take List.length i ws
  have h5 := sum_take List.length 1 (ws.drop i)
  rw [List.drop_drop] at h5
  refine .of ?_ ?_ fun w hw => ?_
  · simp only [List.length_append, List.length_take, List.length_drop]; omega
  · simp only [List.map_append, List.sum_append]; omega
  · rcases List.mem_append.mp hw with z | z
    · exact (h.ok w (List.mem_of_mem_take z)).2
    · exact (h.ok w (List.mem_of_mem_drop z)).2
theorem Cut.add {ws : List (List Nat)} (h : Cut ws) {x : List Nat} (hx : okw x) : Words (ws ++ [x]) := by
  have := h.ins ws.length hx
  rw [List.take_length, List.drop_length, List.append_nil] at this
  exact this
theorem okw_l {w : List Nat} {c : Nat} (h : w.length ≤ 1010 ∧ (∀ c ∈ w, c < 128) ∧ 10 ∉ w) (h1 : c < 128) (h2 : c ≠ 10) : okw ([c] ++ w) :=
  ⟨by rw [List.length_append, List.length_singleton]; omega, fun x hx => by
    rcases List.mem_append.mp hx with z | z
    · rw [List.mem_singleton.mp z]; exact h1
    · exact h.2.1 x z, fun hx => by
    rcases List.mem_append.mp hx with z | z
    · exact h2 (List.mem_singleton.mp z).symm
    · exact h.2.2 z⟩
theorem okw_r {w : List Nat} {c : Nat} (h : w.length ≤ 1010 ∧ (∀ c ∈ w, c < 128) ∧ 10 ∉ w) (h1 : c < 128) (h2 : c ≠ 10) : okw (w ++ [c]) :=
  ⟨by rw [List.length_append, List.length_singleton]; omega, fun x hx => by
    rcases List.mem_append.mp hx with z | z
    · exact h.2.1 x z
    · rw [List.mem_singleton.mp z]; exact h1, fun hx => by
    rcases List.mem_append.mp hx with z | z
    · exact h.2.2 z
    · exact h2 (List.mem_singleton.mp z).symm⟩
theorem sp_law_bent {l : List Nat} {Q : D → Prop} (hl : LineOk 1010 l) (h : ∀ l', LineOk 4000 l' → Q (.str (S l'))) : w__law_bent [bxD, .str (S l)] Q := by
  have hc : Cut (cut1 32 l) := ⟨(words_cut hl).1, (words_cut hl).2.1, (words_cut hl).2.2⟩
  have hne := cut1_ne 32 l
  obtain ⟨h1, h2, h3⟩ := hl
  unfold w__law_bent
  rw [x_fnW]
  walk_at "lits"
  walk_at "st"
  show (Str.length (S [32]) == 0) = false ∧ (S l).length + 2 ≤ sizeLine ∧ _
  refine ⟨rfl, by rw [S_len, sizeLine_eq]; omega, ?_⟩
  rw [split_cut (by decide), List.map_map, show (PyData.str ∘ S : List Nat → D) = fun w => PyData.str (S w) from rfl]
  generalize cut1 32 l = ws at hc hne
  have pos : 0 < ws.length := by cases ws with | nil => exact absurd rfl hne | cons _ _ => exact Nat.succ_pos _
  walk_at "st"
  rw [List.length_map]
  refine sp_ldraw (by omega) fun r r0 r1 => ⟨rfl, ?_⟩
  obtain ⟨i, rfl⟩ : ∃ i : Nat, r = (i : Nat) := ⟨r.toNat, by omega⟩
  have hi : i < ws.length := by omega
  have hj : ixN (ws.map fun w => (PyData.str (S w) : D)).length ((i : Nat) : Int) = some i := ixN_nat (by rw [List.length_map]; exact hi)
  obtain ⟨w, hw⟩ : ∃ w, ws[i]? = some w := ⟨ws[i], List.getElem?_eq_getElem hi⟩
  have hwo := hc.ok w (List.mem_of_getElem? hw)
  have hix : ∀ {R : D → Prop}, oIx (.list (ws.map fun w => (PyData.str (S w) : D))) (.int (i : Nat)) R = R (.str (S w)) := ixL (by rw [List.getElem?_map, hw]; rfl)
  have hset : ∀ x, okw x → fJoin (S [32]) (.list ((ws.map fun w => (PyData.str (S w) : D)).set i (.str (S x)))) Q := fun x hx => by
    rw [show (PyData.str (S x) : D) = (fun w => (PyData.str (S w) : D)) x from rfl, ← List.map_set]
    exact fin_bent h (hc.set i hx)
  walk_at "st"
  refine sp_ldraw (by decide) fun way w0 w1 => ?_
  walk_at "st"
  split
  · rw [x_frz2]
    walk_at "w1"
    rw [x_catN]
    walk_at "w1"
    rw [slTo, slFrom1]
    dsimp only
    rw [← List.map_take, ← List.map_drop, ← List.map_append]
    refine ⟨?_, fin_bent h (hc.del i)⟩
    have := hc.n
    rw [List.length_map, List.length_map, List.length_take, List.length_drop, sizeLine_eq]; omega
  walk_at "w1"
  split
  · rw [x_frz2]
    walk_at "w1"
    rw [x_catN]
    walk_at "w1"
    rw [slTo, hix, o_addL, slFrom]
    dsimp only
    rw [show ([PyData.str (S w)] : List D) = [w].map fun w => PyData.str (S w) from rfl, ← List.map_take, ← List.map_drop, ← List.map_append, ← List.map_append]
    have := hc.n
    refine ⟨sz 1, ?_, ?_, fin_bent h (hc.ins i ⟨by omega, hwo.2⟩)⟩
    · simp only [List.length_map, List.length_take, sizeLine_eq, List.length_singleton]; omega
    · simp only [List.length_map, List.length_append, List.length_take, List.length_drop, sizeLine_eq, List.length_singleton]; omega
  walk_at "w1"
  split
  · rw [x_setIS2]
    walk_at "w1"
    simp only [hix, o_addS, List.cons_append, List.nil_append]
    have ln := hwo.1
    refine ⟨by simp only [List.length_cons, List.length_nil]; omega, by simp only [List.length_cons, List.length_nil]; omega, by simp only [List.length_cons, List.length_nil]; omega, by simp only [List.length_cons, List.length_nil]; omega, sz 5, ?_⟩
    refine sp_lpick (show 5 ≤ 1000 by decide) (show 0 < 5 by decide) fun x hx => ?_
    simp only [List.mem_cons, List.not_mem_nil, or_false] at hx
    rcases hx with rfl | rfl | rfl | rfl | rfl
    · exact ⟨rfl, i, hj, hset [] (by decide)⟩
    · exact ⟨rfl, i, hj, hset _ (okw_l hwo (by decide) (by decide))⟩
    · exact ⟨rfl, i, hj, hset _ (okw_l hwo (by decide) (by decide))⟩
    · exact ⟨rfl, i, hj, hset _ (okw_r hwo (by decide) (by decide))⟩
    · exact ⟨rfl, i, hj, hset _ (okw_r hwo (by decide) (by decide))⟩
  walk_at "w1"
  split
  · rw [x_setI2]
    walk_at "w1"
    refine ⟨sz 7, ?_⟩
    refine sp_lpick (by decide) (by decide) fun x hx => ?_
    simp only [List.mem_cons, List.not_mem_nil, or_false] at hx
    rcases hx with rfl | rfl | rfl | rfl | rfl | rfl | rfl <;> exact ⟨i, hj, hset _ (by decide)⟩
  walk_at "w1"
  split
  · rw [x_setI2]
    walk_at "w1"
    refine ⟨sz 11, ?_⟩
    refine sp_lpick (by decide) (by decide) fun x hx => ?_
    simp only [List.mem_cons, List.not_mem_nil, or_false] at hx
    rcases hx with rfl | rfl | rfl | rfl | rfl | rfl | rfl | rfl | rfl | rfl | rfl <;> exact ⟨i, hj, hset _ (by decide)⟩
  walk_at "w1"
  split
  · rw [x_setI2]
    walk_at "w1"
    refine ⟨sz 6, ?_⟩
    refine sp_lpick (by decide) (by decide) fun x hx => ?_
    simp only [List.mem_cons, List.not_mem_nil, or_false] at hx
    rcases hx with rfl | rfl | rfl | rfl | rfl | rfl <;> exact ⟨i, hj, hset _ (by decide)⟩
  walk_at "w1"
  split
  · rw [x_ins2]
    walk_at "w1"
    refine ⟨⟨?_, by omega, by have := hc.n; omega⟩, ?_⟩
    · have := hc.n
      rw [List.length_map, sizeLine_eq]; omega
    · rw [Int.toNat_natCast, show ([PyData.str (S [])] : List D) = [[]].map fun w => PyData.str (S w) from rfl, ← List.map_take, ← List.map_drop, ← List.map_append, ← List.map_append]
      exact fin_bent h (hc.ins i (x := []) (by decide))
  · rw [x_app2]
    walk_at "w1"
    refine ⟨sz 4, ?_⟩
    have key : ∀ x, okw x → (ws.map fun w => (PyData.str (S w) : D)).length < sizeLine ∧ fJoin (S [32]) (.list ((ws.map fun w => (PyData.str (S w) : D)) ++ [.str (S x)])) Q := fun x hx => by
      refine ⟨by have := hc.n; rw [List.length_map, sizeLine_eq]; omega, ?_⟩
      rw [show ([PyData.str (S x)] : List D) = [x].map fun w => PyData.str (S w) from rfl, ← List.map_append]
      exact fin_bent h (hc.add hx)
    refine sp_lpick (by decide) (by decide) fun x hx => ?_
    simp only [List.mem_cons, List.not_mem_nil, or_false] at hx
    rcases hx with rfl | rfl | rfl | rfl <;> exact key _ (by decide)
end G_k97_orders_read_and_written

set_option Elab.async false
set_option linter.all false
set_option maxRecDepth 100000
set_option maxHeartbeats 2000000
namespace G_k97_orders_read_and_written
open PySem L2 Wy
open SX (S S_len S_cat S_inj in_one int_S num_S)
local macro_rules | `(tactic| walk_at "lits") => `(tactic| simp only [li0, li1, li2, li3, li4, li5, li6, li7, li8, li9, li10, li11, li12, li13, li14, li15, li16, li17, li18, li19, li20, li21, li22, li23, li24, li25, li26, li27, li28, li29, li30, li31, li32, li33, li34, li35, li36, li37, li38, li39, li40, li41, li42, li43, li44, li45, li46, li47, li48, li49, li50, li51, li52, li53, li54, li55, li56, li57, li58, li59])
local macro_rules | `(tactic| walk_at "wx") => `(tactic| simp only [x_seq, x_asg, x_asgS, x_ret, x_retN, x_ifS, x_next, x_drop, x_break, x_cont, x_frz, x_c, x_op, x_un, x_if, x_nil, x_cons, x_tup, x_lst, x_call, x_on1, x_fn, x_and, x_or, x_not, x_bW, x_tru, x_no, x_part, x_andV, x_orV, x_notV, x_chain, x_sl, x_m1, x_iter, x_rng1, x_rng2, x_for, x_lc, x_par, x_repl, x_own, x_vF, x_vH, x_vF0, x_vH0, x_slFd, x_slHd, x_slFo, x_slHo, x_var0, x_varS, x_aug0, x_aug1, x_aug2, o_addI, o_iaddI, o_subI, o_mulI, o_divI, o_modI, o_negI, o_addL, o_addT, o_addS, o_iaddS, o_lenS, o_lenL, o_lenT, o_ltI, o_leI, o_gtI, o_geI, o_eqS, o_neS, o_eqI, o_neI, o_isN, o_notN, o_isBv, o_ordS, o_intI, o_strI, o_inC, o_ninC, items_S, items_L, items_T, List.set_cons_zero, List.set_cons_succ, List.length_cons, List.length_nil, startS, List.map_cons, List.map_nil, List.replicate_succ, List.replicate_zero, List.cons_append, List.nil_append, Nat.reduceAdd, Nat.reduceSub, putS, true_and, and_true, x_truB, x_truL, x_truT, eq_self, if_true, if_false, Bool.false_eq_true])
local macro_rules | `(tactic| walk_at "st") => `(tactic| (rw [x_seq]; simp only [x_asg, x_asgS, x_ret, x_retN, x_ifS, x_next, x_drop, x_break, x_cont, x_frz, x_c, x_op, x_un, x_if, x_nil, x_cons, x_tup, x_lst, x_call, x_on1, x_fn, x_and, x_or, x_not, x_bW, x_tru, x_no, x_part, x_andV, x_orV, x_notV, x_chain, x_sl, x_m1, x_iter, x_rng1, x_rng2, x_for, x_lc, x_par, x_repl, x_own, x_vF, x_vH, x_vF0, x_vH0, x_slFd, x_slHd, x_slFo, x_slHo, x_var0, x_varS, x_aug0, x_aug1, x_aug2, o_addI, o_iaddI, o_subI, o_mulI, o_divI, o_modI, o_negI, o_addL, o_addT, o_addS, o_iaddS, o_lenS, o_lenL, o_lenT, o_ltI, o_leI, o_gtI, o_geI, o_eqS, o_neS, o_eqI, o_neI, o_isN, o_notN, o_isBv, o_ordS, o_intI, o_strI, o_inC, o_ninC, items_S, items_L, items_T, List.set_cons_zero, List.set_cons_succ, List.length_cons, List.length_nil, startS, List.map_cons, List.map_nil, List.replicate_succ, List.replicate_zero, List.cons_append, List.nil_append, Nat.reduceAdd, Nat.reduceSub, putS, true_and, and_true, x_truB, x_truL, x_truT, eq_self, if_true, if_false, Bool.false_eq_true]))
local macro_rules | `(tactic| walk_at "w1") => `(tactic| try simp only [x_asg, x_asgS, x_ret, x_retN, x_ifS, x_next, x_drop, x_break, x_cont, x_frz, x_c, x_op, x_un, x_if, x_nil, x_cons, x_tup, x_lst, x_call, x_on1, x_fn, x_and, x_or, x_not, x_bW, x_tru, x_no, x_part, x_andV, x_orV, x_notV, x_chain, x_sl, x_m1, x_iter, x_rng1, x_rng2, x_for, x_lc, x_par, x_repl, x_own, x_vF, x_vH, x_vF0, x_vH0, x_slFd, x_slHd, x_slFo, x_slHo, x_var0, x_varS, x_aug0, x_aug1, x_aug2, o_addI, o_iaddI, o_subI, o_mulI, o_divI, o_modI, o_negI, o_addL, o_addT, o_addS, o_iaddS, o_lenS, o_lenL, o_lenT, o_ltI, o_leI, o_gtI, o_geI, o_eqS, o_neS, o_eqI, o_neI, o_isN, o_notN, o_isBv, o_ordS, o_intI, o_strI, o_inC, o_ninC, items_S, items_L, items_T, List.set_cons_zero, List.set_cons_succ, List.length_cons, List.length_nil, startS, List.map_cons, List.map_nil, List.replicate_succ, List.replicate_zero, List.cons_append, List.nil_append, Nat.reduceAdd, Nat.reduceSub, putS, true_and, and_true, x_truB, x_truL, x_truT, eq_self, if_true, if_false, Bool.false_eq_true])
local macro_rules | `(tactic| walk_at "ifs") => `(tactic| try simp only [if_true, if_false, Bool.not_true, Bool.not_false, Bool.false_eq_true, Bool.true_and, Bool.and_true, Bool.false_and, Bool.and_false, x_truB, Bool.not_not])
local macro_rules | `(tactic| walk_at "tab") => `(tactic| try simp only [decide_true, eq_self, if_true, if_false, Bool.false_eq_true, tb0, tb1, tb2, tb3, tb4, tb5, tb6, tb7, tb8, tb9, tb10, tb11, tb12, tb13, tb14, tb15, tb16, tb17, tb18, tb19, tb20, tb21, tb22, tb23, tb24, tb25, tb26, tb27, tb28, tb29, tb30, tb31, tb32, tb33, tb34, tb35, tb36, tb37, tb38, tb39, tb40, tb41, tb42, tb43, tb44, tb45, tb46, tb47])
local macro_rules | `(tactic| walk_at "cm") => `(tactic| try simp only [cm0, cm1, cm2, cm3, cm4, cm5, cm6, cm7, cm8, cm9, cm10, cm11, cm12, cm13, cm14, ite_self, slL2, if_true, if_false, Bool.not_true, Bool.not_false, Bool.false_eq_true, ixL0, ixL1, ixL2, inTBares, inTTwos, inTCopies, inTAsked])
/-! what reading gives is small -/
theorem dv_lt : ∀ (cs : List Nat) (acc : Nat), (∀ c ∈ cs, c ≤ 57) → cs.foldl (fun acc c => acc * 10 + (c - 48)) acc < (acc + 1) * 10 ^ cs.length
  | [], acc, _ => by show acc < (acc + 1) * 1; omega
  | c :: cs, acc, h => by
    have h1 := h c (by simp)
    have ih := dv_lt cs (acc * 10 + (c - 48)) fun x hx => h x (List.mem_cons_of_mem _ hx)
    rw [List.foldl_cons, List.length_cons, Nat.pow_succ, Nat.mul_comm (10 ^ cs.length) 10, ← Nat.mul_assoc]
    refine Nat.lt_of_lt_of_le ih (Nat.mul_le_mul_right _ ?_)
    omega
def Small (x : D) : Prop := (∃ t : List Nat, x = .str (S t) ∧ t.length ≤ 10000 ∧ ∀ c ∈ t, c < 128) ∨ ∃ n : Nat, x = .int (n : Nat) ∧ n < 2 ^ 100
def RdOk (d : D) : Prop := d = .none ∨ ∃ ds : List D, d = .tuple ds ∧ ds.length ≤ 10 ∧ ∀ x ∈ ds, Small x
theorem Small.same {x : D} (h : Small x) : sameOk 1 x := by
  rcases h with ⟨t, rfl, h1, h2⟩ | ⟨n, rfl, h⟩
  · exact ok_text (by omega) h2
  · exact ok_int h
theorem Small.lay {x : D} (h : Small x) : layOk 0 x := by
  rcases h with ⟨t, rfl, h1, h2⟩ | ⟨n, rfl, h⟩
  · exact layOk_str h2
  · exact layOk_int
theorem RdOk.same {x : D} (h : RdOk x) : sameOk 2 x := by
  rcases h with rfl | ⟨ds, rfl, h1, h2⟩
  · exact trivial
  · exact ok_tup (by omega) fun d hd => (h2 d hd).same
theorem RdOk.lay {x : D} (h : RdOk x) : layOk 1 x := by
  rcases h with rfl | ⟨ds, rfl, h1, h2⟩
  · exact layOk_none
  · exact layOk_tup fun d hd => (h2 d hd).lay
theorem numOf_ok (w : List Nat) : numOf w = .none ∨ ∃ n : Nat, numOf w = .int (n : Nat) ∧ n < 2 ^ 100 := by
  unfold numOf
  by_cases e : numOk w = true
  · rw [if_pos e]
    refine Or.inr ⟨_, rfl, ?_⟩
    unfold numOk at e
    simp only [Bool.and_eq_true, decide_eq_true_eq, List.all_eq_true] at e
    obtain ⟨_, h4, hd, _⟩ := e
    have key : ∀ c ∈ dg, c ≤ 57 := by decide
    have := dv_lt w 0 fun c hc => key c (hd c hc)
    have h5 : NumText.digitsVal w < (0 + 1) * 10 ^ w.length := this
    have h6 : 10 ^ w.length ≤ 10 ^ 4 := Nat.pow_le_pow_right (by decide) h4
    omega
  · rw [if_neg e]; exact Or.inl rfl
theorem rd_ok {ws : List (List Nat)} (hc : ∀ w ∈ ws, ∀ c ∈ w, c < 128) (hl : ∀ w ∈ ws, w.length ≤ 10000) (hj : (TL.joinL [32] ws).length ≤ 10000) : RdOk (rd ws) := by
  have tx : ∀ w : List Nat, w.length ≤ 10000 → (∀ c ∈ w, c < 128) → Small (.str (S w)) := fun w h1 h2 => Or.inl ⟨w, rfl, h1, h2⟩
  have non : RdOk .none := Or.inl rfl
  have two : ∀ x y : D, Small x → Small y → RdOk (.tuple [x, y]) := fun x y hx hy => Or.inr ⟨_, rfl, by simp, fun d hd => by
    rcases List.mem_cons.mp hd with rfl | hd
    · exact hx
    · rw [List.mem_singleton.mp hd]; exact hy⟩
  have three : ∀ x y z : D, Small x → Small y → Small z → RdOk (.tuple [x, y, z]) := fun x y z hx hy hz => Or.inr ⟨_, rfl, by simp, fun d hd => by
    rcases List.mem_cons.mp hd with rfl | hd
    · exact hx
    rcases List.mem_cons.mp hd with rfl | hd
    · exact hy
    · rw [List.mem_singleton.mp hd]; exact hz⟩
  match ws, hc, hl, hj with
  | [], _, _, _ => exact non
  | [k], hc, hl, _ =>
    rw [rd_1]
    split
    · exact Or.inr ⟨_, rfl, by simp, fun d hd => by rw [List.mem_singleton.mp hd]; exact tx k (hl k (by simp)) (hc k (by simp))⟩
    · exact non
  | [k, a], hc, hl, _ =>
    rw [rd_2]
    split
    · split
      · exact two _ _ (tx k (hl k (by simp)) (hc k (by simp))) (tx a (hl a (by simp)) (hc a (by simp)))
      · exact non
    · exact non
  | [k, a, b], hc, hl, _ =>
    have hk := tx k (hl k (by simp)) (hc k (by simp))
    have ha := tx a (hl a (by simp)) (hc a (by simp))
    have hb := tx b (hl b (by simp)) (hc b (by simp))
    rw [rd_3]
    split
    · unfold rd3
      split
      · exact three _ _ _ (tx _ (by decide) (by decide)) ha hb
      split
      · rcases numOf_ok b with e | ⟨n, e, hn⟩
        · rw [e]; exact non
        · rw [e]; exact three _ _ _ (tx _ (by decide) (by decide)) ha (Or.inr ⟨n, rfl, hn⟩)
      split
      · split
        · exact three _ _ _ (tx _ (by decide) (by decide)) ha hb
        · exact non
      split
      · split
        · exact three _ _ _ hk ha hb
        · exact non
      split
      · split
        · exact three _ _ _ (tx _ (by decide) (by decide)) ha hb
        · exact non
      · exact non
    · exact non
  | k :: a :: b :: c :: r, hc, hl, hj =>
    have ha := tx a (hl a (by simp)) (hc a (by simp))
    rw [rd_4]
    split
    · split
      · refine three _ _ _ (tx _ (by decide) (by decide)) ha (tx _ ?_ fun x hx => ?_)
        · rw [joinL_cons2, joinL_cons2] at hj
          simp only [List.length_append] at hj
          omega
        · rcases joinL_mem hx with z | ⟨w, hw, z⟩
          · rw [List.mem_singleton.mp z]; decide
          · exact hc w (List.mem_cons_of_mem _ (List.mem_cons_of_mem _ hw)) x z
      · exact non
    · exact non
theorem rd_line {l : List Nat} (h : LineOk 4000 l) : RdOk (rd (cut1 32 l)) := by
  obtain ⟨h1, h2, h3⟩ := h
  refine rd_ok (fun w hw c hc => h2 c ((cut1_mem hw).2.2 c hc)) (fun w hw => by have := (cut1_mem hw).1; omega) (by rw [cut1_join]; omega)
theorem OrdOk.line {o : List Part} (h : OrdOk o) : LineOk 1010 (line o) := ⟨line_len h.1 h.2.1, h.2.2.2.1, h.2.2.2.2.1⟩
theorem LineOk.le {m n : Nat} {l : List Nat} (h : LineOk m l) (k : m ≤ n) : LineOk n l := ⟨Nat.le_trans h.1 k, h.2⟩
theorem OrdOk.od {o : List Part} (h : OrdOk o) : RdOk (od o) := by
  rw [← h.2.2.1]
  exact rd_line (h.line.le (by decide))
theorem OrdOk.good {o : List Part} (h : OrdOk o) : badL (G_k97_orders_read_and_written.line o) = false := by
  unfold badL
  rw [h.2.2.1]
  rfl
/-! texts of lines -/
theorem joinL_snoc (s : List Nat) : ∀ ws : List (List Nat), ws ≠ [] → TL.joinL s (ws ++ [[]]) = TL.joinL s ws ++ s
  | [], h => absurd rfl h
  | [w], _ => by
    show TL.joinL s [w, []] = w ++ s
    rw [joinL_cons2]
    exact List.append_nil _
  | w :: v :: vs, _ => by
    have := joinL_snoc s (v :: vs) (by simp)
    rw [List.cons_append, List.cons_append, joinL_cons2, joinL_cons2, List.append_assoc, List.append_assoc, ← List.cons_append, this, List.append_assoc]
theorem joinL_none {c : Nat} : ∀ {ws : List (List Nat)}, ws ≠ [] → ws ≠ [[]] → TL.joinL [c] ws ≠ []
  | [], h, _ => absurd rfl h
  | [w], _, h => fun z => h (by rw [show w = [] from z])
  | w :: v :: vs, _, _ => fun z => by
    rw [joinL_cons2] at z
    simp at z
theorem eqv_none (z : D) : PyData.eqv z .none = isNone z := by
  cases z <;> first | rfl | (rw [PyData.eqv] <;> first | rfl | (intros; contradiction))
theorem any_none (ms : List (List Nat)) : ((ms.map fun l => rd (cut1 32 l)).any fun z => PyData.eqv z .none) = ms.any badL := by
  rw [List.any_map]
  congr 1
  funext l
  exact eqv_none _
theorem ok_out {ms : List (List Nat)} (hn : ms.length ≤ 100) (h : ∀ l ∈ ms, LineOk 4000 l) : sameOk 4 (outD ms) := by
  unfold outD
  cases e : ms.findIdx? badL with
  | none =>
    refine ok_tup (by simp only [List.length_cons, List.length_nil]; omega) fun d hd => ?_
    rcases List.mem_cons.mp hd with rfl | hd
    · exact ok_text (by decide) (by decide)
    · rw [List.mem_singleton.mp hd]
      refine ok_lst (by rw [List.length_map]; omega) fun x hx => ?_
      obtain ⟨l, hl, rfl⟩ := List.mem_map.mp hx
      exact (rd_line (h l hl)).same
  | some j =>
    have hj : j < ms.length := by
      obtain ⟨q, _⟩ := List.findIdx?_eq_some_iff_getElem.mp e
      exact q
    refine ok_tup (by simp only [List.length_cons, List.length_nil]; omega) fun d hd => ?_
    rcases List.mem_cons.mp hd with rfl | hd
    · exact ok_text (by decide) (by decide)
    · rw [List.mem_singleton.mp hd]
      exact ok_int (Nat.lt_of_lt_of_le (show j + 1 < 102 by omega) (by decide))
theorem out_lines {os : List (List Part)} (h : ∀ o ∈ os, OrdOk o) : outD (os.map line) = .tuple [.str (S tTold), .list (os.map od)] := by
  have e : (os.map line).findIdx? badL = none := by
    rw [List.findIdx?_eq_none_iff]
    intro x hx
    obtain ⟨o, ho, rfl⟩ := List.mem_map.mp hx
    exact (h o ho).good
  unfold outD
  rw [e, List.map_map]
  show PyData.tuple [_, .list (os.map fun o => rd (cut1 32 (line o)))] = _
  rw [List.map_congr_left fun o ho => (h o ho).2.2.1]
theorem out_more {os : List (List Part)} (h : ∀ o ∈ os, OrdOk o) : outD (os.map line ++ [[]]) = .tuple [.str (S tWrong), .int (os.length + 1 : Nat)] := by
  have e : (os.map line ++ [[]]).findIdx? badL = some os.length := by
    rw [List.findIdx?_eq_some_iff_getElem]
    refine ⟨by simp, ?_, fun j hj => ?_⟩
    · simp; decide
    · have : (os.map line ++ [[]])[j]'(by simp; omega) = line os[j] := by
        rw [List.getElem_append_left (by simpa using hj)]
        simp
      rw [this, (h _ (List.getElem_mem hj)).good]
      decide
  unfold outD
  rw [e]
theorem due_eq {ms : List (List Nat)} {Q : D → Prop} (hn : ms.length ≤ 100) (h : ∀ l ∈ ms, LineOk 4000 l) (hq : Q (outD ms)) :
    oInB false .none (.list (ms.map fun l => rd (cut1 32 l))) fun d => match d with
      | .bool k => if k = true then (oLIndex (ms.map fun l => rd (cut1 32 l)) .none fun x => oAdd x (.int 1) fun x => 2 ≤ sizeLine ∧ Q (.tuple [.str (S tWrong), x])) else 2 ≤ sizeLine ∧ Q (.tuple [.str (S tTold), .list (ms.map fun l => rd (cut1 32 l))])
      | _ => False := by
  have shp : SeqAt.shaped (.list (ms.map fun l => rd (cut1 32 l))) = true := layOk_shaped (k := 2) (layOk_lst fun d hd => by
    obtain ⟨l, hl, rfl⟩ := List.mem_map.mp hd
    exact (rd_line (h l hl)).lay) (by decide)
  refine ⟨by decide, shp, ?_⟩
  rw [if_neg (by decide), any_none]
  unfold outD at hq
  cases e : ms.findIdx? badL with
  | none =>
    rw [e] at hq
    have : ms.any badL = false := by
      rw [List.any_eq_false]
      intro x hx
      rw [List.findIdx?_eq_none_iff.mp e x hx]
      decide
    rw [this]
    exact ⟨sz 2, hq⟩
  | some j =>
    rw [e] at hq
    obtain ⟨hj, h1, h2⟩ := List.findIdx?_eq_some_iff_getElem.mp e
    have : ms.any badL = true := List.any_eq_true.mpr ⟨ms[j], List.getElem_mem hj, h1⟩
    rw [this]
    refine ⟨shp, by decide, j, rd (cut1 32 ms[j]), by rw [List.getElem?_map, List.getElem?_eq_getElem hj]; rfl, by rw [eqv_none]; exact h1, fun m z hm hz => ?_, ?_⟩
    · rw [List.getElem?_map, List.getElem?_eq_getElem (by omega)] at hz
      cases hz
      rw [eqv_none]
      have := h2 m hm
      exact Bool.eq_false_iff.mpr this
    · exact ⟨sz 2, hq⟩
end G_k97_orders_read_and_written

set_option Elab.async false
set_option linter.all false
set_option maxRecDepth 100000
set_option maxHeartbeats 2000000
namespace G_k97_orders_read_and_written
open PySem L2 Wy
open SX (S S_len S_cat S_inj in_one int_S num_S)
local macro_rules | `(tactic| walk_at "lits") => `(tactic| simp only [li0, li1, li2, li3, li4, li5, li6, li7, li8, li9, li10, li11, li12, li13, li14, li15, li16, li17, li18, li19, li20, li21, li22, li23, li24, li25, li26, li27, li28, li29, li30, li31, li32, li33, li34, li35, li36, li37, li38, li39, li40, li41, li42, li43, li44, li45, li46, li47, li48, li49, li50, li51, li52, li53, li54, li55, li56, li57, li58, li59])
local macro_rules | `(tactic| walk_at "wx") => `(tactic| simp only [x_seq, x_asg, x_asgS, x_ret, x_retN, x_ifS, x_next, x_drop, x_break, x_cont, x_frz, x_c, x_op, x_un, x_if, x_nil, x_cons, x_tup, x_lst, x_call, x_on1, x_fn, x_and, x_or, x_not, x_bW, x_tru, x_no, x_part, x_andV, x_orV, x_notV, x_chain, x_sl, x_m1, x_iter, x_rng1, x_rng2, x_for, x_lc, x_par, x_repl, x_own, x_vF, x_vH, x_vF0, x_vH0, x_slFd, x_slHd, x_slFo, x_slHo, x_var0, x_varS, x_aug0, x_aug1, x_aug2, o_addI, o_iaddI, o_subI, o_mulI, o_divI, o_modI, o_negI, o_addL, o_addT, o_addS, o_iaddS, o_lenS, o_lenL, o_lenT, o_ltI, o_leI, o_gtI, o_geI, o_eqS, o_neS, o_eqI, o_neI, o_isN, o_notN, o_isBv, o_ordS, o_intI, o_strI, o_inC, o_ninC, items_S, items_L, items_T, List.set_cons_zero, List.set_cons_succ, List.length_cons, List.length_nil, startS, List.map_cons, List.map_nil, List.replicate_succ, List.replicate_zero, List.cons_append, List.nil_append, Nat.reduceAdd, Nat.reduceSub, putS, true_and, and_true, x_truB, x_truL, x_truT, eq_self, if_true, if_false, Bool.false_eq_true])
local macro_rules | `(tactic| walk_at "st") => `(tactic| (rw [x_seq]; simp only [x_asg, x_asgS, x_ret, x_retN, x_ifS, x_next, x_drop, x_break, x_cont, x_frz, x_c, x_op, x_un, x_if, x_nil, x_cons, x_tup, x_lst, x_call, x_on1, x_fn, x_and, x_or, x_not, x_bW, x_tru, x_no, x_part, x_andV, x_orV, x_notV, x_chain, x_sl, x_m1, x_iter, x_rng1, x_rng2, x_for, x_lc, x_par, x_repl, x_own, x_vF, x_vH, x_vF0, x_vH0, x_slFd, x_slHd, x_slFo, x_slHo, x_var0, x_varS, x_aug0, x_aug1, x_aug2, o_addI, o_iaddI, o_subI, o_mulI, o_divI, o_modI, o_negI, o_addL, o_addT, o_addS, o_iaddS, o_lenS, o_lenL, o_lenT, o_ltI, o_leI, o_gtI, o_geI, o_eqS, o_neS, o_eqI, o_neI, o_isN, o_notN, o_isBv, o_ordS, o_intI, o_strI, o_inC, o_ninC, items_S, items_L, items_T, List.set_cons_zero, List.set_cons_succ, List.length_cons, List.length_nil, startS, List.map_cons, List.map_nil, List.replicate_succ, List.replicate_zero, List.cons_append, List.nil_append, Nat.reduceAdd, Nat.reduceSub, putS, true_and, and_true, x_truB, x_truL, x_truT, eq_self, if_true, if_false, Bool.false_eq_true]))
local macro_rules | `(tactic| walk_at "w1") => `(tactic| try simp only [x_asg, x_asgS, x_ret, x_retN, x_ifS, x_next, x_drop, x_break, x_cont, x_frz, x_c, x_op, x_un, x_if, x_nil, x_cons, x_tup, x_lst, x_call, x_on1, x_fn, x_and, x_or, x_not, x_bW, x_tru, x_no, x_part, x_andV, x_orV, x_notV, x_chain, x_sl, x_m1, x_iter, x_rng1, x_rng2, x_for, x_lc, x_par, x_repl, x_own, x_vF, x_vH, x_vF0, x_vH0, x_slFd, x_slHd, x_slFo, x_slHo, x_var0, x_varS, x_aug0, x_aug1, x_aug2, o_addI, o_iaddI, o_subI, o_mulI, o_divI, o_modI, o_negI, o_addL, o_addT, o_addS, o_iaddS, o_lenS, o_lenL, o_lenT, o_ltI, o_leI, o_gtI, o_geI, o_eqS, o_neS, o_eqI, o_neI, o_isN, o_notN, o_isBv, o_ordS, o_intI, o_strI, o_inC, o_ninC, items_S, items_L, items_T, List.set_cons_zero, List.set_cons_succ, List.length_cons, List.length_nil, startS, List.map_cons, List.map_nil, List.replicate_succ, List.replicate_zero, List.cons_append, List.nil_append, Nat.reduceAdd, Nat.reduceSub, putS, true_and, and_true, x_truB, x_truL, x_truT, eq_self, if_true, if_false, Bool.false_eq_true])
local macro_rules | `(tactic| walk_at "ifs") => `(tactic| try simp only [if_true, if_false, Bool.not_true, Bool.not_false, Bool.false_eq_true, Bool.true_and, Bool.and_true, Bool.false_and, Bool.and_false, x_truB, Bool.not_not])
local macro_rules | `(tactic| walk_at "tab") => `(tactic| try simp only [decide_true, eq_self, if_true, if_false, Bool.false_eq_true, tb0, tb1, tb2, tb3, tb4, tb5, tb6, tb7, tb8, tb9, tb10, tb11, tb12, tb13, tb14, tb15, tb16, tb17, tb18, tb19, tb20, tb21, tb22, tb23, tb24, tb25, tb26, tb27, tb28, tb29, tb30, tb31, tb32, tb33, tb34, tb35, tb36, tb37, tb38, tb39, tb40, tb41, tb42, tb43, tb44, tb45, tb46, tb47])
local macro_rules | `(tactic| walk_at "cm") => `(tactic| try simp only [cm0, cm1, cm2, cm3, cm4, cm5, cm6, cm7, cm8, cm9, cm10, cm11, cm12, cm13, cm14, ite_self, slL2, if_true, if_false, Bool.not_true, Bool.not_false, Bool.false_eq_true, ixL0, ixL1, ixL2, inTBares, inTTwos, inTCopies, inTAsked])
theorem sp_dig {Q : D → Prop} (h : ∀ bs : List Int, Q (.list (bs.map PyData.int))) : w__law_digits [scD, .int 0, .int 60] Q := sp_digits h
theorem ords_of : ∀ {ys : List D}, (∀ y ∈ ys, ∃ o, OrdOk o ∧ y = od o) → ∃ os : List (List Part), ys = os.map od ∧ ∀ o ∈ os, OrdOk o
  | [], _ => ⟨[], rfl, fun _ h => by cases h⟩
  | y :: ys, h => by
    obtain ⟨c, hc, e⟩ := h y List.mem_cons_self
    obtain ⟨cs, e2, h2⟩ := ords_of (ys := ys) fun x hx => h x (List.mem_cons_of_mem _ hx)
    exact ⟨c :: cs, by rw [e, e2]; rfl, fun x hx => by rcases List.mem_cons.mp hx with rfl | hx; exact hc; exact h2 x hx⟩
theorem lines_of : ∀ {ys : List D}, (∀ y ∈ ys, ∃ o, LineOk 4000 o ∧ y = PyData.str (S o)) → ∃ os : List (List Nat), ys = os.map (fun w => .str (S w)) ∧ ∀ o ∈ os, LineOk 4000 o
  | [], _ => ⟨[], rfl, fun _ h => by cases h⟩
  | y :: ys, h => by
    obtain ⟨c, hc, e⟩ := h y List.mem_cons_self
    obtain ⟨cs, e2, h2⟩ := lines_of (ys := ys) fun x hx => h x (List.mem_cons_of_mem _ hx)
    exact ⟨c :: cs, by rw [e, e2]; rfl, fun x hx => by rcases List.mem_cons.mp hx with rfl | hx; exact hc; exact h2 x hx⟩
theorem sp_ssame {d : D} {n : Nat} {Q : D → Prop} (h : sameOk n d) (hn : n ≤ 8) (hq : Q (.bool true)) : w__law_same 8 [d, d] Q := by
  rw [same_eq]
  exact sp_same _ _ _ (sameOk_le hn h) hq
theorem x_l1 {f : List D → D → (D → Prop) → Prop} {a b : EW} {δ : DE} {Q : D → Prop} : wL1 f a b δ Q = a δ fun x => match x with | .list z => b δ fun y => f z y Q | _ => False := id rfl
theorem due_w {ms : List (List Nat)} {δ : DE} {Q : D → Prop} (h9 : ∀ R : D → Prop, wVar 9 δ R = R (.list (ms.map fun l => rd (cut1 32 l)))) (hn : ms.length ≤ 100) (h : ∀ l ∈ ms, LineOk 4000 l) (hq : Q (outD ms)) :
    wIf (bW (wOp (oInB false) (wC PyData.none) (wVar 9))) (wTup (wCons (wC (PyData.str (S [119, 114, 111, 110, 103]))) (wCons (wOp oAdd (wL1 oLIndex (wVar 9) (wC PyData.none)) (wC (PyData.int 1))) wNil))) (wTup (wCons (wC (PyData.str (S [116, 111, 108, 100]))) (wCons (wVar 9) wNil))) δ Q := by
  simp only [x_if, x_bW, x_op, x_c, h9, x_tup, x_cons, x_nil, x_l1]
  exact due_eq hn h hq
theorem lawTrue : LawTrue := by
  refine ⟨?_, ?_⟩
  · show 3 = 3 ∧ w__law_digits [scD, .int 0, .int 60] _
    exact ⟨rfl, sp_dig fun bs => ⟨_, bs, rfl, intsD_map bs⟩⟩
  show w_law [some (.dat scD), some (.dat bxD), none, none, none, none, none, none, none, none, none, none, none, none] _
  unfold w_law
  walk_at "lits"
  walk_at "st"
  refine sp_ldraw (by decide) fun r r0 r1 => ⟨⟨by omega, by omega⟩, ?_⟩
  refine lc_any (fun y => ∃ o, OrdOk o ∧ y = od o) _ _ (fun d hd => ⟨_, rfl, fun R hR => ?_⟩) ?_ fun ys hl hy => ?_
  · show 1 = 1 ∧ w__law_order [bxD] R
    exact ⟨rfl, sp_law_order fun ps h => hR _ ⟨ps, h, rfl⟩⟩
  · have : (rangeD 0 (1 + r).toNat).length = (1 + r).toNat := by unfold rangeD; rw [List.length_map, List.length_range]
    rw [this]; show 0 + _ ≤ _; omega
  obtain ⟨os, rfl, ho⟩ := ords_of hy
  have hn : 1 ≤ os.length ∧ os.length ≤ 8 := by
    have : (rangeD 0 (1 + r).toNat).length = (1 + r).toNat := by unfold rangeD; rw [List.length_map, List.length_range]
    rw [this, List.length_map] at hl
    omega
  clear hl hy
  rw [List.nil_append]
  walk_at "st"
  refine lc_map od (fun o => .str (S (line o))) os [] (fun o q R hR => ?_) (by show 0 + _ ≤ _; omega) ?_
  · have h1 := ho o q
    show wM1 fJoin (wC (PyData.str (S [32]))) (wLc (wIter (wVar 12)) [11] uName wYes (wCall (on1 oStr) (wCons (wVar 11) wNil)) [11]) [some scD, some bxD, some (PyData.list (List.map od os)), none, none, none, none, none, none, none, none, none, some (od o), none] R
    rw [x_m1]
    walk_at "w1"
    exact strs_parts (k := 11) h1.1 (by have := h1.2.1; omega) (fun d R => rfl) (join_parts h1.1 h1.2.1 hR)
  have hls : (os.map fun o => (PyData.str (S (line o)) : D)) = (os.map line).map fun w => PyData.str (S w) := by rw [List.map_map]; rfl
  rw [List.nil_append, hls]
  have hlo : ∀ l ∈ os.map line, LineOk 1010 l := fun l hl => by
    obtain ⟨o, q, rfl⟩ := List.mem_map.mp hl
    exact (ho o q).line
  walk_at "st"
  refine ⟨by rw [List.length_map]; omega, ?_⟩
  refine for_inv (fun ds ρ => ∃ b4 b5 b6 b7 b8 b9 b10 b11 b12 b13 : Option Sl, (∀ d ∈ ds, d ∈ rangeD ((0 : Nat) : Int) os.length) ∧ ρ = [some (.dat scD), some (.dat bxD), some (.dat (.list (os.map od))), some (.dat (.list ((os.map line).map fun w => .str (S w)))), b4, b5, b6, b7, b8, b9, b10, b11, b12, b13]) ?_ ?_ _ _ ⟨none, none, none, none, none, none, none, none, none, none, fun d hd => by rw [Int.toNat_natCast, List.length_map] at hd; exact hd, rfl⟩
  · rintro d rs ρ ⟨b4, b5, b6, b7, b8, b9, b10, b11, b12, b13, hr, rfl⟩ P' hnx _ _ _
    obtain ⟨i, rfl, _, hi⟩ := mem_rangeD (hr d List.mem_cons_self)
    obtain ⟨o, hoi⟩ : ∃ o, os[i]? = some o := ⟨os[i], List.getElem?_eq_getElem (by omega)⟩
    have h1 := ho o (List.mem_of_getElem? hoi)
    have ix1 : ∀ {R : D → Prop}, oIx (.list (os.map od)) (.int (i : Nat)) R = R (od o) := ixL (by rw [List.getElem?_map, hoi]; rfl)
    have ix2 : ∀ {R : D → Prop}, oIx (.list ((os.map line).map fun w => (PyData.str (S w) : D))) (.int (i : Nat)) R = R (.str (S (line o))) := ixL (by rw [List.getElem?_map, List.getElem?_map, hoi]; rfl)
    have hlen := h1.line.1
    refine ⟨_, rfl, ?_⟩
    walk_at "st"
    rw [ix1]
    refine sp_write_order h1.1 h1.2.1 ?_
    rw [ix2]
    refine sp_ssame (n := 1) (ok_text (by omega) h1.2.2.2.1) (by decide) ?_
    rw [x_truB]
    walk_at "ifs"
    rw [ix2]
    refine sp_read_order (by omega) ?_
    rw [ix1, h1.2.2.1]
    refine sp_ssame (n := 2) h1.od.same (by decide) ?_
    rw [x_truB]
    walk_at "ifs"
    walk_at "st"
    rw [ix2]
    refine sp_law_read (by omega) h1.2.2.2.1 ?_
    rw [ix1, h1.2.2.1]
    refine o_neLay (k := 1) (by decide) h1.od.lay h1.od.lay ?_
    rw [eqv_self h1.od.lay]
    walk_at "ifs"
    walk_at "w1"
    refine ⟨⟨by decide, by decide⟩, ?_⟩
    refine for_inv (fun ds ρ => ∃ b5 b6 : Option Sl, ρ = [some (.dat scD), some (.dat bxD), some (.dat (.list (os.map od))), some (.dat (.list ((os.map line).map fun w => .str (S w)))), some (.dat (.int (i : Nat))), b5, b6, b7, b8, b9, b10, b11, b12, b13]) ?_ ?_ _ _ ⟨_, _, rfl⟩
    · rintro d rs2 ρ ⟨b5, b6, rfl⟩ P2 hnx2 _ _ _
      refine ⟨_, rfl, ?_⟩
      walk_at "st"
      rw [ix2]
      refine sp_law_bent h1.line fun l hl => ?_
      have hll := hl.1
      walk_at "w1"
      refine sp_read_order (by omega) (sp_law_read (by omega) hl.2.1 ?_)
      refine sp_ssame (n := 2) (rd_line hl).same (by decide) ?_
      rw [x_truB]
      walk_at "ifs"
      exact hnx2 _ ⟨_, _, rfl⟩
    · rintro ρ ⟨b5, b6, rfl⟩
      exact hnx _ ⟨_, _, _, _, _, _, _, _, _, _, fun d hd => hr d (List.mem_cons_of_mem _ hd), rfl⟩
  rintro ρ ⟨b4, b5, b6, b7, b8, b9, b10, b11, b12, b13, _, rfl⟩
  have hne : os.map line ≠ [] := fun z => by
    rw [List.map_eq_nil_iff] at z
    rw [z] at hn
    exact absurd hn.1 (by decide)
  have hlm : (os.map line).length = os.length := List.length_map _
  have jok : ∀ {ms : List (List Nat)} {R : D → Prop}, ms.length ≤ 8 → (∀ l ∈ ms, LineOk 4000 l) → R (.str (S (TL.joinL [10] ms))) → fJoin (S [10]) (.list (ms.map fun w => .str (S w))) R := fun {ms R} h1 h2 h3 => by
    rw [fj]
    refine ⟨?_, h3⟩
    have := sum_le (ws := ms) (m := 4000) fun w hw => (h2 w hw).1
    show _ + ms.length * 1 ≤ _
    omega
  have hlo4 : ∀ l ∈ os.map line, LineOk 4000 l := fun l hl => (hlo l hl).le (by decide)
  dsimp only
  walk_at "st"
  refine jok (by omega) hlo4 ?_
  walk_at "st"
  have hbig : (TL.joinL [10] (os.map line)).length ≤ 100000 ∧ ∀ c ∈ TL.joinL [10] (os.map line), c < 128 := by
    refine ⟨?_, fun c hc => ?_⟩
    · have h1 := joinL_len [10] (os.map line)
      have h2 := sum_le (ws := os.map line) (m := 4000) fun w hw => (hlo4 w hw).1
      have h3 : (os.map line).length * [10].length = (os.map line).length := Nat.mul_one _
      omega
    · rcases joinL_mem hc with z | ⟨w, hw, z⟩
      · rw [List.mem_singleton.mp z]; decide
      · exact (hlo4 w hw).2.1 c z
  have h0 : TL.joinL [10] (os.map line) ≠ [] := joinL_none hne fun z => by
    cases os with
    | nil => exact hne rfl
    | cons o os' =>
      rw [List.map_cons, List.cons.injEq] at z
      exact (ho o List.mem_cons_self).2.2.2.2.2 z.1
  show w_write_orders [.list (os.map od)] _
  refine sp_write_orders ho hn.2 ?_
  refine sp_ssame (n := 1) (ok_text (by omega) hbig.2) (by decide) ?_
  rw [x_truB]
  walk_at "ifs"
  refine sp_law_text hne h0 (fun l hl => (hlo4 l hl).2.2) (fun l hl => by have := (hlo4 l hl).1; omega) (by omega) ⟨sz 2, ?_⟩
  rw [out_lines ho]
  refine sp_ssame (n := 4) (by rw [← out_lines ho]; exact ok_out (by omega) hlo4) (by decide) ?_
  rw [x_truB]
  walk_at "ifs"
  walk_at "st"
  refine ⟨⟨by decide, by decide⟩, ?_⟩
  refine for_inv (fun ds ρ => ∃ b5 b8 b9 b10 b11 b12 b13 : Option Sl, ρ = [some (.dat scD), some (.dat bxD), some (.dat (.list (os.map od))), some (.dat (.list ((os.map line).map fun w => .str (S w)))), b4, b5, b6, some (.dat (.str (S (TL.joinL [10] (os.map line))))), b8, b9, b10, b11, b12, b13]) ?_ ?_ _ _ ⟨_, _, _, _, _, _, _, rfl⟩
  · rintro d rs ρ ⟨b5, b8, b9, b10, b11, b12, b13, rfl⟩ P2 hnx2 _ _ _
    refine ⟨_, rfl, ?_⟩
    walk_at "st"
    refine lc_any (fun y => ∃ l, LineOk 4000 l ∧ y = PyData.str (S l)) _ _ (fun d hd => ⟨_, rfl, fun R hR => ?_⟩) ?_ fun ys hl hy => ?_
    · obtain ⟨l, hl, rfl⟩ := List.mem_map.mp hd
      show wIf _ _ _ [some scD, some bxD, some (.list (os.map od)), some (.list ((os.map line).map fun w => .str (S w))), _, _, _, _, _, _, _, _, _, some (.str (S l))] R
      rw [x_if]
      walk_at "w1"
      refine sp_ldraw (by decide) fun r r0 r1 => ?_
      walk_at "w1"
      split
      · exact sp_law_bent (hlo l hl) fun l' hl' => hR _ ⟨l', hl', rfl⟩
      · exact hR _ ⟨l, hlo4 l hl, rfl⟩
    · rw [List.length_map, hlm]; show 0 + _ ≤ _; omega
    obtain ⟨ms, rfl, hm⟩ := lines_of hy
    rw [List.length_map, List.length_map, hlm] at hl
    clear hy
    rw [List.nil_append]
    walk_at "st"
    refine lc_map (fun w => .str (S w)) (fun l => rd (cut1 32 l)) ms [] (fun l q R hR => ?_) (by show 0 + _ ≤ _; omega) ?_
    · have h1 := hm l q
      have h2 := h1.1
      exact ⟨rfl, sp_law_read (by omega) h1.2.1 hR⟩
    rw [List.nil_append]
    rw [x_seq, x_asg]
    refine due_w (fun R => rfl) (by omega) hm ?_
    walk_at "w1"
    refine ⟨sz 1, ?_⟩
    have lm : layOk 2 (.list (ms.map fun w => (PyData.str (S w) : D))) := layOk_lst fun d hd => by
      obtain ⟨l, hl, rfl⟩ := List.mem_map.mp hd
      exact layOk_str (hm l hl).2.1
    have lm1 : layOk 2 (.list [(PyData.str (S []) : D)]) := layOk_lst fun d hd => by
      rw [List.mem_singleton.mp hd]
      exact layOk_str (by decide)
    refine o_neLay (by decide) lm lm1 ?_
    cases e : PyData.eqv (.list (ms.map fun w => (PyData.str (S w) : D))) (.list [.str (S [])]) with
    | true => exact hnx2 _ ⟨_, _, _, _, _, _, _, rfl⟩
    | false =>
      have hne1 : ms ≠ [] := fun z => by rw [z] at hl; exact absurd hl (by show ¬ 0 = _; omega)
      have hne2 : ms ≠ [[]] := fun z => by
        rw [z] at e
        exact absurd (e.symm.trans (eqv_self lm1)) (by decide)
      walk_at "ifs"
      refine jok (by omega) hm ?_
      refine sp_law_text hne1 (joinL_none hne1 hne2) (fun l hl => (hm l hl).2.2) (fun l hl => by have := (hm l hl).1; omega) (by omega) ?_
      refine sp_ssame (n := 4) (ok_out (by omega) hm) (by decide) ?_
      rw [x_truB]
      walk_at "ifs"
      exact hnx2 _ ⟨_, _, _, _, _, _, _, rfl⟩
  · rintro ρ ⟨b5, b8, b9, b10, b11, b12, b13, rfl⟩
    dsimp only
    walk_at "st"
    have h1 := hbig.1
    refine ⟨by omega, ?_⟩
    rw [← joinL_snoc [10] _ hne]
    have hb : ∀ l ∈ os.map line ++ [[]], LineOk 4000 l := fun l hl => by
      rcases List.mem_append.mp hl with z | z
      · exact hlo4 l z
      · rw [List.mem_singleton.mp z]; exact ⟨by decide, by decide, by decide⟩
    have hne3 : os.map line ++ [[]] ≠ [[]] := fun z => hne (by simpa using z)
    refine sp_law_text (by simp) (joinL_none (by simp) hne3) (fun l hl => (hb l hl).2.2) (fun l hl => by have := (hb l hl).1; omega) (by rw [List.length_append, hlm, List.length_singleton]; omega) ⟨sz 2, ?_⟩
    rw [out_more ho, show ((os.map line).map fun w => (PyData.str (S w) : D)).length = os.length by rw [List.length_map, hlm]]
    refine sp_ssame (n := 4) (by rw [← out_more ho]; exact ok_out (by rw [List.length_append, hlm, List.length_singleton]; omega) hb) (by decide) ?_
    rw [x_truB]
    walk_at "ifs"
    refine sp_law_text0 ⟨sz 0, sz 2, ?_⟩
    refine sp_ssame (n := 2) (ok_tup (by decide) fun d hd => ?_) (by decide) rfl
    rcases List.mem_cons.mp hd with rfl | hd
    · exact ok_text (by decide) (by decide)
    · rw [List.mem_singleton.mp hd]
      exact ok_lst (n := 0) (by decide) fun x hx => by cases hx
end G_k97_orders_read_and_written

set_option Elab.async false
set_option linter.all false
set_option maxRecDepth 100000
set_option maxHeartbeats 4000000
/-! k97_orders_read_and_written: the walk, printed by gen.py. -/
namespace G_k97_orders_read_and_written
open PySem PyProof.Rows L2 Wy
def top (i : Nat) : Stmt := PySem.Challenge.pw_ruleyard_k97_orders_read_and_written.main.body.getD i (.Pass ⟨0, 0, 0, 0⟩)
abbrev s_is_word : Stmt := top 7
abbrev s_number_of : Stmt := top 8
abbrev s_read_order : Stmt := top 9
abbrev s_read_orders : Stmt := top 10
abbrev s_write_order : Stmt := top 11
abbrev s_write_orders : Stmt := top 12
abbrev s__law_cell : Stmt := top 14
abbrev s__law_digits : Stmt := top 15
abbrev s__law_draw : Stmt := top 16
abbrev s__law_pick : Stmt := top 17
abbrev s__law_same : Stmt := top 18
abbrev s__law_is_word : Stmt := top 19
abbrev s__law_number : Stmt := top 20
abbrev s__law_asked : Stmt := top 21
abbrev s__law_read : Stmt := top 22
abbrev s__law_word : Stmt := top 23
abbrev s__law_order : Stmt := top 24
abbrev s__law_bent : Stmt := top 25
abbrev s__law_text : Stmt := top 26
abbrev s_law : Stmt := top 27
abbrev si_BadOrder : Stmt := clsSt (top 2) 0
structure Txt (P : Program) (K : PySem.W.Frag) (mg : Str → Option Value) where
  e_BadOrder : ErrD P K mg "BadOrder" "BadOrder.__init__" "line" ("line " : Str)
  x_BadOrder_RuleError : ∃ C0, mg "RuleError" = some (.ref C0) ∧ PySem.W.exmOne K (.ref e_BadOrder.C) (.ref C0) = some true
  d_is_word : Df K mg "is_word" s_is_word
  d_number_of : Df K mg "number_of" s_number_of
  d_read_order : Df K mg "read_order" s_read_order
  d_read_orders : Df K mg "read_orders" s_read_orders
  d_write_order : Df K mg "write_order" s_write_order
  d_write_orders : Df K mg "write_orders" s_write_orders
  d__law_cell : Df K mg "_law_cell" s__law_cell
  d__law_digits : Df K mg "_law_digits" s__law_digits
  d__law_draw : Df K mg "_law_draw" s__law_draw
  d__law_pick : Df K mg "_law_pick" s__law_pick
  d__law_same : Df K mg "_law_same" s__law_same
  d__law_is_word : Df K mg "_law_is_word" s__law_is_word
  d__law_number : Df K mg "_law_number" s__law_number
  d__law_asked : Df K mg "_law_asked" s__law_asked
  d__law_read : Df K mg "_law_read" s__law_read
  d__law_word : Df K mg "_law_word" s__law_word
  d__law_order : Df K mg "_law_order" s__law_order
  d__law_bent : Df K mg "_law_bent" s__law_bent
  d__law_text : Df K mg "_law_text" s__law_text
  d_law : Df K mg "law" s_law
  m_all : mg "all" = none
  m_bool : mg "bool" = none
  m_enumerate : mg "enumerate" = none
  m_int : mg "int" = none
  m_isinstance : mg "isinstance" = none
  m_len : mg "len" = none
  m_list : mg "list" = none
  m_range : mg "range" = none
  m_repr : mg "repr" = none
  m_str : mg "str" = none
  m_tuple : mg "tuple" = none
  a_ASKED : ∃ (v : V) (u : Value), mg "ASKED" = some u ∧ RelV v u ∧ ∀ bx T H, RP K bx T H v (.tuple [.str ("text" : Str), .str ("rules" : Str), .str ("stable" : Str), .str ("shown" : Str), .str ("best" : Str), .str ("surely" : Str), .str ("size" : Str), .str ("paper" : Str), .str ("simple" : Str)] : D)
  a_BARE : ∃ (v : V) (u : Value), mg "BARE" = some u ∧ RelV v u ∧ ∀ bx T H, RP K bx T H v (.tuple [.str ("books" : Str), .str ("begin" : Str), .str ("end" : Str), .str ("drop" : Str)] : D)
  a_SMALL : ∃ (v : V) (u : Value), mg "SMALL" = some u ∧ RelV v u ∧ ∀ bx T H, RP K bx T H v (.str ("abcdefghijklmnopqrstuvwxyz" : Str) : D)
section
variable {P : Program} {w : World} {K : PySem.W.Frag} {mg : Str → Option Value} {base : Heap}
theorem sc_is_word : FnScope ["word", "letter"] ["word"] (defScope s_is_word) := ⟨rfl, rfl, rfl, by decide +kernel, rfl, by decide +kernel, by decide +kernel⟩
theorem b_is_word (T : Txt P K mg) : Binds K T.d_is_word.fd ["word"] [] := T.d_is_word.F.bindsN fun _ _ _ _ _ _ us hl => match us, hl with | [_], _ => rfl
theorem sc_number_of : FnScope ["word", "figure"] ["word"] (defScope s_number_of) := ⟨rfl, rfl, rfl, by decide +kernel, rfl, by decide +kernel, by decide +kernel⟩
theorem b_number_of (T : Txt P K mg) : Binds K T.d_number_of.fd ["word"] [] := T.d_number_of.F.bindsN fun _ _ _ _ _ _ us hl => match us, hl with | [_], _ => rfl
theorem sc_read_order : FnScope ["line", "words", "kind"] ["line"] (defScope s_read_order) := ⟨rfl, rfl, rfl, by decide +kernel, rfl, by decide +kernel, by decide +kernel⟩
theorem b_read_order (T : Txt P K mg) : Binds K T.d_read_order.fd ["line"] [] := T.d_read_order.F.bindsN fun _ _ _ _ _ _ us hl => match us, hl with | [_], _ => rfl
theorem sc_read_orders : FnScope ["text", "found", "number", "line", "order"] ["text"] (defScope s_read_orders) := ⟨rfl, rfl, rfl, by decide +kernel, rfl, by decide +kernel, by decide +kernel⟩
theorem b_read_orders (T : Txt P K mg) : Binds K T.d_read_orders.fd ["text"] [] := T.d_read_orders.F.bindsN fun _ _ _ _ _ _ us hl => match us, hl with | [_], _ => rfl
theorem sc_write_order : FnScope ["order", "part"] ["order"] (defScope s_write_order) := ⟨rfl, rfl, rfl, by decide +kernel, rfl, by decide +kernel, by decide +kernel⟩
theorem b_write_order (T : Txt P K mg) : Binds K T.d_write_order.fd ["order"] [] := T.d_write_order.F.bindsN fun _ _ _ _ _ _ us hl => match us, hl with | [_], _ => rfl
theorem sc_write_orders : FnScope ["orders", "order"] ["orders"] (defScope s_write_orders) := ⟨rfl, rfl, rfl, by decide +kernel, rfl, by decide +kernel, by decide +kernel⟩
theorem b_write_orders (T : Txt P K mg) : Binds K T.d_write_orders.fd ["orders"] [] := T.d_write_orders.F.bindsN fun _ _ _ _ _ _ us hl => match us, hl with | [_], _ => rfl
theorem sc__law_cell : FnScope ["script", "k"] ["script", "k"] (defScope s__law_cell) := ⟨rfl, rfl, rfl, by decide +kernel, rfl, by decide +kernel, by decide +kernel⟩
theorem b__law_cell (T : Txt P K mg) : Binds K T.d__law_cell.fd ["script", "k"] [] := T.d__law_cell.F.bindsN fun _ _ _ _ _ _ us hl => match us, hl with | [_, _], _ => rfl
theorem sc__law_digits : FnScope ["script", "first", "last", "digits", "k", "cell", "turn", "seed"] ["script", "first", "last"] (defScope s__law_digits) := ⟨rfl, rfl, rfl, by decide +kernel, rfl, by decide +kernel, by decide +kernel⟩
theorem b__law_digits (T : Txt P K mg) : Binds K T.d__law_digits.fd ["script", "first", "last"] [] := T.d__law_digits.F.bindsN fun _ _ _ _ _ _ us hl => match us, hl with | [_, _, _], _ => rfl
theorem sc__law_draw : FnScope ["box", "many"] ["box", "many"] (defScope s__law_draw) := ⟨rfl, rfl, rfl, by decide +kernel, rfl, by decide +kernel, by decide +kernel⟩
theorem b__law_draw (T : Txt P K mg) : Binds K T.d__law_draw.fd ["box", "many"] [] := T.d__law_draw.F.bindsN fun _ _ _ _ _ _ us hl => match us, hl with | [_, _], _ => rfl
theorem sc__law_pick : FnScope ["box", "row"] ["box", "row"] (defScope s__law_pick) := ⟨rfl, rfl, rfl, by decide +kernel, rfl, by decide +kernel, by decide +kernel⟩
theorem b__law_pick (T : Txt P K mg) : Binds K T.d__law_pick.fd ["box", "row"] [] := T.d__law_pick.F.bindsN fun _ _ _ _ _ _ us hl => match us, hl with | [_, _], _ => rfl
theorem sc__law_same : FnScope ["told", "due", "k"] ["told", "due"] (defScope s__law_same) := ⟨rfl, rfl, rfl, by decide +kernel, rfl, by decide +kernel, by decide +kernel⟩
theorem b__law_same (T : Txt P K mg) : Binds K T.d__law_same.fd ["told", "due"] [] := T.d__law_same.F.bindsN fun _ _ _ _ _ _ us hl => match us, hl with | [_, _], _ => rfl
theorem sc__law_is_word : FnScope ["word", "letter"] ["word"] (defScope s__law_is_word) := ⟨rfl, rfl, rfl, by decide +kernel, rfl, by decide +kernel, by decide +kernel⟩
theorem b__law_is_word (T : Txt P K mg) : Binds K T.d__law_is_word.fd ["word"] [] := T.d__law_is_word.F.bindsN fun _ _ _ _ _ _ us hl => match us, hl with | [_], _ => rfl
theorem sc__law_number : FnScope ["word", "fine", "worth", "sign"] ["word"] (defScope s__law_number) := ⟨rfl, rfl, rfl, by decide +kernel, rfl, by decide +kernel, by decide +kernel⟩
theorem b__law_number (T : Txt P K mg) : Binds K T.d__law_number.fd ["word"] [] := T.d__law_number.F.bindsN fun _ _ _ _ _ _ us hl => match us, hl with | [_], _ => rfl
theorem sc__law_asked : FnScope [] [] (defScope s__law_asked) := ⟨rfl, rfl, rfl, by decide +kernel, rfl, by decide +kernel, by decide +kernel⟩
theorem b__law_asked (T : Txt P K mg) : Binds K T.d__law_asked.fd [] [] := T.d__law_asked.F.bindsN fun _ _ _ _ _ _ us hl => match us, hl with | [], _ => rfl
theorem sc__law_read : FnScope ["text_row", "words", "kind", "many"] ["text_row"] (defScope s__law_read) := ⟨rfl, rfl, rfl, by decide +kernel, rfl, by decide +kernel, by decide +kernel⟩
theorem b__law_read (T : Txt P K mg) : Binds K T.d__law_read.fd ["text_row"] [] := T.d__law_read.F.bindsN fun _ _ _ _ _ _ us hl => match us, hl with | [_], _ => rfl
theorem sc__law_word : FnScope ["box", "k"] ["box"] (defScope s__law_word) := ⟨rfl, rfl, rfl, by decide +kernel, rfl, by decide +kernel, by decide +kernel⟩
theorem b__law_word (T : Txt P K mg) : Binds K T.d__law_word.fd ["box"] [] := T.d__law_word.F.bindsN fun _ _ _ _ _ _ us hl => match us, hl with | [_], _ => rfl
theorem sc__law_order : FnScope ["box", "one", "kind"] ["box"] (defScope s__law_order) := ⟨rfl, rfl, rfl, by decide +kernel, rfl, by decide +kernel, by decide +kernel⟩
theorem b__law_order (T : Txt P K mg) : Binds K T.d__law_order.fd ["box"] [] := T.d__law_order.F.bindsN fun _ _ _ _ _ _ us hl => match us, hl with | [_], _ => rfl
theorem sc__law_bent : FnScope ["box", "text_row", "words", "at", "way"] ["box", "text_row"] (defScope s__law_bent) := ⟨rfl, rfl, rfl, by decide +kernel, rfl, by decide +kernel, by decide +kernel⟩
theorem b__law_bent (T : Txt P K mg) : Binds K T.d__law_bent.fd ["box", "text_row"] [] := T.d__law_bent.F.bindsN fun _ _ _ _ _ _ us hl => match us, hl with | [_, _], _ => rfl
theorem sc__law_text : FnScope ["text", "e"] ["text"] (defScope s__law_text) := ⟨rfl, rfl, rfl, by decide +kernel, rfl, by decide +kernel, by decide +kernel⟩
theorem b__law_text (T : Txt P K mg) : Binds K T.d__law_text.fd ["text"] [] := T.d__law_text.F.bindsN fun _ _ _ _ _ _ us hl => match us, hl with | [_], _ => rfl
theorem sc_law : FnScope ["script", "box", "orders", "lines", "k", "turn", "bent", "text", "mixed", "told", "due", "part", "order", "text_row"] ["script"] (defScope s_law) := ⟨rfl, rfl, rfl, by decide +kernel, rfl, by decide +kernel, by decide +kernel⟩
theorem b_law (T : Txt P K mg) : Binds K T.d_law.fd ["script"] [] := T.d_law.F.bindsN fun _ _ _ _ _ _ us hl => match us, hl with | [_], _ => rfl
theorem G_is_word (T : Txt P K mg) : FnOk P w K mg base CX0 1 T.d_is_word.f T.d_is_word.fd ["word"] (spW K 1 w_is_word) := by
  obtain ⟨v_SMALL, u_SMALL, z1_SMALL, z2_SMALL, z3_SMALL⟩ := T.a_SMALL
  have nd : (["word", "letter"] : List Str).Nodup := sc_is_word.nd
  exact okW (k := 0) T.d_is_word.F sc_is_word rfl rfl fun cdv A outer s H E hr => ⟨_, (s1 (sret (eand (echain ow_le ow_le ec_int (ecb (kb_len K) T.m_len (by decide +kernel) (ac (ev 0) an)) ec_int) (eone (ecb (kb_all K rfl) T.m_all (by decide +kernel) (ac (elc rfl nd (own := [("letter", 1)]) (kiter K (ev 0)) (blkOk_by (N := ["word", "letter"]) (sc := defScope s_is_word) (by decide +kernel)) (fun _ _ _ _ _ => (gnm 1 nd)) (fun _ _ _ _ _ => ts0) (fun _ _ _ _ _ => (ecmp (ka_in K (hu65 hr)) (ev 1) (kg K z1_SMALL z2_SMALL z3_SMALL)))) an))))))⟩
theorem G_number_of (T : Txt P K mg) : FnOk P w K mg base CX0 1 T.d_number_of.f T.d_number_of.fd ["word"] (spW K 1 w_number_of) := by
  have nd : (["word", "figure"] : List Str).Nodup := sc_number_of.nd
  exact okW (k := 0) T.d_number_of.F sc_number_of rfl rfl fun cdv A outer s H E hr => ⟨_, (sc (sif (PWW.t (tor (tnot (tchain ow_le ow_le ec_int (ecb (kb_len K) T.m_len (by decide +kernel) (ac (ev 0) an)) ec_int)) (tor1 (tnot (ktru K (ecb (kb_all K rfl) T.m_all (by decide +kernel) (ac (elc rfl nd (own := [("figure", 1)]) (kiter K (ev 0)) (blkOk_by (N := ["word", "figure"]) (sc := defScope s_number_of) (by decide +kernel)) (fun _ _ _ _ _ => (gnm 1 nd)) (fun _ _ _ _ _ => ts0) (fun _ _ _ _ _ => (ecmp (ka_in K (hu65 hr)) (ev 1) ec_str))) an))))))) (s1 (sret ec_non)) sn) (sc (sif (PWW.t (tand (tcmp ow_gt (ecb (kb_len K) T.m_len (by decide +kernel) (ac (ev 0) an)) ec_int) (tand1 (tcmp (ka_eq K (hu64 hr)) (kix K (ev 0) ec_int) ec_str)))) (s1 (sret ec_non)) sn) (s1 (sret (ecty cb_int T.m_int (by decide +kernel) (ac (ev 0) an))))))⟩
theorem G_read_order (T : Txt P K mg) : FnOk P w K mg base CX0 2 T.d_read_order.f T.d_read_order.fd ["line"] (spW K 1 w_read_order) := by
  obtain ⟨v_ASKED, u_ASKED, z1_ASKED, z2_ASKED, z3_ASKED⟩ := T.a_ASKED
  obtain ⟨v_BARE, u_BARE, z1_BARE, z2_BARE, z3_BARE⟩ := T.a_BARE
  have nd : (["line", "words", "kind"] : List Str).Nodup := sc_read_order.nd
  exact okW (k := 1) T.d_read_order.F sc_read_order rfl rfl fun cdv A outer s H E hr => ⟨_, (sc (sset 1 nd (esplit (ev 0) ec_str)) (sc (sif (PWW.t (tand (tcmp (ka_eq K (hu64 hr)) (ecb (kb_len K) T.m_len (by decide +kernel) (ac (ev 1) an)) ec_int) (tand1 (tcmp (ka_in K (hu65 hr)) (kix K (ev 1) ec_int) (kg K z1_BARE z2_BARE z3_BARE))))) (s1 (sret (etup (ac (kix K (ev 1) ec_int) an)))) sn) (sc (sif (PWW.t (tor (tcmp ow_lt (ecb (kb_len K) T.m_len (by decide +kernel) (ac (ev 1) an)) ec_int) (tor1 (tnot (ktru K (kcall K (G_is_word T ) (hr.mono (by decide)) T.d_is_word.g T.d_is_word.F.kp (b_is_word T) (ac (kix K (ev 1) ec_int) an))))))) (s1 (sret ec_non)) sn) (sc (sset 2 nd (kix K (ev 1) ec_int)) (sc (sif (PWW.t (tand (tcmp (ka_eq K (hu64 hr)) (ecb (kb_len K) T.m_len (by decide +kernel) (ac (ev 1) an)) ec_int) (tand1 (tcmp (ka_in K (hu65 hr)) (ev 2) (etup (ac ec_str (ac ec_str (ac ec_str an)))))))) (s1 (sret (etup (ac (ev 2) (ac (kix K (ev 1) ec_int) an))))) sn) (sc (sif (PWW.t (tand (tcmp (ka_eq K (hu64 hr)) (ev 2) ec_str) (tand1 (tcmp ow_gt (ecb (kb_len K) T.m_len (by decide +kernel) (ac (ev 1) an)) ec_int)))) (s1 (sret (etup (ac ec_str (ac (kix K (ev 1) ec_int) (ac (kjoin K ec_str (ksl K (ev 1) (os_ ec_int) on_)) an)))))) sn) (sc (sif (PWW.t (tand (tcmp (ka_eq K (hu64 hr)) (ecb (kb_len K) T.m_len (by decide +kernel) (ac (ev 1) an)) ec_int) (tand (tcmp (ka_eq K (hu64 hr)) (ev 2) ec_str) (tand1 (tcmp ow_notN (kcall K (G_number_of T ) (hr.mono (by decide)) T.d_number_of.g T.d_number_of.F.kp (b_number_of T) (ac (kix K (ev 1) ec_int) an)) ec_non))))) (s1 (sret (etup (ac ec_str (ac (kix K (ev 1) ec_int) (ac (kcall K (G_number_of T ) (hr.mono (by decide)) T.d_number_of.g T.d_number_of.F.kp (b_number_of T) (ac (kix K (ev 1) ec_int) an)) an)))))) sn) (sc (sif (PWW.t (tand (tcmp (ka_eq K (hu64 hr)) (ecb (kb_len K) T.m_len (by decide +kernel) (ac (ev 1) an)) ec_int) (tand (tcmp (ka_eq K (hu64 hr)) (ev 2) ec_str) (tand1 (tcmp (ka_in K (hu65 hr)) (kix K (ev 1) ec_int) (kg K z1_ASKED z2_ASKED z3_ASKED)))))) (s1 (sret (etup (ac ec_str (ac (kix K (ev 1) ec_int) (ac (kix K (ev 1) ec_int) an)))))) sn) (sc (sif (PWW.t (tand (tcmp (ka_eq K (hu64 hr)) (ecb (kb_len K) T.m_len (by decide +kernel) (ac (ev 1) an)) ec_int) (tand (tcmp (ka_in K (hu65 hr)) (ev 2) (etup (ac ec_str (ac ec_str an)))) (tand1 (ktru K (kcall K (G_is_word T ) (hr.mono (by decide)) T.d_is_word.g T.d_is_word.F.kp (b_is_word T) (ac (kix K (ev 1) ec_int) an))))))) (s1 (sret (etup (ac (ev 2) (ac (kix K (ev 1) ec_int) (ac (kix K (ev 1) ec_int) an)))))) sn) (sc (sif (PWW.t (tand (tcmp (ka_eq K (hu64 hr)) (ecb (kb_len K) T.m_len (by decide +kernel) (ac (ev 1) an)) ec_int) (tand1 (tcmp (ka_eq K (hu64 hr)) (ev 2) ec_str)))) (s1 (sret (eif (tcmp (ka_ne K (hu64 hr)) (kix K (ev 1) ec_int) ec_str) (etup (ac ec_str (ac (kix K (ev 1) ec_int) (ac (kix K (ev 1) ec_int) an)))) ec_non))) sn) (s1 (sret ec_non))))))))))))⟩
theorem G_read_orders (T : Txt P K mg) : FnOk P w K mg base (L2.CX P w) 3 T.d_read_orders.f T.d_read_orders.fd ["text"] (spWX K mg 1 w_read_orders) := by
  have nd : (["text", "found", "number", "line", "order"] : List Str).Nodup := sc_read_orders.nd
  exact okWX (k := 2) T.d_read_orders.F sc_read_orders rfl rfl fun cdv A outer s H E hr => ⟨_, (xsc (xs_l (sown 1 nd (nlst an))) (xsc (xs_l (sif (tcmp (ka_eq K (hu64 hr)) (ev 0) ec_str) (s1 (sret (ev 1))) sn)) (xsc (xfor (passes_of rfl) rfl (kenum K T.m_enumerate (esplit (ev 0) ec_str)) (ktup K rfl (gsc 2 nd (gsc 3 nd gsn))) (xsc (xs_l (sset 4 nd (kcall K (G_read_order T ) (hr.mono (by decide)) T.d_read_order.g T.d_read_order.F.kp (b_read_order T) (ac (ev 3) an)))) (xsc (xif (tcmp ow_isN (ev 4) ec_non) (xs1 (xraise T.e_BadOrder.T T.e_BadOrder.ok T.e_BadOrder.b (takes_of rfl rfl rfl rfl) rfl (hr.mono (by decide)) T.e_BadOrder.g (ebin (ka_add K) (ev 2) ec_int))) (xss_l sn)) (xs1 (xs_l (sapp 1 (ev 4))))))) (xs1 (xs_l (sret (ev 1)))))))⟩
theorem G_write_order (T : Txt P K mg) : FnOk P w K mg base CX0 1 T.d_write_order.f T.d_write_order.fd ["order"] (spW K 1 w_write_order) := by
  have nd : (["order", "part"] : List Str).Nodup := sc_write_order.nd
  exact okW (k := 0) T.d_write_order.F sc_write_order rfl rfl fun cdv A outer s H E hr => ⟨_, (s1 (sret (kjoin K ec_str (elc rfl nd (own := [("part", 1)]) (kiter K (ev 0)) (blkOk_by (N := ["order", "part"]) (sc := defScope s_write_order) (by decide +kernel)) (fun _ _ _ _ _ => (gnm 1 nd)) (fun _ _ _ _ _ => ts0) (fun _ _ _ _ _ => (ecty cb_str T.m_str (by decide +kernel) (ac (ev 1) an)))))))⟩
theorem G_write_orders (T : Txt P K mg) : FnOk P w K mg base CX0 2 T.d_write_orders.f T.d_write_orders.fd ["orders"] (spW K 1 w_write_orders) := by
  have nd : (["orders", "order"] : List Str).Nodup := sc_write_orders.nd
  exact okW (k := 1) T.d_write_orders.F sc_write_orders rfl rfl fun cdv A outer s H E hr => ⟨_, (s1 (sret (kjoin K ec_str (elc rfl nd (own := [("order", 1)]) (kiter K (ev 0)) (blkOk_by (N := ["orders", "order"]) (sc := defScope s_write_orders) (by decide +kernel)) (fun _ _ _ _ _ => (gnm 1 nd)) (fun _ _ _ _ _ => ts0) (fun _ _ _ _ _ => (kcall K (G_write_order T ) (hr.mono (by decide)) T.d_write_order.g T.d_write_order.F.kp (b_write_order T) (ac (ev 1) an)))))))⟩
theorem G__law_cell (T : Txt P K mg) : FnOk P w K mg base CX0 1 T.d__law_cell.f T.d__law_cell.fd ["script", "k"] (spW K 2 cellW) := by
  refine T.d__law_cell.F.ok (k := 0) sc__law_cell (fun vs H Q E h => spW_len h) (fun cdv A outer s H vs Q E hr h => ⟨_, PSs.nox ?_, cell_ok h⟩)
  exact pss_cons (ps_if (pt_cmpR op_lt (pv 1) (pe_callB call_len (by rfl) T.m_len (by decide +kernel) (pa_cons (pv 0) pa_nil)) (nomark _)) (pss_one (ps_ret (pe_ix ix_list (pv 0) (pv 1) (fun _ _ => rfl)))) pss_nil) (pss_one (ps_ret pe_int))
theorem G__law_digits (T : Txt P K mg) : FnOk P w K mg base CX0 2 T.d__law_digits.f T.d__law_digits.fd ["script", "first", "last"] (spW K 3 w__law_digits) := by
  have nd : (["script", "first", "last", "digits", "k", "cell", "turn", "seed"] : List Str).Nodup := sc__law_digits.nd
  exact okW (k := 1) T.d__law_digits.F sc__law_digits rfl rfl fun cdv A outer s H E hr => ⟨_, (sc (sown 3 nd (nlst an)) (sc (sfor PassesOwn.never rfl (irng2 T.m_range (ev 1) (ev 2)) (gnm 4 nd) (sc (sset 5 nd (kcall K (G__law_cell T ) (hr.mono (by decide)) T.d__law_cell.g T.d__law_cell.F.kp (b__law_cell T) (ac (ev 0) (ac (ev 4) an)))) (sc (sif (tcmp ow_lt (ev 5) ec_int) (s1 (sset 5 nd (ebin ow_sub ec_int (ebin ow_mul ec_int (ev 5))))) sn) (s1 (sif (tcmp ow_ge (ev 5) (ebin ow_pow ec_int ec_int)) (s1 (sfor PassesOwn.never rfl (irng1 T.m_range ec_int) (gnm 6 nd) (s1 (sif (tcmp ow_gt (ev 5) ec_int) (sc (sapp 3 (ebin ow_mod (ecty cb_int T.m_int (by decide +kernel) (ac (ev 5) an)) ec_int)) (s1 (sset 5 nd (ebin ow_div (ev 5) ec_int)))) sn)))) (sc (sset 7 nd (ebin ow_mod (ecty cb_int T.m_int (by decide +kernel) (ac (ebin (ka_add K) (ebin (ka_add K) (ebin ow_mul (ev 5) ec_int) (ebin ow_mul (ev 4) ec_int)) ec_int) an)) ec_int)) (s1 (sfor PassesOwn.never rfl (irng1 T.m_range ec_int) (gnm 6 nd) (sc (sset 7 nd (ebin ow_mod (ecty cb_int T.m_int (by decide +kernel) (ac (ebin (ka_add K) (ebin (ka_add K) (ebin ow_mul (ev 7) ec_int) (ebin ow_mul ec_int (ev 6))) ec_int) an)) ec_int)) (s1 (sapp 3 (ebin ow_mod (ecty cb_int T.m_int (by decide +kernel) (ac (ebin ow_div (ev 7) ec_int) an)) ec_int)))))))))))) (s1 (sret (ev 3)))))⟩
theorem G__law_draw (T : Txt P K mg) : FnOk P w K mg base CX0 1 T.d__law_draw.f T.d__law_draw.fd ["box", "many"] (spW K 2 drawW) := by
  refine T.d__law_draw.F.ok (k := 0) sc__law_draw (fun vs H Q E h => spW_len h) (fun cdv A outer s H vs Q E hr h => ⟨_, PSs.nox ?_, draw_ok h⟩)
  exact pss_cons (ps_asg (pe_op op_add (pe_ix ix_list (pv 0) pe_int (fun _ _ => rfl)) pe_int) (pg_sub (pv 0) pe_int set_list)) (pss_cons (ps_if (pt_cmpR op_gt (pe_ix ix_list (pv 0) pe_int (fun _ _ => rfl)) (pe_callB call_len (by rfl) T.m_len (by decide +kernel) (pa_cons (pe_ix ix_list (pv 0) pe_int (fun _ _ => rfl)) pa_nil)) (nomark _))
    (pss_one (ps_ret (pe_op op_mod (pe_callTy call_int1 (by rfl) T.m_int (by decide +kernel) (pa_cons (pe_op op_add (pe_op op_mul (pe_ix ix_list (pv 0) pe_int (fun _ _ => rfl)) pe_int) pe_int) pa_nil)) (pv 1)))) pss_nil)
    (pss_one (ps_ret (pe_op op_mod (pe_callTy call_int1 (by rfl) T.m_int (by decide +kernel) (pa_cons (pe_ix ix_list (pe_ix ix_list (pv 0) pe_int (fun _ _ => rfl)) (pe_op op_sub (pe_ix ix_list (pv 0) pe_int (fun _ _ => rfl)) pe_int) (fun _ _ => rfl)) pa_nil)) (pv 1)))))
theorem G__law_pick (T : Txt P K mg) : FnOk P w K mg base CX0 2 T.d__law_pick.f T.d__law_pick.fd ["box", "row"] (spW K 2 w__law_pick) := by
  have nd : (["box", "row"] : List Str).Nodup := sc__law_pick.nd
  exact okW (k := 1) T.d__law_pick.F sc__law_pick rfl rfl fun cdv A outer s H E hr => ⟨_, (s1 (sret (kix K (ev 1) (ebin ow_mod (ecty cb_int T.m_int (by decide +kernel) (ac (kcall K (G__law_draw T ) (hr.mono (by decide)) T.d__law_draw.g T.d__law_draw.F.kp (b__law_draw T) (ac (ev 0) (ac ec_int an))) an)) (ecb (kb_len K) T.m_len (by decide +kernel) (ac (ev 1) an))))))⟩
theorem G__law_same (T : Txt P K mg) : ∀ n : Nat, FnOk P w K mg base CX0 n T.d__law_same.f T.d__law_same.fd ["told", "due"] (spW K 2 (w__law_same n))
  | 0 => ok_false
  | n + 1 => by
    have ih := G__law_same T n
    have nd : (["told", "due", "k"] : List Str).Nodup := sc__law_same.nd
    exact okW (k := n) T.d__law_same.F sc__law_same rfl rfl fun cdv A outer s H E hr => ⟨_, (sc (sif (tcmp ow_isN (ev 1) ec_non) (s1 (sret (ecmp ow_isN (ev 0) ec_non))) sn) (sc (sif (tcmp ow_isB (ev 1) ec_bl) (s1 (sret (ecmp ow_isB (ev 0) ec_bl))) sn) (sc (sif (tcmp ow_isB (ev 1) ec_bl) (s1 (sret (ecmp ow_isB (ev 0) ec_bl))) sn) (sc (sif (ktru K (kisi K isT_str T.m_isinstance T.m_str (by decide +kernel) (ev 1))) (s1 (sret (eand (kisi K isT_str T.m_isinstance T.m_str (by decide +kernel) (ev 0)) (eone (ecmp (ka_eq K (hu64 hr)) (ecb cb_repr T.m_repr (by decide +kernel) (ac (ev 0) an)) (ecb cb_repr T.m_repr (by decide +kernel) (ac (ev 1) an))))))) sn) (sc (sif (ktru K (kisi K isT_int T.m_isinstance T.m_int (by decide +kernel) (ev 1))) (s1 (sret (eand (kisi K isT_int T.m_isinstance T.m_int (by decide +kernel) (ev 0)) (eand (enot (kisi K isT_bool T.m_isinstance T.m_bool (by decide +kernel) (ev 0))) (eone (ecmp (ka_eq K (hu64 hr)) (ecb cb_repr T.m_repr (by decide +kernel) (ac (ev 0) an)) (ecb cb_repr T.m_repr (by decide +kernel) (ac (ev 1) an)))))))) sn) (sc (sif (PWW.t (tor (PWW.t (tand (ktru K (kisi K isT_tuple T.m_isinstance T.m_tuple (by decide +kernel) (ev 1))) (tand1 (tnot (ktru K (kisi K isT_tuple T.m_isinstance T.m_tuple (by decide +kernel) (ev 0))))))) (tor1 (PWW.t (tand (ktru K (kisi K isT_list T.m_isinstance T.m_list (by decide +kernel) (ev 1))) (tand1 (tnot (ktru K (kisi K isT_list T.m_isinstance T.m_list (by decide +kernel) (ev 0)))))))))) (s1 (sret ec_bl)) sn) (sc (sif (tcmp (ka_ne K (hu64 hr)) (ecb (kb_len K) T.m_len (by decide +kernel) (ac (ev 0) an)) (ecb (kb_len K) T.m_len (by decide +kernel) (ac (ev 1) an))) (s1 (sret ec_bl)) sn) (sc (sfor PassesOwn.never rfl (irng1 T.m_range (ecb (kb_len K) T.m_len (by decide +kernel) (ac (ev 1) an))) (gnm 2 nd) (s1 (sif (tnot (ktru K (kcall K ih (hr.mono (Nat.le_refl _)) T.d__law_same.g T.d__law_same.F.kp (b__law_same T) (ac (kix K (ev 0) (ev 2)) (ac (kix K (ev 1) (ev 2)) an))))) (s1 (sret ec_bl)) sn))) (s1 (sret ec_bl))))))))))⟩
theorem G__law_is_word (T : Txt P K mg) : FnOk P w K mg base CX0 1 T.d__law_is_word.f T.d__law_is_word.fd ["word"] (spW K 1 w__law_is_word) := by
  have nd : (["word", "letter"] : List Str).Nodup := sc__law_is_word.nd
  exact okW (k := 0) T.d__law_is_word.F sc__law_is_word rfl rfl fun cdv A outer s H E hr => ⟨_, (s1 (sret (eand (echain ow_le ow_le ec_int (ecb (kb_len K) T.m_len (by decide +kernel) (ac (ev 0) an)) ec_int) (eone (ecmp (ka_eq K (hu64 hr)) (elc rfl nd (own := [("letter", 1)]) (kiter K (ev 0)) (blkOk_by (N := ["word", "letter"]) (sc := defScope s__law_is_word) (by decide +kernel)) (fun _ _ _ _ _ => (gnm 1 nd)) (fun _ _ _ _ _ => (ts1 (tcmp (ka_notin K (hu65 hr)) (ev 1) ec_str))) (fun _ _ _ _ _ => (ev 1))) (elst an))))))⟩
theorem G__law_number (T : Txt P K mg) : FnOk P w K mg base CX0 1 T.d__law_number.f T.d__law_number.fd ["word"] (spW K 1 w__law_number) := by
  have nd : (["word", "fine", "worth", "sign"] : List Str).Nodup := sc__law_number.nd
  exact okW (k := 0) T.d__law_number.F sc__law_number rfl rfl fun cdv A outer s H E hr => ⟨_, (sc (sset 1 nd (eand (echain ow_le ow_le ec_int (ecb (kb_len K) T.m_len (by decide +kernel) (ac (ev 0) an)) ec_int) (eone (ecmp (ka_eq K (hu64 hr)) (elc rfl nd (own := [("sign", 3)]) (kiter K (ev 0)) (blkOk_by (N := ["word", "fine", "worth", "sign"]) (sc := defScope s__law_number) (by decide +kernel)) (fun _ _ _ _ _ => (gnm 3 nd)) (fun _ _ _ _ _ => (ts1 (tcmp (ka_notin K (hu65 hr)) (ev 3) ec_str))) (fun _ _ _ _ _ => (ev 3))) (elst an))))) (sc (sif (PWW.t (tor (tnot (ktru K (ev 1))) (tor1 (PWW.t (tand (tcmp (ka_eq K (hu64 hr)) (kix K (ev 0) ec_int) ec_str) (tand1 (tcmp ow_gt (ecb (kb_len K) T.m_len (by decide +kernel) (ac (ev 0) an)) ec_int))))))) (s1 (sret ec_non)) sn) (sc (sset 2 nd ec_int) (sc (sfor PassesOwn.never rfl (kiter K (ev 0)) (gnm 3 nd) (s1 (sset 2 nd (ebin (ka_add K) (ebin ow_mul (ev 2) ec_int) (esindex ec_str (ev 3)))))) (s1 (sret (ev 2)))))))⟩
theorem G__law_asked (T : Txt P K mg) : FnOk P w K mg base CX0 1 T.d__law_asked.f T.d__law_asked.fd [] (spW K 0 w__law_asked) := by
  have nd : ([] : List Str).Nodup := sc__law_asked.nd
  exact okW (k := 0) T.d__law_asked.F sc__law_asked rfl rfl fun cdv A outer s H E hr => ⟨_, (s1 (sret (elst (ac ec_str (ac ec_str (ac ec_str (ac ec_str (ac ec_str (ac ec_str (ac ec_str (ac ec_str (ac ec_str an))))))))))))⟩
theorem G__law_read (T : Txt P K mg) : FnOk P w K mg base CX0 2 T.d__law_read.f T.d__law_read.fd ["text_row"] (spW K 1 w__law_read) := by
  have nd : (["text_row", "words", "kind", "many"] : List Str).Nodup := sc__law_read.nd
  exact okW (k := 1) T.d__law_read.F sc__law_read rfl rfl fun cdv A outer s H E hr => ⟨_, (sc (sset 1 nd (esplit (ev 0) ec_str)) (sc (spar (i := 2) (j := 3) rfl nd (ac (kix K (ev 1) ec_int) (ac (ecb (kb_len K) T.m_len (by decide +kernel) (ac (ev 1) an)) an))) (sc (sif (tcmp (ka_eq K (hu64 hr)) (ev 3) ec_int) (s1 (sret (eif (tcmp (ka_in K (hu65 hr)) (ev 2) (elst (ac ec_str (ac ec_str (ac ec_str (ac ec_str an)))))) (etup (ac (ev 2) an)) ec_non))) sn) (sc (sif (tnot (ktru K (kcall K (G__law_is_word T ) (hr.mono (by decide)) T.d__law_is_word.g T.d__law_is_word.F.kp (b__law_is_word T) (ac (kix K (ev 1) ec_int) an)))) (s1 (sret ec_non)) sn) (sc (sif (PWW.t (tand (tcmp (ka_eq K (hu64 hr)) (ev 2) ec_str) (tand1 (tcmp ow_gt (ev 3) ec_int)))) (s1 (sret (etup (ac ec_str (ac (kix K (ev 1) ec_int) (ac (ksl K (ev 0) (os_ (ebin (ka_add K) (ecb (kb_len K) T.m_len (by decide +kernel) (ac (kix K (ev 1) ec_int) an)) ec_int)) on_) an)))))) sn) (sc (sif (PWW.t (tand (tcmp (ka_eq K (hu64 hr)) (ev 3) ec_int) (tand1 (tcmp (ka_in K (hu65 hr)) (ev 2) (elst (ac ec_str (ac ec_str (ac ec_str an)))))))) (s1 (sret (etup (ac (ev 2) (ac (kix K (ev 1) ec_int) an))))) sn) (sc (sif (tcmp (ka_ne K (hu64 hr)) (ev 3) ec_int) (s1 (sret ec_non)) sn) (sc (sif (tcmp (ka_eq K (hu64 hr)) (ev 2) ec_str) (s1 (sret (eif (tcmp ow_isN (kcall K (G__law_number T ) (hr.mono (by decide)) T.d__law_number.g T.d__law_number.F.kp (b__law_number T) (ac (kix K (ev 1) ec_int) an)) ec_non) ec_non (etup (ac ec_str (ac (kix K (ev 1) ec_int) (ac (kcall K (G__law_number T ) (hr.mono (by decide)) T.d__law_number.g T.d__law_number.F.kp (b__law_number T) (ac (kix K (ev 1) ec_int) an)) an))))))) sn) (sc (sif (tcmp (ka_eq K (hu64 hr)) (ev 2) ec_str) (s1 (sret (eif (tcmp (ka_in K (hu65 hr)) (kix K (ev 1) ec_int) (kcall0 K (G__law_asked T ) (hr.mono (by decide)) T.d__law_asked.g T.d__law_asked.F.kp (b__law_asked T))) (etup (ac ec_str (ac (kix K (ev 1) ec_int) (ac (kix K (ev 1) ec_int) an)))) ec_non))) sn) (sc (sif (tcmp (ka_in K (hu65 hr)) (ev 2) (elst (ac ec_str (ac ec_str an)))) (s1 (sret (eif (ktru K (kcall K (G__law_is_word T ) (hr.mono (by decide)) T.d__law_is_word.g T.d__law_is_word.F.kp (b__law_is_word T) (ac (kix K (ev 1) ec_int) an))) (etup (ac (ev 2) (ac (kix K (ev 1) ec_int) (ac (kix K (ev 1) ec_int) an)))) ec_non))) sn) (s1 (sret (eif (PWW.t (tand (tcmp (ka_eq K (hu64 hr)) (ev 2) ec_str) (tand1 (tcmp (ka_ne K (hu64 hr)) (kix K (ev 1) ec_int) ec_str)))) (etup (ac ec_str (ac (kix K (ev 1) ec_int) (ac (kix K (ev 1) ec_int) an)))) ec_non)))))))))))))⟩
theorem G__law_word (T : Txt P K mg) : FnOk P w K mg base CX0 3 T.d__law_word.f T.d__law_word.fd ["box"] (spW K 1 w__law_word) := by
  have nd : (["box", "k"] : List Str).Nodup := sc__law_word.nd
  exact okW (k := 2) T.d__law_word.F sc__law_word rfl rfl fun cdv A outer s H E hr => ⟨_, (s1 (sret (kjoin K ec_str (elc rfl nd (own := [("k", 1)]) (irng1 T.m_range (kcall K (G__law_pick T ) (hr.mono (by decide)) T.d__law_pick.g T.d__law_pick.F.kp (b__law_pick T) (ac (ev 0) (ac (elst (ac ec_int (ac ec_int (ac ec_int (ac ec_int (ac ec_int an)))))) an)))) (blkOk_by (N := ["box", "k"]) (sc := defScope s__law_word) (by decide +kernel)) (fun _ _ _ _ _ => (gnm 1 nd)) (fun _ _ _ _ _ => ts0) (fun _ _ _ _ _ => (kcall K (G__law_pick T ) (hr.mono (by decide)) T.d__law_pick.g T.d__law_pick.F.kp (b__law_pick T) (ac (ev 0) (ac ec_str an))))))))⟩
theorem G__law_order (T : Txt P K mg) : FnOk P w K mg base CX0 4 T.d__law_order.f T.d__law_order.fd ["box"] (spW K 1 w__law_order) := by
  have nd : (["box", "one", "kind"] : List Str).Nodup := sc__law_order.nd
  exact okW (k := 3) T.d__law_order.F sc__law_order rfl rfl fun cdv A outer s H E hr => ⟨_, (sc (sset 1 nd (kcall K (G__law_word T ) (hr.mono (by decide)) T.d__law_word.g T.d__law_word.F.kp (b__law_word T) (ac (ev 0) an))) (sc (sset 2 nd (kcall K (G__law_draw T ) (hr.mono (by decide)) T.d__law_draw.g T.d__law_draw.F.kp (b__law_draw T) (ac (ev 0) (ac ec_int an)))) (sc (sif (tcmp (ka_eq K (hu64 hr)) (ev 2) ec_int) (s1 (sret (etup (ac (kcall K (G__law_pick T ) (hr.mono (by decide)) T.d__law_pick.g T.d__law_pick.F.kp (b__law_pick T) (ac (ev 0) (ac (elst (ac ec_str (ac ec_str (ac ec_str (ac ec_str an))))) an))) an)))) sn) (sc (sif (tcmp (ka_eq K (hu64 hr)) (ev 2) ec_int) (s1 (sret (etup (ac (kcall K (G__law_pick T ) (hr.mono (by decide)) T.d__law_pick.g T.d__law_pick.F.kp (b__law_pick T) (ac (ev 0) (ac (elst (ac ec_str (ac ec_str (ac ec_str an)))) an))) (ac (ev 1) an))))) sn) (sc (sif (tcmp (ka_eq K (hu64 hr)) (ev 2) ec_int) (s1 (sret (etup (ac ec_str (ac (ev 1) (ac (kcall K (G__law_pick T ) (hr.mono (by decide)) T.d__law_pick.g T.d__law_pick.F.kp (b__law_pick T) (ac (ev 0) (ac (elst (ac ec_int (ac ec_int (ac ec_int (ac ec_int (ac ec_int an)))))) an))) an)))))) sn) (sc (sif (tcmp (ka_eq K (hu64 hr)) (ev 2) ec_int) (s1 (sret (etup (ac ec_str (ac (ev 1) (ac (kcall K (G__law_pick T ) (hr.mono (by decide)) T.d__law_pick.g T.d__law_pick.F.kp (b__law_pick T) (ac (ev 0) (ac (kcall0 K (G__law_asked T ) (hr.mono (by decide)) T.d__law_asked.g T.d__law_asked.F.kp (b__law_asked T)) an))) an)))))) sn) (sc (sif (tcmp (ka_eq K (hu64 hr)) (ev 2) ec_int) (s1 (sret (etup (ac ec_str (ac (ev 1) (ac (kcall K (G__law_pick T ) (hr.mono (by decide)) T.d__law_pick.g T.d__law_pick.F.kp (b__law_pick T) (ac (ev 0) (ac (elst (ac ec_str (ac ec_str (ac ec_str (ac ec_str (ac (ksl K ec_str on_ (os_ ec_int)) an)))))) an))) an)))))) sn) (sc (sif (tcmp (ka_eq K (hu64 hr)) (ev 2) ec_int) (s1 (sret (etup (ac (kcall K (G__law_pick T ) (hr.mono (by decide)) T.d__law_pick.g T.d__law_pick.F.kp (b__law_pick T) (ac (ev 0) (ac (elst (ac ec_str (ac ec_str an))) an))) (ac (ev 1) (ac (kcall K (G__law_word T ) (hr.mono (by decide)) T.d__law_word.g T.d__law_word.F.kp (b__law_word T) (ac (ev 0) an)) an)))))) sn) (s1 (sret (etup (ac ec_str (ac (ev 1) (ac (kcall K (G__law_pick T ) (hr.mono (by decide)) T.d__law_pick.g T.d__law_pick.F.kp (b__law_pick T) (ac (ev 0) (ac (elst (ac ec_str (ac ec_str (ac ec_str (ac ec_str (ac ec_str (ac ec_str (ac ec_str (ac ec_str an))))))))) an))) an))))))))))))))⟩
theorem G__law_bent (T : Txt P K mg) : FnOk P w K mg base CX0 3 T.d__law_bent.f T.d__law_bent.fd ["box", "text_row"] (spW K 2 w__law_bent) := by
  have nd : (["box", "text_row", "words", "at", "way"] : List Str).Nodup := sc__law_bent.nd
  exact okW (k := 2) T.d__law_bent.F sc__law_bent rfl rfl fun cdv A outer s H E hr => ⟨_, (sc (sown 2 nd (nsplit (ev 1) ec_str)) (sc (ssetS 3 nd (kcall K (G__law_draw T ) (hr.mono (by decide)) T.d__law_draw.g T.d__law_draw.F.kp (b__law_draw T) (ac (ev 0) (ac (ecb (kb_len K) T.m_len (by decide +kernel) (ac (ev 2) an)) an)))) (sc (sset 4 nd (kcall K (G__law_draw T ) (hr.mono (by decide)) T.d__law_draw.g T.d__law_draw.F.kp (b__law_draw T) (ac (ev 0) (ac ec_int an)))) (sc (sif (tcmp (ka_eq K (hu64 hr)) (ev 4) ec_int) (sf 2 (s1 (sown 2 nd (ncat (ksl K (ev 2) on_ (os_ (ev 3))) (ksl K (ev 2) (os_ (ebin (ka_add K) (ev 3) ec_int)) on_))))) (s1 (sif (tcmp (ka_eq K (hu64 hr)) (ev 4) ec_int) (sf 2 (s1 (sown 2 nd (ncat (ebin (ka_add K) (ksl K (ev 2) on_ (os_ (ev 3))) (elst (ac (kix K (ev 2) (ev 3)) an))) (ksl K (ev 2) (os_ (ev 3)) on_))))) (s1 (sif (tcmp (ka_eq K (hu64 hr)) (ev 4) ec_int) (s1 (ssetiS 2 (ev 3) (kcall K (G__law_pick T ) (hr.mono (by decide)) T.d__law_pick.g T.d__law_pick.F.kp (b__law_pick T) (ac (ev 0) (ac (elst (ac ec_str (ac (ebin (ka_add K) ec_str (kix K (ev 2) (ev 3))) (ac (ebin (ka_add K) ec_str (kix K (ev 2) (ev 3))) (ac (ebin (ka_add K) (kix K (ev 2) (ev 3)) ec_str) (ac (ebin (ka_add K) (kix K (ev 2) (ev 3)) ec_str) an)))))) an))) (pg_sub (pv 2) (PEW.pe (ev 3)) set_list))) (s1 (sif (tcmp (ka_eq K (hu64 hr)) (ev 4) ec_int) (s1 (sseti 2 (ev 3) (kcall K (G__law_pick T ) (hr.mono (by decide)) T.d__law_pick.g T.d__law_pick.F.kp (b__law_pick T) (ac (ev 0) (ac (elst (ac ec_str (ac ec_str (ac ec_str (ac ec_str (ac ec_str (ac ec_str (ac ec_str an)))))))) an))) (hg := pg_sub (pv 2) (PEW.pe (ev 3)) set_list))) (s1 (sif (tcmp (ka_eq K (hu64 hr)) (ev 4) ec_int) (s1 (sseti 2 (ev 3) (kcall K (G__law_pick T ) (hr.mono (by decide)) T.d__law_pick.g T.d__law_pick.F.kp (b__law_pick T) (ac (ev 0) (ac (elst (ac ec_str (ac ec_str (ac ec_str (ac ec_str (ac ec_str (ac ec_str (ac ec_str (ac ec_str (ac ec_str (ac ec_str (ac ec_str an)))))))))))) an))) (hg := pg_sub (pv 2) (PEW.pe (ev 3)) set_list))) (s1 (sif (tcmp (ka_eq K (hu64 hr)) (ev 4) ec_int) (s1 (sseti 2 (ev 3) (kcall K (G__law_pick T ) (hr.mono (by decide)) T.d__law_pick.g T.d__law_pick.F.kp (b__law_pick T) (ac (ev 0) (ac (elst (ac ec_str (ac ec_str (ac ec_str (ac ec_str (ac ec_str (ac ec_str an))))))) an))) (hg := pg_sub (pv 2) (PEW.pe (ev 3)) set_list))) (s1 (sif (tcmp (ka_eq K (hu64 hr)) (ev 4) ec_int) (s1 (sins 2 (ev 3) ec_str)) (s1 (sapp 2 (kcall K (G__law_pick T ) (hr.mono (by decide)) T.d__law_pick.g T.d__law_pick.F.kp (b__law_pick T) (ac (ev 0) (ac (elst (ac ec_str (ac ec_str (ac ec_str (ac ec_str an))))) an)))))))))))))))))) (s1 (sret (kjoin K ec_str (ev 2))))))))⟩
theorem G__law_text (T : Txt P K mg) : FnOk P w K mg base CX0 4 T.d__law_text.f T.d__law_text.fd ["text"] (spW K 1 w__law_text) := by
  have nd : (["text", "e"] : List Str).Nodup := sc__law_text.nd
  obtain ⟨C0, g0, m0⟩ := T.x_BadOrder_RuleError
  refine T.d__law_text.F.ok (k := 4 - 1) sc__law_text (fun vs H Q E h => spW_len h) (fun cdv A outer s H vs Q E hr hsp => ⟨_, PSs.nox (pss_one (ps_try_as (i := 1) rfl rfl nd rfl rfl ⟨rfl, by decide, .inl g0⟩ takes0
    (fun W pn xe tk _ => (xs1 (xret (xtup (xac (xl ec_str) (xac (kxcall K mg (G_read_orders T) tk (hr.mono (by decide)) T.d_read_orders.g T.d_read_orders.F.kp (b_read_orders T) (xac (xl (ev 0)) xan)) xan))))).ps)
    (fun a oe cls d pn hz hf => pss_one (ps_ret (pe_ifExp (pt_val (pe_callB (call_isD T.e_BadOrder.T hz hf) (by rfl) T.m_isinstance (by decide +kernel) (pa_cons (pv 1) (pa_cons (pe_glob (v := .ref T.e_BadOrder.C) rfl T.e_BadOrder.g rfl) pa_nil))))
      (pe_tup (pa_cons pe_str (pa_cons (pe_xf T.e_BadOrder.T.xf T.e_BadOrder.T.noF hz hf (pv 1)) pa_nil))) (pe_tup (pa_cons pe_str (pa_cons pe_int pa_nil)))))))), ?_⟩)
  obtain ⟨bx, Tt, ds, Qd, hl, g, r, p, hw⟩ := hsp
  cases r with
  | nil => cases hl
  | cons r1 r =>
    cases r with
    | cons _ _ => cases hl
    | nil =>
      cases r1 with
      | str t =>
        refine ⟨.str t, rfl, bx, Tt, [.str t], (fun d => Qd (.tuple [.str ("told" : Str), d])), _, rfl, g, .cons (.str t) .nil, fun d v H1 e b rv hq => ⟨by show 2 ≤ sizeLine; decide, fun a na => (p.on e).tup (g.on e b) na (.cons (.str _) (.cons rv .nil)) hq⟩, fun x cls d H1 e b hv hq => ?_, hw⟩
        obtain ⟨x1, x2⟩ := x
        obtain ⟨C, dd, fs, rfl, hC, rfl, hdd, hf1, hf2⟩ := hv
        obtain ⟨hx1, i, hx2, hq⟩ := hq
        dsimp only at hx1 hx2 hC hf1 hf2
        subst hx1 hx2
        have eC : C = T.e_BadOrder.C := by
          have z := T.e_BadOrder.g
          rw [hC] at z
          cases z
          rfl
        subst eC
        have efs : fs = [(("line" : Str), V.int i)] := by
          cases fs with
          | nil => exact absurd (congrArg List.length hf1) (by simp)
          | cons q fs =>
            cases fs with
            | cons q2 fs => exact absurd (congrArg List.length hf1) (by simp)
            | nil =>
              obtain ⟨q1, q2⟩ := q
              have e1 : q1 = "line" := (List.cons.inj hf1).1
              cases hf2 with
              | cons z _ =>
                cases z
                rw [e1]
        subst efs
        refine ⟨true, m0, fun _ a na => ?_, fun z => by cases z⟩
        refine ⟨_, rfl, rfl, ⟨dd, _, rfl, hdd⟩, _, _, true, rfl, fun u hu => hu, ?_, true, rfl, ?_⟩
        · unfold PySem.W.kitOne
          rw [if_pos (beq_self_eq_true _)]
        · refine ⟨_, rfl, rfl, rfl, dd, _, .int i, rfl, hdd, rfl, by show 2 ≤ sizeLine; decide, fun a2 na2 => ?_⟩
          exact (p.on e).tup (g.on e b) na2 (.cons (.str _) (.cons (.int i) .nil)) hq
      | _ => exact hw.elim
theorem G_law (T : Txt P K mg) (hl : LawTrue) : FnOk P w K mg base CX0 9 T.d_law.f T.d_law.fd ["script"] (spLaw K) := by
  refine T.d_law.F.ok (k := 8) sc_law (fun vs H Q E h => by obtain ⟨a, ns, rfl, _⟩ := h; rfl) (fun cdv A outer s H vs Q E hr h => ?_)
  have nd : (["script", "box", "orders", "lines", "k", "turn", "bent", "text", "mixed", "told", "due", "part", "order", "text_row"] : List Str).Nodup := sc_law.nd
  have rest : ∃ t, PSsW (cxOf CX0 P w K mg base ["script", "box", "orders", "lines", "k", "turn", "bent", "text", "mixed", "told", "due", "part", "order", "text_row"] "law" (defScope s_law) T.d_law.f cdv A outer s H E).nox (defBody s_law).tail t w_law := ⟨_, (sc (ssetC 2 rfl nd (own := [("turn", 5)]) (irng1 T.m_range (ebin (ka_add K) ec_int (kcall K (G__law_draw T ) (hr.mono (by decide)) T.d__law_draw.g T.d__law_draw.F.kp (b__law_draw T) (ac (ev 1) (ac ec_int an))))) (blkOk_by (N := ["script", "box", "orders", "lines", "k", "turn", "bent", "text", "mixed", "told", "due", "part", "order", "text_row"]) (sc := defScope s_law) (by decide +kernel)) (fun _ _ _ _ _ => (gnm 5 nd)) (fun _ _ _ _ _ => ts0) (fun _ _ _ _ _ => (kcall K (G__law_order T ) (hr.mono (by decide)) T.d__law_order.g T.d__law_order.F.kp (b__law_order T) (ac (ev 1) an)))) (sc (ssetC 3 rfl nd (own := [("order", 12)]) (kiter K (ev 2)) (blkOk_by (N := ["script", "box", "orders", "lines", "k", "turn", "bent", "text", "mixed", "told", "due", "part", "order", "text_row"]) (sc := defScope s_law) (by decide +kernel)) (fun _ _ _ _ _ => (gnm 12 nd)) (fun _ _ _ _ _ => ts0) (fun _ _ _ _ _ => (kjoin K ec_str (elc rfl nd (own := [("part", 11)]) (kiter K (ev 12)) (blkOk_by (N := ["script", "box", "orders", "lines", "k", "turn", "bent", "text", "mixed", "told", "due", "part", "order", "text_row"]) (sc := ({ kind := PySem.ScopeKind.function, names := [(PySem.Str.ofString ".0", PySem.NameKind.local), (PySem.Str.ofString "order", PySem.NameKind.local)], isGenerator := false, isCoroutine := false, more := [] : PySem.Scope })) (by decide +kernel)) (fun _ _ _ _ _ => (gnm 11 nd)) (fun _ _ _ _ _ => ts0) (fun _ _ _ _ _ => (ecty cb_str T.m_str (by decide +kernel) (ac (ev 11) an))))))) (sc (sfor PassesOwn.never rfl (irng1 T.m_range (ecb (kb_len K) T.m_len (by decide +kernel) (ac (ev 2) an))) (gnm 4 nd) (sc (sif (PWW.t (tor (tnot (ktru K (kcall K (G__law_same T 8) (hr.mono (by decide)) T.d__law_same.g T.d__law_same.F.kp (b__law_same T) (ac (kcall K (G_write_order T ) (hr.mono (by decide)) T.d_write_order.g T.d_write_order.F.kp (b_write_order T) (ac (kix K (ev 2) (ev 4)) an)) (ac (kix K (ev 3) (ev 4)) an))))) (tor1 (tnot (ktru K (kcall K (G__law_same T 8) (hr.mono (by decide)) T.d__law_same.g T.d__law_same.F.kp (b__law_same T) (ac (kcall K (G_read_order T ) (hr.mono (by decide)) T.d_read_order.g T.d_read_order.F.kp (b_read_order T) (ac (kix K (ev 3) (ev 4)) an)) (ac (kix K (ev 2) (ev 4)) an)))))))) (s1 (sret ec_bl)) sn) (sc (sif (tcmp (ka_ne K (hu64 hr)) (kcall K (G__law_read T ) (hr.mono (by decide)) T.d__law_read.g T.d__law_read.F.kp (b__law_read T) (ac (kix K (ev 3) (ev 4)) an)) (kix K (ev 2) (ev 4))) (s1 (sret ec_bl)) sn) (s1 (sfor PassesOwn.never rfl (irng1 T.m_range ec_int) (gnm 5 nd) (sc (sset 6 nd (kcall K (G__law_bent T ) (hr.mono (by decide)) T.d__law_bent.g T.d__law_bent.F.kp (b__law_bent T) (ac (ev 1) (ac (kix K (ev 3) (ev 4)) an)))) (s1 (sif (tnot (ktru K (kcall K (G__law_same T 8) (hr.mono (by decide)) T.d__law_same.g T.d__law_same.F.kp (b__law_same T) (ac (kcall K (G_read_order T ) (hr.mono (by decide)) T.d_read_order.g T.d_read_order.F.kp (b_read_order T) (ac (ev 6) an)) (ac (kcall K (G__law_read T ) (hr.mono (by decide)) T.d__law_read.g T.d__law_read.F.kp (b__law_read T) (ac (ev 6) an)) an))))) (s1 (sret ec_bl)) sn)))))))) (sc (sset 7 nd (kjoin K ec_str (ev 3))) (sc (sif (PWW.t (tor (tnot (ktru K (kcall K (G__law_same T 8) (hr.mono (by decide)) T.d__law_same.g T.d__law_same.F.kp (b__law_same T) (ac (kcall K (G_write_orders T ) (hr.mono (by decide)) T.d_write_orders.g T.d_write_orders.F.kp (b_write_orders T) (ac (ecty (kb_list K) T.m_list (by decide +kernel) (ac (ev 2) an)) an)) (ac (ev 7) an))))) (tor1 (tnot (ktru K (kcall K (G__law_same T 8) (hr.mono (by decide)) T.d__law_same.g T.d__law_same.F.kp (b__law_same T) (ac (kcall K (G__law_text T ) (hr.mono (by decide)) T.d__law_text.g T.d__law_text.F.kp (b__law_text T) (ac (ev 7) an)) (ac (etup (ac ec_str (ac (ev 2) an))) an)))))))) (s1 (sret ec_bl)) sn) (sc (sfor PassesOwn.never rfl (irng1 T.m_range ec_int) (gnm 5 nd) (sc (ssetC 8 rfl nd (own := [("text_row", 13)]) (kiter K (ev 3)) (blkOk_by (N := ["script", "box", "orders", "lines", "k", "turn", "bent", "text", "mixed", "told", "due", "part", "order", "text_row"]) (sc := defScope s_law) (by decide +kernel)) (fun _ _ _ _ _ => (gnm 13 nd)) (fun _ _ _ _ _ => ts0) (fun _ _ _ _ _ => (eif (tcmp (ka_eq K (hu64 hr)) (kcall K (G__law_draw T ) (hr.mono (by decide)) T.d__law_draw.g T.d__law_draw.F.kp (b__law_draw T) (ac (ev 1) (ac ec_int an))) ec_int) (kcall K (G__law_bent T ) (hr.mono (by decide)) T.d__law_bent.g T.d__law_bent.F.kp (b__law_bent T) (ac (ev 1) (ac (ev 13) an))) (ev 13)))) (sc (ssetC 9 rfl nd (own := [("text_row", 13)]) (kiter K (ev 8)) (blkOk_by (N := ["script", "box", "orders", "lines", "k", "turn", "bent", "text", "mixed", "told", "due", "part", "order", "text_row"]) (sc := defScope s_law) (by decide +kernel)) (fun _ _ _ _ _ => (gnm 13 nd)) (fun _ _ _ _ _ => ts0) (fun _ _ _ _ _ => (kcall K (G__law_read T ) (hr.mono (by decide)) T.d__law_read.g T.d__law_read.F.kp (b__law_read T) (ac (ev 13) an)))) (sc (sset 10 nd (eif (tcmp (ka_in K (hu65 hr)) ec_non (ev 9)) (etup (ac ec_str (ac (ebin (ka_add K) (klindex K (hu65 hr) (ev 9) ec_non) ec_int) an))) (etup (ac ec_str (ac (ev 9) an))))) (s1 (sif (PWW.t (tand (tcmp (ka_ne K (hu64 hr)) (ev 8) (elst (ac ec_str an))) (tand1 (tnot (ktru K (kcall K (G__law_same T 8) (hr.mono (by decide)) T.d__law_same.g T.d__law_same.F.kp (b__law_same T) (ac (kcall K (G__law_text T ) (hr.mono (by decide)) T.d__law_text.g T.d__law_text.F.kp (b__law_text T) (ac (kjoin K ec_str (ev 8)) an)) (ac (ev 10) an)))))))) (s1 (sret ec_bl)) sn)))))) (sc (sif (tnot (ktru K (kcall K (G__law_same T 8) (hr.mono (by decide)) T.d__law_same.g T.d__law_same.F.kp (b__law_same T) (ac (kcall K (G__law_text T ) (hr.mono (by decide)) T.d__law_text.g T.d__law_text.F.kp (b__law_text T) (ac (ebin (ka_add K) (ev 7) ec_str) an)) (ac (etup (ac ec_str (ac (ebin (ka_add K) (ecb (kb_len K) T.m_len (by decide +kernel) (ac (ev 3) an)) ec_int) an))) an))))) (s1 (sret ec_bl)) sn) (s1 (sret (kcall K (G__law_same T 8) (hr.mono (by decide)) T.d__law_same.g T.d__law_same.F.kp (b__law_same T) (ac (kcall K (G__law_text T ) (hr.mono (by decide)) T.d__law_text.g T.d__law_text.F.kp (b__law_text T) (ac ec_str an)) (ac (etup (ac ec_str (ac (elst an) an))) an))))))))))))⟩
  obtain ⟨t, rest⟩ := rest
  have dg := fun (e : Expr) (z : ∃ td, PEW (cxOf CX0 P w K mg base ["script", "box", "orders", "lines", "k", "turn", "bent", "text", "mixed", "told", "due", "part", "order", "text_row"] "law" (defScope s_law) T.d_law.f cdv A outer s H E).nox e td dig_law) => z
  obtain ⟨td, dg⟩ := dg _ ⟨_, (kcall K (G__law_digits T ) (hr.mono (by decide)) T.d__law_digits.g T.d__law_digits.F.kp (b__law_digits T) (ac (ev 0) (ac ec_int (ac ec_int an))))⟩
  refine ⟨_, PSs.nox (pss_cons (ps_set (i := 1) nd rfl (by first | exact .inl rfl | exact .inr rfl) (pe_lst (pa_cons dg.pe (pa_cons pe_int pa_nil)))) rest.ps), ?_⟩
  exact law_ok (N := ["script", "box", "orders", "lines", "k", "turn", "bent", "text", "mixed", "told", "due", "part", "order", "text_row"]) (i := 1) (by decide) (by decide) dg.sn rest.sn hl h
end
end G_k97_orders_read_and_written

set_option Elab.async false
set_option linter.all false
set_option maxRecDepth 100000
set_option maxHeartbeats 4000000
/-! k97_orders_read_and_written: the head and the end, printed by gen.py. -/
namespace G_k97_orders_read_and_written
open PySem PySem.Spec PyProof.Rows L2 Wy
def fa : List He.Fa := [.glo "is_word", .glo "number_of", .glo "read_order", .glo "read_orders", .glo "write_order", .glo "write_orders", .glo "_law_cell", .glo "_law_digits", .glo "_law_draw", .glo "_law_pick", .glo "_law_same", .glo "_law_is_word", .glo "_law_number", .glo "_law_asked", .glo "_law_read", .glo "_law_word", .glo "_law_order", .glo "_law_bent", .glo "_law_text", .glo "law", .free "all", .free "bool", .free "enumerate", .free "int", .free "isinstance", .free "len", .free "list", .free "range", .free "repr", .free "str", .free "tuple", .glo "ASKED", .glo "BARE", .str "SMALL" ("abcdefghijklmnopqrstuvwxyz" : Str), .glo "BadOrder", .glo "RuleError"]
def e_is_word : He.DefD := ⟨("is_word", none), "is_word", "is_word", defArgs s_is_word, defBody s_is_word, defScope s_is_word, [], []⟩
def e_number_of : He.DefD := ⟨("number_of", none), "number_of", "number_of", defArgs s_number_of, defBody s_number_of, defScope s_number_of, [], []⟩
def e_read_order : He.DefD := ⟨("read_order", none), "read_order", "read_order", defArgs s_read_order, defBody s_read_order, defScope s_read_order, [], []⟩
def e_read_orders : He.DefD := ⟨("read_orders", none), "read_orders", "read_orders", defArgs s_read_orders, defBody s_read_orders, defScope s_read_orders, [], []⟩
def e_write_order : He.DefD := ⟨("write_order", none), "write_order", "write_order", defArgs s_write_order, defBody s_write_order, defScope s_write_order, [], []⟩
def e_write_orders : He.DefD := ⟨("write_orders", none), "write_orders", "write_orders", defArgs s_write_orders, defBody s_write_orders, defScope s_write_orders, [], []⟩
def e__law_cell : He.DefD := ⟨("_law_cell", none), "_law_cell", "_law_cell", defArgs s__law_cell, defBody s__law_cell, defScope s__law_cell, [], []⟩
def e__law_digits : He.DefD := ⟨("_law_digits", none), "_law_digits", "_law_digits", defArgs s__law_digits, defBody s__law_digits, defScope s__law_digits, [], []⟩
def e__law_draw : He.DefD := ⟨("_law_draw", none), "_law_draw", "_law_draw", defArgs s__law_draw, defBody s__law_draw, defScope s__law_draw, [], []⟩
def e__law_pick : He.DefD := ⟨("_law_pick", none), "_law_pick", "_law_pick", defArgs s__law_pick, defBody s__law_pick, defScope s__law_pick, [], []⟩
def e__law_same : He.DefD := ⟨("_law_same", none), "_law_same", "_law_same", defArgs s__law_same, defBody s__law_same, defScope s__law_same, [], []⟩
def e__law_is_word : He.DefD := ⟨("_law_is_word", none), "_law_is_word", "_law_is_word", defArgs s__law_is_word, defBody s__law_is_word, defScope s__law_is_word, [], []⟩
def e__law_number : He.DefD := ⟨("_law_number", none), "_law_number", "_law_number", defArgs s__law_number, defBody s__law_number, defScope s__law_number, [], []⟩
def e__law_asked : He.DefD := ⟨("_law_asked", none), "_law_asked", "_law_asked", defArgs s__law_asked, defBody s__law_asked, defScope s__law_asked, [], []⟩
def e__law_read : He.DefD := ⟨("_law_read", none), "_law_read", "_law_read", defArgs s__law_read, defBody s__law_read, defScope s__law_read, [], []⟩
def e__law_word : He.DefD := ⟨("_law_word", none), "_law_word", "_law_word", defArgs s__law_word, defBody s__law_word, defScope s__law_word, [], []⟩
def e__law_order : He.DefD := ⟨("_law_order", none), "_law_order", "_law_order", defArgs s__law_order, defBody s__law_order, defScope s__law_order, [], []⟩
def e__law_bent : He.DefD := ⟨("_law_bent", none), "_law_bent", "_law_bent", defArgs s__law_bent, defBody s__law_bent, defScope s__law_bent, [], []⟩
def e__law_text : He.DefD := ⟨("_law_text", none), "_law_text", "_law_text", defArgs s__law_text, defBody s__law_text, defScope s__law_text, [], []⟩
def e_law : He.DefD := ⟨("law", none), "law", "law", defArgs s_law, defBody s_law, defScope s_law, [], []⟩
def fnl : List He.DefD := [e_is_word, e_number_of, e_read_order, e_read_orders, e_write_order, e_write_orders, e__law_cell, e__law_digits, e__law_draw, e__law_pick, e__law_same, e__law_is_word, e__law_number, e__law_asked, e__law_read, e__law_word, e__law_order, e__law_bent, e__law_text, e_law]
abbrev R : PySem.W.OpenRow := PySem.W.OpenLaw.row PySem.Challenge.rw_ruleyard_k97_orders_read_and_written
def file : Str := "/claim/cut.py"
def more (K : PySem.W.Frag) : Bool := He.tupB K "ASKED" [.str ("text" : Str), .str ("rules" : Str), .str ("stable" : Str), .str ("shown" : Str), .str ("best" : Str), .str ("surely" : Str), .str ("size" : Str), .str ("paper" : Str), .str ("simple" : Str)] && (He.tupB K "BARE" [.str ("books" : Str), .str ("begin" : Str), .str ("end" : Str), .str ("drop" : Str)] && (errB K (He.ga K "BadOrder") "BadOrder.__init__" "line" file && (decide (PySem.W.exmOne K (.ref (He.ga K "BadOrder")) (.ref (He.ga K "RuleError")) = some true) && (true))))
def i_BadOrder : MetD := ⟨"BadOrder", "__init__", "BadOrder.__init__", si_BadOrder⟩
def ims : List MetD := [i_BadOrder]
abbrev hk : PySem.W.Hook := hookM 5 fa fnl ims more
def ob (s : PySem.W.SharedT) : AlM := obsMG 5 fa fnl ims more (HandSHeadRun.getT s)
theorem ob_eq (s : PySem.W.SharedT) : ob s = hk.obs s.abs := obsMG_eq (HandSHeadRun.getT_eq s)
def loose : List PySem.Str := (["RuleError", "BadOrder", "BARE", "ASKED", "SMALL", "is_word", "number_of", "read_order", "read_orders", "write_order", "write_orders", "_law_cell", "_law_digits", "_law_draw", "_law_pick", "_law_same", "_law_is_word", "_law_number", "_law_asked", "_law_read", "_law_word", "_law_order", "_law_bent", "_law_text"] : List PySem.Str)
theorem run (w : World) : HandSHeadRun.RunEq R (PySem.W.view R.prog [27]) hk ob 4000 loose w := by
  intro os
  kernel_rfl
theorem txt {P : Program} {K : PySem.W.Frag} {h : Heap} {mg : Str → Option Value} (X : K.In h) (G : h.Ns mainGlobals mg) (hf : (P.main.file : Str) = file) (htop : (P.main.scope.names.lookup ("super" : Str)).isSome = false) (c : SaysM fa fnl ims more K) : Nonempty (Txt P K mg) := by
  obtain ⟨c, cm, cms⟩ := c
  unfold more at cm
  simp only [Bool.and_eq_true] at cm
  obtain ⟨w_0, w_1, w_2, w_3, _⟩ := cm
  obtain ⟨fd_is_word, F_is_word⟩ := c.def_ 0 (d := e_is_word) rfl
  obtain ⟨fd_number_of, F_number_of⟩ := c.def_ 1 (d := e_number_of) rfl
  obtain ⟨fd_read_order, F_read_order⟩ := c.def_ 2 (d := e_read_order) rfl
  obtain ⟨fd_read_orders, F_read_orders⟩ := c.def_ 3 (d := e_read_orders) rfl
  obtain ⟨fd_write_order, F_write_order⟩ := c.def_ 4 (d := e_write_order) rfl
  obtain ⟨fd_write_orders, F_write_orders⟩ := c.def_ 5 (d := e_write_orders) rfl
  obtain ⟨fd__law_cell, F__law_cell⟩ := c.def_ 6 (d := e__law_cell) rfl
  obtain ⟨fd__law_digits, F__law_digits⟩ := c.def_ 7 (d := e__law_digits) rfl
  obtain ⟨fd__law_draw, F__law_draw⟩ := c.def_ 8 (d := e__law_draw) rfl
  obtain ⟨fd__law_pick, F__law_pick⟩ := c.def_ 9 (d := e__law_pick) rfl
  obtain ⟨fd__law_same, F__law_same⟩ := c.def_ 10 (d := e__law_same) rfl
  obtain ⟨fd__law_is_word, F__law_is_word⟩ := c.def_ 11 (d := e__law_is_word) rfl
  obtain ⟨fd__law_number, F__law_number⟩ := c.def_ 12 (d := e__law_number) rfl
  obtain ⟨fd__law_asked, F__law_asked⟩ := c.def_ 13 (d := e__law_asked) rfl
  obtain ⟨fd__law_read, F__law_read⟩ := c.def_ 14 (d := e__law_read) rfl
  obtain ⟨fd__law_word, F__law_word⟩ := c.def_ 15 (d := e__law_word) rfl
  obtain ⟨fd__law_order, F__law_order⟩ := c.def_ 16 (d := e__law_order) rfl
  obtain ⟨fd__law_bent, F__law_bent⟩ := c.def_ 17 (d := e__law_bent) rfl
  obtain ⟨fd__law_text, F__law_text⟩ := c.def_ 18 (d := e__law_text) rfl
  obtain ⟨fd_law, F_law⟩ := c.def_ 19 (d := e_law) rfl
  have g_is_word := He.glo_ok X G (c.fact 0 (f := .glo "is_word") rfl)
  have g_number_of := He.glo_ok X G (c.fact 1 (f := .glo "number_of") rfl)
  have g_read_order := He.glo_ok X G (c.fact 2 (f := .glo "read_order") rfl)
  have g_read_orders := He.glo_ok X G (c.fact 3 (f := .glo "read_orders") rfl)
  have g_write_order := He.glo_ok X G (c.fact 4 (f := .glo "write_order") rfl)
  have g_write_orders := He.glo_ok X G (c.fact 5 (f := .glo "write_orders") rfl)
  have g__law_cell := He.glo_ok X G (c.fact 6 (f := .glo "_law_cell") rfl)
  have g__law_digits := He.glo_ok X G (c.fact 7 (f := .glo "_law_digits") rfl)
  have g__law_draw := He.glo_ok X G (c.fact 8 (f := .glo "_law_draw") rfl)
  have g__law_pick := He.glo_ok X G (c.fact 9 (f := .glo "_law_pick") rfl)
  have g__law_same := He.glo_ok X G (c.fact 10 (f := .glo "_law_same") rfl)
  have g__law_is_word := He.glo_ok X G (c.fact 11 (f := .glo "_law_is_word") rfl)
  have g__law_number := He.glo_ok X G (c.fact 12 (f := .glo "_law_number") rfl)
  have g__law_asked := He.glo_ok X G (c.fact 13 (f := .glo "_law_asked") rfl)
  have g__law_read := He.glo_ok X G (c.fact 14 (f := .glo "_law_read") rfl)
  have g__law_word := He.glo_ok X G (c.fact 15 (f := .glo "_law_word") rfl)
  have g__law_order := He.glo_ok X G (c.fact 16 (f := .glo "_law_order") rfl)
  have g__law_bent := He.glo_ok X G (c.fact 17 (f := .glo "_law_bent") rfl)
  have g__law_text := He.glo_ok X G (c.fact 18 (f := .glo "_law_text") rfl)
  have g_law := He.glo_ok X G (c.fact 19 (f := .glo "law") rfl)
  have m_all := He.free_ok X G (c.fact 20 (f := .free "all") rfl)
  have m_bool := He.free_ok X G (c.fact 21 (f := .free "bool") rfl)
  have m_enumerate := He.free_ok X G (c.fact 22 (f := .free "enumerate") rfl)
  have m_int := He.free_ok X G (c.fact 23 (f := .free "int") rfl)
  have m_isinstance := He.free_ok X G (c.fact 24 (f := .free "isinstance") rfl)
  have m_len := He.free_ok X G (c.fact 25 (f := .free "len") rfl)
  have m_list := He.free_ok X G (c.fact 26 (f := .free "list") rfl)
  have m_range := He.free_ok X G (c.fact 27 (f := .free "range") rfl)
  have m_repr := He.free_ok X G (c.fact 28 (f := .free "repr") rfl)
  have m_str := He.free_ok X G (c.fact 29 (f := .free "str") rfl)
  have m_tuple := He.free_ok X G (c.fact 30 (f := .free "tuple") rfl)
  have h_ASKED := He.glo_ok X G (c.fact 31 (f := .glo "ASKED") rfl)
  have a_ASKED : ∃ (v : V) (u : Value), mg "ASKED" = some u ∧ RelV v u ∧ ∀ bx T H, RP K bx T H v (.tuple [.str ("text" : Str), .str ("rules" : Str), .str ("stable" : Str), .str ("shown" : Str), .str ("best" : Str), .str ("surely" : Str), .str ("size" : Str), .str ("paper" : Str), .str ("simple" : Str)] : D) := ⟨.ref _, _, h_ASKED, rfl, fun bx T H => .tup (tup_const w_0 T H) (RPs.cons (RP.str _) (RPs.cons (RP.str _) (RPs.cons (RP.str _) (RPs.cons (RP.str _) (RPs.cons (RP.str _) (RPs.cons (RP.str _) (RPs.cons (RP.str _) (RPs.cons (RP.str _) (RPs.cons (RP.str _) RPs.nil)))))))))⟩
  have h_BARE := He.glo_ok X G (c.fact 32 (f := .glo "BARE") rfl)
  have a_BARE : ∃ (v : V) (u : Value), mg "BARE" = some u ∧ RelV v u ∧ ∀ bx T H, RP K bx T H v (.tuple [.str ("books" : Str), .str ("begin" : Str), .str ("end" : Str), .str ("drop" : Str)] : D) := ⟨.ref _, _, h_BARE, rfl, fun bx T H => .tup (tup_const w_1 T H) (RPs.cons (RP.str _) (RPs.cons (RP.str _) (RPs.cons (RP.str _) (RPs.cons (RP.str _) RPs.nil))))⟩
  obtain ⟨t_SMALL, h_SMALL⟩ := He.str_ok X G (c.fact 33 (f := .str "SMALL" ("abcdefghijklmnopqrstuvwxyz" : Str)) rfl)
  have a_SMALL : ∃ (v : V) (u : Value), mg "SMALL" = some u ∧ RelV v u ∧ ∀ bx T H, RP K bx T H v (.str ("abcdefghijklmnopqrstuvwxyz" : Str) : D) := ⟨.str ("abcdefghijklmnopqrstuvwxyz" : Str), _, h_SMALL, ⟨_, rfl⟩, fun _ _ _ => .str _⟩
  have q_BadOrder := He.glo_ok X G (c.fact 34 (f := .glo "BadOrder") rfl)
  have cm_BadOrder : metObs K i_BadOrder = i_BadOrder.val := by
    have e2 := congrArg (fun l => l[0]?) cms
    exact Option.some.inj e2
  obtain ⟨z_BadOrder, zc_BadOrder⟩ := errD_of (P := P) (d := i_BadOrder) (f := "line") (lead := ("line " : Str)) X G hf htop q_BadOrder w_2 cm_BadOrder rfl rfl (NdefX.nscope_by (by decide +kernel)) rfl rfl (by decide +kernel) (by decide +kernel) (fun env => ⟨_, rfl⟩) (by decide +kernel) (by decide +kernel) (fun cc kV doc pm cdv ct an us hl => match us, hl with | [_, _], _ => rfl)
  have q2_BadOrder_RuleError := He.glo_ok X G (c.fact 35 (f := .glo "RuleError") rfl)
  exact ⟨{ d_is_word := ⟨_, fd_is_word, F_is_word, g_is_word⟩, d_number_of := ⟨_, fd_number_of, F_number_of, g_number_of⟩, d_read_order := ⟨_, fd_read_order, F_read_order, g_read_order⟩, d_read_orders := ⟨_, fd_read_orders, F_read_orders, g_read_orders⟩, d_write_order := ⟨_, fd_write_order, F_write_order, g_write_order⟩, d_write_orders := ⟨_, fd_write_orders, F_write_orders, g_write_orders⟩, d__law_cell := ⟨_, fd__law_cell, F__law_cell, g__law_cell⟩, d__law_digits := ⟨_, fd__law_digits, F__law_digits, g__law_digits⟩, d__law_draw := ⟨_, fd__law_draw, F__law_draw, g__law_draw⟩, d__law_pick := ⟨_, fd__law_pick, F__law_pick, g__law_pick⟩, d__law_same := ⟨_, fd__law_same, F__law_same, g__law_same⟩, d__law_is_word := ⟨_, fd__law_is_word, F__law_is_word, g__law_is_word⟩, d__law_number := ⟨_, fd__law_number, F__law_number, g__law_number⟩, d__law_asked := ⟨_, fd__law_asked, F__law_asked, g__law_asked⟩, d__law_read := ⟨_, fd__law_read, F__law_read, g__law_read⟩, d__law_word := ⟨_, fd__law_word, F__law_word, g__law_word⟩, d__law_order := ⟨_, fd__law_order, F__law_order, g__law_order⟩, d__law_bent := ⟨_, fd__law_bent, F__law_bent, g__law_bent⟩, d__law_text := ⟨_, fd__law_text, F__law_text, g__law_text⟩, d_law := ⟨_, fd_law, F_law, g_law⟩, m_all := m_all, m_bool := m_bool, m_enumerate := m_enumerate, m_int := m_int, m_isinstance := m_isinstance, m_len := m_len, m_list := m_list, m_range := m_range, m_repr := m_repr, m_str := m_str, m_tuple := m_tuple, a_ASKED := a_ASKED, a_BARE := a_BARE, a_SMALL := a_SMALL, e_BadOrder := z_BadOrder, x_BadOrder_RuleError := ⟨_, q2_BadOrder_RuleError, by rw [zc_BadOrder]; exact of_decide_eq_true w_3⟩ }⟩
theorem facts {P : Program} {w : World} {K : PySem.W.Frag} {h : Heap} {mg : Str → Option Value} {f : Addr} (X : K.In h) (G : h.Ns mainGlobals mg) (hf : (P.main.file : Str) = file) (htop : (P.main.scope.names.lookup ("super" : Str)).isSome = false) (hfa : mg ("law" : Str) = some (.ref f)) (c : SaysM fa fnl ims more K) (hl : LawTrue) :
    ∃ fd : FuncData, (∀ (s : Shared) (v : Value), BindsTo s fd ⟨[v], []⟩ [("script", v)]) ∧ ∀ base : Heap, K.In base → base.Ns mainGlobals mg → FnOk P w K mg base CX0 9 f fd ["script"] (spLaw K) := by
  obtain ⟨T⟩ := txt X G hf htop c
  have e := hfa.symm.trans T.d_law.g
  cases e
  have b := FunD.bindsA (ps := ["script"]) T.d_law.F fun _ _ _ _ _ _ us hl => match us, hl with | [_], _ => rfl
  exact ⟨T.d_law.fd, fun s v => b s [v] rfl, fun base _ _ => G_law T hl⟩
end G_k97_orders_read_and_written
open PySem PySem.W PySem.Calls PyProof.Rows
set_option maxHeartbeats 0 in
theorem PySem.Challenge.cw_ruleyard_k97_orders_read_and_written_holds : PySem.Challenge.rw_ruleyard_k97_orders_read_and_written.Holds := by
  w_on; o_law
  refine HandSHeadRun.head_any (r := OpenLaw.row PySem.Challenge.rw_ruleyard_k97_orders_read_and_written) (q := view (OpenLaw.row PySem.Challenge.rw_ruleyard_k97_orders_read_and_written).prog [27]) (H := G_k97_orders_read_and_written.hk) (ob := G_k97_orders_read_and_written.ob) (M := 4000) (loose := G_k97_orders_read_and_written.loose) (d := HandSHeadRun.topDef (OpenLaw.row PySem.Challenge.rw_ruleyard_k97_orders_read_and_written).prog 27) (kwd := []) G_k97_orders_read_and_written.ob_eq
    (by kernel_rfl) (fun s => by kernel_rfl) G_k97_orders_read_and_written.run (by kernel_rfl) (by kernel_rfl) (by kernel_rfl) (by rfl) (by first | assumption | decide +kernel) (by decide +kernel) ⟨rfl, rfl, rfl, rfl, rfl, by decide +kernel⟩ ?hw ?hc
  case hw => w_witness2
  case hc =>
    refine L2.walk_ofE (l := PySem.Challenge.rw_ruleyard_k97_orders_read_and_written) (n := 63) (k := 9) (x := "script") (CX := L2.CX0) rfl (by decide) (by kernel_rfl) ⟨rfl, by decide, by decide⟩ ?F (fun _ _ _ _ z => z)
    intro w mg fa h Y G hmg0
    obtain ⟨K, KX, c⟩ := Y
    have hmg : mg ("law" : PySem.Str) = some (.ref fa) := by
      have e : (HandSHeadRun.topDef (OpenLaw.row PySem.Challenge.rw_ruleyard_k97_orders_read_and_written).prog 27).name = ("law" : PySem.Str) := by kernel_rfl
      rw [← e]
      exact hmg0
    obtain ⟨fd, hb, hF⟩ := G_k97_orders_read_and_written.facts (P := (PySem.Challenge.rw_ruleyard_k97_orders_read_and_written).prog) (w := w) KX G (by kernel_rfl) (by kernel_rfl) hmg c G_k97_orders_read_and_written.lawTrue
    exact ⟨K, fd, Wy.spLaw K, KX, hb, fun H a ns hl ho hS => ⟨a, ns, rfl, ho, hS, fun _ => rfl⟩, hF⟩

