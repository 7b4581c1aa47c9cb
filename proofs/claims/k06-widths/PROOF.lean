import PyProof.Rows.All
import Wide.All
import OpenK.AllK
import Wide.FinOn
import HandS.ForMost
import HandS.ForExc
import HandS.Defaults
import HandS.Wide
import HandS.TupAny
import HandS.TupMul
import HandS.TupLen
import HandS.IsInst
import HandS.Conv
import HandS.RevRange
import HandS.RevTup
import HandS.HotCalls
import HandS.ExcIs
import HandS.Head0
import HandS.Head1
import HandS.Head2
import HandS.HeadEnd
import HandS.HeadHook1
import HandS.HeadHook2
import HandS.EndBits
import PyProof.CollectIter
import PyProof.FactsAll.range_iterator_1
import PySem.Challenge.RW_changeview_k06_widths_told
set_option Elab.async false
set_option linter.all false
set_option maxRecDepth 100000
set_option maxHeartbeats 4000000
/-! Layer Zy: values with tuples as data, over the hand layer. -/
namespace Zy
open PySem L2 PySem.Spec PyProof.Rows

/-- a value; a tuple is data -/
inductive D where
  | non | bl (b : Bool) | int (i : Int) | str (x : Str) | ref (a : Addr) | ty (n : String) | tup (xs : List D)
  /-- the script: a list of ints that is never written -/
  | scr (ns : List Int)

/-- the script's list: locked, or an object of the module -/
def SqF (K : PySem.W.Frag) (H : Hp) (a : Addr) (xs : List V) : Prop :=
  (∃ o, H a = some (.frz o (.lst xs))) ∨
    ∃ (o : Obj) (its : Array Value) (n : Nat), K.lookup a = some o ∧ o.cls = .type "list" ∧ o.dict = none ∧ o.data = .seq its n ∧ its.size ≤ sizeLine ∧ Vals xs its.toList
theorem SqF.seq {K : PySem.W.Frag} {H : Hp} {a : Addr} {xs : List V} (h : SqF K H a xs) : SqL K H a xs := by
  rcases h with h | h
  · exact .inl (.inr h)
  · exact .inr h

mutual
/-- the datum d is the value v, the tuples as they stand in H -/
inductive RD (K : PySem.W.Frag) (H : Hp) : D → V → Prop where
  | non : RD K H .non .non
  | bl (b : Bool) : RD K H (.bl b) (.bl b)
  | int (i : Int) : RD K H (.int i) (.int i)
  | str (x : Str) : RD K H (.str x) (.str x)
  | ref (a : Addr) : RD K H (.ref a) (.ref a)
  | ty (n : String) : RD K H (.ty n) (.ty n)
  | tup {a : Addr} {ds : List D} {vs : List V} (h : H a = some (.tup vs)) (r : RDs K H ds vs) : RD K H (.tup ds) (.ref a)
  | scr {a : Addr} {ns : List Int} (h : SqF K H a (ns.map V.int)) : RD K H (.scr ns) (.ref a)
inductive RDs (K : PySem.W.Frag) (H : Hp) : List D → List V → Prop where
  | nil : RDs K H [] []
  | cons {d : D} {v : V} {ds : List D} {vs : List V} (h : RD K H d v) (r : RDs K H ds vs) : RDs K H (d :: ds) (v :: vs)
end

/-- a tuple, a locked list: what stays -/
def stays : HO → Bool
  | .tup _ => true
  | .frz _ (.lst _) => true
  | _ => false
def TM (H H' : Hp) : Prop := ∀ b o, stays o = true → H b = some o → H' b = some o
theorem TM.refl (H : Hp) : TM H H := fun _ _ _ h => h
theorem TM.trans {H H1 H2 : Hp} (a : TM H H1) (b : TM H1 H2) : TM H H2 := fun c xs k h => b c xs k (a c xs k h)
theorem TM.new {H : Hp} {p : Addr} {o : HO} (h : H p = none) : TM H (upd H p o) := fun b xs _ e => by
  rw [upd_ne (ne_of_none e h)]; exact e
theorem TM.set {H : Hp} {p : Addr} {u o : HO} (h : H p = some u) (n : stays u = false) : TM H (upd H p o) := fun b xs k e => by
  rw [upd_ne (ne_of e h fun z => by rw [z, n] at k; cases k)]; exact e
theorem SqF.mono {K : PySem.W.Frag} {H H' : Hp} {a : Addr} {xs : List V} (m : TM H H') (h : SqF K H a xs) : SqF K H' a xs := by
  rcases h with ⟨o, h⟩ | h
  · exact .inl ⟨o, m _ _ rfl h⟩
  · exact .inr h

mutual
theorem RD.mono {K : PySem.W.Frag} {H H' : Hp} (m : TM H H') : ∀ {d : D} {v : V}, RD K H d v → RD K H' d v
  | _, _, .non => .non
  | _, _, .bl b => .bl b
  | _, _, .int i => .int i
  | _, _, .str x => .str x
  | _, _, .ref a => .ref a
  | _, _, .ty n => .ty n
  | _, _, .tup h r => .tup (m _ _ rfl h) (RDs.mono m r)
  | _, _, .scr h => .scr (h.mono m)
theorem RDs.mono {K : PySem.W.Frag} {H H' : Hp} (m : TM H H') : ∀ {ds : List D} {vs : List V}, RDs K H ds vs → RDs K H' ds vs
  | _, _, .nil => .nil
  | _, _, .cons h r => .cons (RD.mono m h) (RDs.mono m r)
end
theorem RDs.length {K : PySem.W.Frag} {H : Hp} : ∀ {ds : List D} {vs : List V}, RDs K H ds vs → ds.length = vs.length
  | _, _, .nil => rfl
  | _, _, .cons _ r => by rw [List.length_cons, List.length_cons, RDs.length r]
theorem RDs.get {K : PySem.W.Frag} {H : Hp} : ∀ {ds : List D} {vs : List V} {i : Nat} {d : D}, RDs K H ds vs → ds[i]? = some d → ∃ v, vs[i]? = some v ∧ RD K H d v
  | _, _, _, _, .nil, e => by simp at e
  | _, _, 0, _, .cons h _, e => by simp at e; subst e; exact ⟨_, rfl, h⟩
  | _, _, i + 1, d, .cons _ r, e => by
    obtain ⟨v, h1, h2⟩ := RDs.get (i := i) (d := d) r (by simpa using e)
    exact ⟨v, by simpa using h1, h2⟩
theorem RDs.get' {K : PySem.W.Frag} {H : Hp} : ∀ {ds : List D} {vs : List V} {i : Nat} {v : V}, RDs K H ds vs → vs[i]? = some v → ∃ d, ds[i]? = some d ∧ RD K H d v
  | _, _, _, _, .nil, e => by simp at e
  | _, _, 0, _, .cons h _, e => by simp at e; subst e; exact ⟨_, rfl, h⟩
  | _, _, i + 1, d, .cons _ r, e => by
    obtain ⟨v, h1, h2⟩ := RDs.get' (i := i) (v := d) r (by simpa using e)
    exact ⟨v, by simpa using h1, h2⟩
theorem RDs.append {K : PySem.W.Frag} {H : Hp} : ∀ {ds es : List D} {vs us : List V}, RDs K H ds vs → RDs K H es us → RDs K H (ds ++ es) (vs ++ us)
  | _, _, _, _, .nil, s => s
  | _, _, _, _, .cons h r, s => .cons h (RDs.append r s)
theorem RDs.set {K : PySem.W.Frag} {H : Hp} {d : D} {v : V} (r : RD K H d v) : ∀ {ds : List D} {vs : List V} (i : Nat), RDs K H ds vs → RDs K H (ds.set i d) (vs.set i v)
  | _, _, _, .nil => .nil
  | _, _, 0, .cons _ t => .cons r t
  | _, _, i + 1, .cons q t => .cons q (RDs.set r i t)
theorem RDs.take {K : PySem.W.Frag} {H : Hp} : ∀ {ds : List D} {vs : List V} (n : Nat), RDs K H ds vs → RDs K H (ds.take n) (vs.take n)
  | _, _, 0, _ => by simp; exact .nil
  | _, _, _ + 1, .nil => .nil
  | _, _, n + 1, .cons r t => .cons r (RDs.take n t)
theorem RDs.drop {K : PySem.W.Frag} {H : Hp} : ∀ {ds : List D} {vs : List V} (n : Nat), RDs K H ds vs → RDs K H (ds.drop n) (vs.drop n)
  | _, _, 0, r => r
  | _, _, _ + 1, .nil => .nil
  | _, _, n + 1, .cons r t => RDs.drop n t
theorem RDs.reverse {K : PySem.W.Frag} {H : Hp} {ds : List D} {vs : List V} (h : RDs K H ds vs) : RDs K H ds.reverse vs.reverse := by
  induction ds generalizing vs with
  | nil => cases h; exact .nil
  | cons d ds ih =>
    cases h with
    | cons a b => rw [List.reverse_cons, List.reverse_cons]; exact RDs.append (ih b) (.cons a .nil)
theorem RDs.ints {K : PySem.W.Frag} {H : Hp} : ∀ (ns : List Int), RDs K H (ns.map D.int) (ns.map V.int)
  | [] => .nil
  | n :: r => .cons (.int n) (RDs.ints r)
theorem RDs.ints_inv {K : PySem.W.Frag} {H : Hp} : ∀ {ns : List Int} {vs : List V}, RDs K H (ns.map D.int) vs → vs = ns.map V.int
  | [], _, .nil => rfl
  | n :: r, _, .cons h t => by cases h; rw [RDs.ints_inv t]; rfl

/-- a row -/
abbrev row (r : List Int) : D := .tup (r.map D.int)

/-- what stands at an address of ours: no tuples; lkT, lkK dicts that are walked -/
inductive MO where
  | lst (xs : List D) | dT (kvs : List (List Int × D)) | dK (kvs : List (Int × D)) | ins (C : Addr) (fs : List (Str × D))
  | lkT (kvs : List (List Int × D)) | lkK (kvs : List (Int × D))
abbrev ZH := Addr → Option MO
def set (H : ZH) (a : Addr) (o : MO) : ZH := fun b => if b = a then some o else H b
theorem set_same {H : ZH} {a : Addr} {o : MO} : set H a o a = some o := by unfold set; rw [if_pos rfl]
theorem set_ne {H : ZH} {a b : Addr} {o : MO} (h : b ≠ a) : set H a o b = H b := by unfold set; rw [if_neg h]
theorem set_set {H : ZH} {a : Addr} {o u : MO} : set (set H a o) a u = set H a u := by
  funext b; unfold set; split <;> rfl
theorem ne_new {H : ZH} {a b : Addr} {o : MO} (h : H a = some o) (h' : H b = none) : a ≠ b := by
  intro e; subst e; rw [h] at h'; cases h'
theorem set_old {H : ZH} {a p : Addr} {o : MO} (h1 : (H a).isSome = true) (h2 : H p = none) : set H p o a = H a := by
  refine set_ne fun e => ?_
  subst e; rw [h2] at h1; cases h1
/-- the part H is in H' -/
def Sub (H H' : ZH) : Prop := ∀ a o, H a = some o → H' a = some o
theorem Sub.refl (H : ZH) : Sub H H := fun _ _ h => h
theorem Sub.trans {H H1 H2 : ZH} (a : Sub H H1) (b : Sub H1 H2) : Sub H H2 := fun c o h => b c o (a c o h)
theorem Sub.new {H : ZH} {p : Addr} {o : MO} (h : H p = none) : Sub H (set H p o) := fun b u e => by rw [set_ne (ne_new e h)]; exact e
theorem Sub.none {H H' : ZH} (s : Sub H H') {p : Addr} (h : H' p = Option.none) : H p = Option.none := by
  cases e : H p with
  | none => rfl
  | some o => rw [s _ _ e] at h; cases h

abbrev PT1 (K : PySem.W.Frag) (H : Hp) : List Int × D → List Key × V → Prop := fun p q => q.1 = p.1.map Sum.inl ∧ RD K H p.2 q.2
abbrev PK1 (K : PySem.W.Frag) (H : Hp) : Int × D → Key × V → Prop := fun p q => q.1 = Sum.inl p.1 ∧ RD K H p.2 q.2
abbrev PF1 (K : PySem.W.Frag) (H : Hp) : Str × D → Str × V → Prop := fun p q => p.1 = q.1 ∧ RD K H p.2 q.2
def RO (K : PySem.W.Frag) (H : Hp) (a : Addr) : MO → Prop
  | .lst xs => ∃ vs, H a = some (.lst vs) ∧ RDs K H xs vs
  | .dT kvs => ∃ ws, H a = some (.dT ws) ∧ Paired (PT1 K H) kvs ws
  | .dK kvs => ∃ ws, H a = some (.dK ws) ∧ Paired (PK1 K H) kvs ws
  | .ins C fs => ∃ dx ws, H a = some (.ins C dx ws) ∧ Paired (PF1 K H) fs ws
  | .lkT kvs => ∃ o ws, H a = some (.frz o (.dT ws)) ∧ Paired (PT1 K H) kvs ws
  | .lkK kvs => ∃ o ws, H a = some (.frz o (.dK ws)) ∧ Paired (PK1 K H) kvs ws
def RH (K : PySem.W.Frag) (H : Hp) (Z : ZH) : Prop := ∀ a o, Z a = some o → RO K H a o

theorem pair_mono {α β : Type} {F G : α → β → Prop} (f : ∀ a b, F a b → G a b) : ∀ {l : List α} {m : List β}, Paired F l m → Paired G l m
  | _, _, .nil => .nil
  | _, _, .cons r t => .cons (f _ _ r) (pair_mono f t)
section
variable {K : PySem.W.Frag} {H H' : Hp} {Z Z' : ZH}
theorem PT1.mono (m : TM H H') {p : List Int × D} {q : List Key × V} (h : PT1 K H p q) : PT1 K H' p q := ⟨h.1, h.2.mono m⟩
theorem PK1.mono (m : TM H H') {p : Int × D} {q : Key × V} (h : PK1 K H p q) : PK1 K H' p q := ⟨h.1, h.2.mono m⟩
theorem PF1.mono (m : TM H H') {p : Str × D} {q : Str × V} (h : PF1 K H p q) : PF1 K H' p q := ⟨h.1, h.2.mono m⟩
/-- an object of ours where H' has at a what H has -/
theorem RO.keep {a : Addr} {o : MO} (m : TM H H') (e : H' a = H a) (h : RO K H a o) : RO K H' a o := by
  cases o with
  | lst xs => obtain ⟨vs, h1, h2⟩ := h; exact ⟨vs, e.trans h1, h2.mono m⟩
  | dT kvs => obtain ⟨ws, h1, h2⟩ := h; exact ⟨ws, e.trans h1, pair_mono (fun _ _ => PT1.mono m) h2⟩
  | dK kvs => obtain ⟨ws, h1, h2⟩ := h; exact ⟨ws, e.trans h1, pair_mono (fun _ _ => PK1.mono m) h2⟩
  | ins C fs => obtain ⟨dx, ws, h1, h2⟩ := h; exact ⟨dx, ws, e.trans h1, pair_mono (fun _ _ => PF1.mono m) h2⟩
  | lkT kvs => obtain ⟨o, ws, h1, h2⟩ := h; exact ⟨o, ws, e.trans h1, pair_mono (fun _ _ => PT1.mono m) h2⟩
  | lkK kvs => obtain ⟨o, ws, h1, h2⟩ := h; exact ⟨o, ws, e.trans h1, pair_mono (fun _ _ => PK1.mono m) h2⟩
/-- tracked: its place is not free, but for what the module holds -/
theorem RH.sub (h : RH K H Z) (s : Sub Z' Z) : RH K H Z' := fun a o e => h a o (s a o e)
theorem RH.mono (h : RH K H Z) (m : TM H H') (k : ∀ a o, Z a = some o → H' a = H a) : RH K H' Z := fun a o e => (h a o e).keep m (k a o e)
end
theorem RO.there {K : PySem.W.Frag} {H : Hp} {a : Addr} {o : MO} (h : RO K H a o) : ∃ u, H a = some u := by
  cases o with
  | lst xs => obtain ⟨vs, h1, _⟩ := h; exact ⟨_, h1⟩
  | dT kvs => obtain ⟨ws, h1, _⟩ := h; exact ⟨_, h1⟩
  | dK kvs => obtain ⟨ws, h1, _⟩ := h; exact ⟨_, h1⟩
  | ins C fs => obtain ⟨dx, ws, h1, _⟩ := h; exact ⟨_, h1⟩
  | lkT kvs => obtain ⟨o, ws, h1, _⟩ := h; exact ⟨_, h1⟩
  | lkK kvs => obtain ⟨o, ws, h1, _⟩ := h; exact ⟨_, h1⟩
theorem RO.moves {K : PySem.W.Frag} {H : Hp} {a : Addr} {o : MO} {u : HO} (h : RO K H a o) (e : H a = some u) : stays u = false := by
  cases o with
  | lst xs => obtain ⟨vs, h1, _⟩ := h; rw [h1] at e; cases e; rfl
  | dT kvs => obtain ⟨ws, h1, _⟩ := h; rw [h1] at e; cases e; rfl
  | dK kvs => obtain ⟨ws, h1, _⟩ := h; rw [h1] at e; cases e; rfl
  | ins C fs => obtain ⟨dx, ws, h1, _⟩ := h; rw [h1] at e; cases e; rfl
  | lkT kvs => obtain ⟨o, ws, h1, _⟩ := h; rw [h1] at e; cases e; rfl
  | lkK kvs => obtain ⟨o, ws, h1, _⟩ := h; rw [h1] at e; cases e; rfl
section
variable {K : PySem.W.Frag} {H H' : Hp} {Z Z' : ZH}
theorem RH.fresh (h : RH K H Z) {p : Addr} (e : H p = none) : Z p = none := by
  cases q : Z p with
  | none => rfl
  | some o => obtain ⟨u, hu⟩ := (h p o q).there; rw [e] at hu; cases hu
/-- a new object that is not ours (a tuple) -/
theorem RH.laid (h : RH K H Z) {p : Addr} {u : HO} (e : H p = none) : RH K (upd H p u) Z :=
  h.mono (TM.new e) fun a o q => upd_ne fun z => by subst z; rw [h.fresh e] at q; cases q
/-- a new object of ours -/
theorem RH.new (h : RH K H Z) {p : Addr} {u : HO} {o : MO} (e : H p = none) (r : RO K (upd H p u) p o) : RH K (upd H p u) (set Z p o) := fun a v q => by
  by_cases ha : a = p
  · subst ha; rw [set_same] at q; cases q; exact r
  · rw [set_ne ha] at q; exact h.laid e a v q
/-- an object of ours written -/
theorem RH.write (h : RH K H Z) {p : Addr} {u : HO} {o o' : MO} (e : Z p = some o') (r : RO K (upd H p u) p o) : RH K (upd H p u) (set Z p o) := fun a v q => by
  by_cases ha : a = p
  · subst ha; rw [set_same] at q; cases q; exact r
  · rw [set_ne ha] at q
    obtain ⟨w, hw⟩ := (h p o' e).there
    exact (h a v q).keep (TM.set hw ((h p o' e).moves hw)) (upd_ne ha)
theorem RH.tm (h : RH K H Z) {p : Addr} {u : HO} {o' : MO} (e : Z p = some o') : TM H (upd H p u) := by
  obtain ⟨w, hw⟩ := (h p o' e).there
  exact TM.set hw ((h p o' e).moves hw)
end
end Zy
set_option Elab.async false
set_option linter.all false
set_option maxRecDepth 100000
set_option maxHeartbeats 4000000
namespace Zy
open PySem L2 PySem.Spec PyProof.Rows

/-! ### the frame's slots, the judgements -/
abbrev Sg := List (Option D)
inductive RS (K : PySem.W.Frag) (H : Hp) : Sg → L2.St → Prop where
  | nil : RS K H [] []
  | emp {o : Option V} {s : Sg} {σ : L2.St} (r : RS K H s σ) : RS K H (none :: s) (o :: σ)
  | val {d : D} {v : V} {s : Sg} {σ : L2.St} (h : RD K H d v) (r : RS K H s σ) : RS K H (some d :: s) (some v :: σ)
/-- slot i -/
def nth : Sg → Nat → Option D
  | [], _ => none
  | o :: _, 0 => o
  | _ :: s, i + 1 => nth s i
def put : Sg → Nat → Option D → Sg
  | [], _, _ => []
  | _ :: s, 0, d => d :: s
  | o :: s, i + 1, d => o :: put s i d
section
variable {K : PySem.W.Frag} {H H' : Hp}
theorem RS.mono (m : TM H H') : ∀ {s : Sg} {σ : L2.St}, RS K H s σ → RS K H' s σ
  | _, _, .nil => .nil
  | _, _, .emp r => .emp (RS.mono m r)
  | _, _, .val h r => .val (h.mono m) (RS.mono m r)
theorem RS.get : ∀ {s : Sg} {σ : L2.St} {i : Nat} {d : D}, RS K H s σ → nth s i = some d → ∃ v, σ[i]? = some (some v) ∧ RD K H d v
  | _, _, _, _, .nil, e => by cases e
  | _, _, 0, _, .emp r, e => by cases e
  | _, _, 0, _, .val h r, e => by cases e; exact ⟨_, rfl, h⟩
  | _, _, i + 1, d, .emp r, e => RS.get (i := i) (d := d) r e
  | _, _, i + 1, d, .val h r, e => RS.get (i := i) (d := d) r e
theorem RS.put {d : D} {v : V} (h : RD K H d v) : ∀ {s : Sg} {σ : L2.St} (i : Nat), RS K H s σ → RS K H (put s i (some d)) (σ.set i (some v))
  | _, _, _, .nil => .nil
  | _, _, 0, .emp r => .val h r
  | _, _, 0, .val _ r => .val h r
  | _, _, i + 1, .emp r => .emp (RS.put h i r)
  | _, _, i + 1, .val a r => .val a (RS.put h i r)
theorem RS.gone : ∀ {s : Sg} {σ : L2.St} (i : Nat), RS K H s σ → RS K H (Zy.put s i none) (σ.set i none)
  | _, _, _, .nil => .nil
  | _, _, 0, .emp r => .emp r
  | _, _, 0, .val _ r => .emp r
  | _, _, i + 1, .emp r => .emp (RS.gone i r)
  | _, _, i + 1, .val a r => .val a (RS.gone i r)
/-- the comprehension's own names are forgotten -/
def wipeZ (s : Sg) : List Nat → Sg
  | [] => s
  | i :: r => put (wipeZ s r) i none
theorem RS.weak : ∀ {s : Sg} {σ σ' : L2.St}, RS K H s σ → (∀ (i : Nat) v, σ[i]? = some (some v) → (nth s i).isSome = true → σ'[i]? = some (some v)) → σ'.length = σ.length → RS K H s σ'
  | [], _, σ', .nil, _, l => by
    have : σ' = [] := List.eq_nil_of_length_eq_zero (by simpa using l)
    subst this; exact .nil
  | _ :: s, _ :: σ, [], _, _, l => by simp at l
  | _ :: s, _ :: σ, o' :: σ', .emp r, k, l => .emp (RS.weak r (fun i v e q => by simpa using k (i + 1) v (by simpa using e) q) (by simpa using l))
  | _ :: s, _ :: σ, o' :: σ', .val h r, k, l => by
    have e := k 0 _ rfl rfl
    simp at e
    subst e
    exact .val h (RS.weak r (fun i v e q => by simpa using k (i + 1) v (by simpa using e) q) (by simpa using l))
end

/-- wishes -/
abbrev WP := D → ZH → Prop
abbrev TEz := Sg → ZH → WP → Prop
abbrev TTz := Sg → ZH → (Bool → ZH → Prop) → Prop
abbrev TAz := Sg → ZH → (List D → ZH → Prop) → Prop
structure Ez where
  nx : Sg → ZH → Prop
  rt : WP
  bk : Sg → ZH → Prop := fun _ _ => False
  ct : Sg → ZH → Prop := fun _ _ => False
abbrev TSz := Ez → Sg → ZH → Prop
abbrev TGz := D → Sg → ZH → (Sg → ZH → Prop) → Prop
abbrev TGsz := List D → Sg → ZH → (Sg → ZH → Prop) → Prop

/-- a wish of ours, below -/
def upE (K : PySem.W.Frag) (H : Hp) (Q : WP) : VK := fun v H' => ∃ d Z', TM H H' ∧ RD K H' d v ∧ RH K H' Z' ∧ Q d Z'
def upT (K : PySem.W.Frag) (H : Hp) (Q : Bool → ZH → Prop) : Bool → Hp → Prop := fun b H' => ∃ Z', TM H H' ∧ RH K H' Z' ∧ Q b Z'
def upA (K : PySem.W.Frag) (H : Hp) (Q : List D → ZH → Prop) : List V → Hp → Prop := fun vs H' => ∃ ds Z', TM H H' ∧ RDs K H' ds vs ∧ RH K H' Z' ∧ Q ds Z'
def upS (K : PySem.W.Frag) (H : Hp) (Q : Sg → ZH → Prop) : L2.St → Hp → Prop := fun σ H' => ∃ s Z', TM H H' ∧ RS K H' s σ ∧ RH K H' Z' ∧ Q s Z'
def upD (K : PySem.W.Frag) (H : Hp) (D : Ez) : Ends := ⟨upS K H D.nx, upE K H D.rt, upS K H D.bk, upS K H D.ct⟩
/-- a reading of ours, below -/
def dnE (K : PySem.W.Frag) (t : TEz) : TE := fun σ H Q1 => ∃ s Z Q, RS K H s σ ∧ RH K H Z ∧ t s Z Q ∧ ∀ v H', upE K H Q v H' → Q1 v H'
def dnT (K : PySem.W.Frag) (t : TTz) : TT := fun σ H Q1 => ∃ s Z Q, RS K H s σ ∧ RH K H Z ∧ t s Z Q ∧ ∀ v H', upT K H Q v H' → Q1 v H'
def dnA (K : PySem.W.Frag) (t : TAz) : TA := fun σ H Q1 => ∃ s Z Q, RS K H s σ ∧ RH K H Z ∧ t s Z Q ∧ ∀ v H', upA K H Q v H' → Q1 v H'
def dnS (K : PySem.W.Frag) (t : TSz) : TS := fun D1 σ H => ∃ s Z D, RS K H s σ ∧ RH K H Z ∧ t D s Z ∧ (∀ σ' H', upS K H D.nx σ' H' → D1.nx σ' H') ∧ (∀ v H', upE K H D.rt v H' → D1.rt v H') ∧
  (∀ σ' H', upS K H D.bk σ' H' → D1.bk σ' H') ∧ (∀ σ' H', upS K H D.ct σ' H' → D1.ct σ' H')
def dnG (K : PySem.W.Frag) (t : TGz) : TG := fun v σ H Q1 => ∃ d s Z Q, RD K H d v ∧ RS K H s σ ∧ RH K H Z ∧ t d s Z Q ∧ ∀ σ' H', upS K H Q σ' H' → Q1 σ' H'
def dnGs (K : PySem.W.Frag) (t : TGsz) : TGs := fun vs σ H Q1 => ∃ ds s Z Q, RDs K H ds vs ∧ RS K H s σ ∧ RH K H Z ∧ t ds s Z Q ∧ ∀ σ' H', upS K H Q σ' H' → Q1 σ' H'

abbrev ZE (X : Cx) (e : Expr) (t : TEz) : Prop := PE X e (dnE X.K t)
abbrev ZT (X : Cx) (e : Expr) (t : TTz) : Prop := PT X e (dnT X.K t)
abbrev ZW (X : Cx) (e : Expr) (t : TTz) : Prop := PW X e (dnT X.K t)
abbrev ZA (X : Cx) (es : List Expr) (t : TAz) : Prop := PA X es (dnA X.K t)
abbrev ZS (X : Cx) (st : Stmt) (t : TSz) : Prop := PS X st (dnS X.K t)
abbrev ZSs (X : Cx) (st : List Stmt) (t : TSz) : Prop := PSs X st (dnS X.K t)
abbrev ZG (X : Cx) (e : Expr) (t : TGz) : Prop := PG X e (dnG X.K t)
abbrev ZGs (X : Cx) (es : List Expr) (t : TGsz) : Prop := PGs X es (dnGs X.K t)

/-! ### weakening of readings -/
end Zy
namespace L2
open PySem PySem.Spec PyProof.Rows
section
variable {X : Cx}
theorem PE.zimp {e : Expr} {t u : TE} (h : PE X e t) (k : ∀ σ H Q, u σ H Q → t σ H Q) : PE X e u := ⟨fun p s σ H Q I q => h.run p s σ H Q I (k _ _ _ q)⟩
theorem PT.zimp {e : Expr} {t u : TT} (h : PT X e t) (k : ∀ σ H Q, u σ H Q → t σ H Q) : PT X e u := ⟨fun p s σ H Q I q => h.run p s σ H Q I (k _ _ _ q)⟩
theorem PW.zimp {e : Expr} {t u : TT} (h : PW X e t) (k : ∀ σ H Q, u σ H Q → t σ H Q) : PW X e u := ⟨fun w p s σ H Q I q => h.run w p s σ H Q I (k _ _ _ q)⟩
theorem PA.zimp {e : List Expr} {t u : TA} (h : PA X e t) (k : ∀ σ H Q, u σ H Q → t σ H Q) : PA X e u := ⟨fun w p s σ H Q I q => h.run w p s σ H Q I (k _ _ _ q)⟩
theorem PS.zimp {e : Stmt} {t u : TS} (h : PS X e t) (k : ∀ D σ H, u D σ H → t D σ H) : PS X e u := ⟨fun p s σ H D I q => h.run p s σ H D I (k _ _ _ q)⟩
theorem PSs.zimp {e : List Stmt} {t u : TS} (h : PSs X e t) (k : ∀ D σ H, u D σ H → t D σ H) : PSs X e u := ⟨fun p s σ H D I q => h.run p s σ H D I (k _ _ _ q)⟩
theorem PG.zimp {e : Expr} {t u : TG} (h : PG X e t) (k : ∀ v σ H Q, u v σ H Q → t v σ H Q) : PG X e u := ⟨fun p s σ H v w Q I r q => h.run p s σ H v w Q I r (k _ _ _ _ q)⟩
theorem PGs.zimp {e : List Expr} {t u : TGs} (h : PGs X e t) (k : ∀ v σ H Q, u v σ H Q → t v σ H Q) : PGs X e u := ⟨fun p s σ H v w Q I r q => h.run p s σ H v w Q I r (k _ _ _ _ q)⟩
end
end L2
namespace Zy
open PySem L2 PySem.Spec PyProof.Rows
section
variable {X : Cx}
/-- tuples since the entry stay -/
theorem tm_inv {pins : List (Addr × Obj)} {σ : L2.St} {H : Hp} {s : Shared} (I : Inv X pins σ H s) : TM X.H_0 H := fun b o k e => by
  cases o with
  | tup xs => exact I.base.tups _ _ e
  | frz o u => exact I.base.frzs _ _ _ e
  | _ => cases k
end
theorem upE.tm {K : PySem.W.Frag} {H H1 H' : Hp} {Q : WP} {v : V} (m : TM H H1) (h : upE K H1 Q v H') : upE K H Q v H' := by
  obtain ⟨d, Z, a, b⟩ := h; exact ⟨d, Z, m.trans a, b⟩
theorem upS.tm {K : PySem.W.Frag} {H H1 H' : Hp} {Q : Sg → ZH → Prop} {v : L2.St} (m : TM H H1) (h : upS K H1 Q v H') : upS K H Q v H' := by
  obtain ⟨d, Z, a, b⟩ := h; exact ⟨d, Z, m.trans a, b⟩
theorem upT.tm {K : PySem.W.Frag} {H H1 H' : Hp} {Q : Bool → ZH → Prop} {v : Bool} (m : TM H H1) (h : upT K H1 Q v H') : upT K H Q v H' := by
  obtain ⟨Z, a, b⟩ := h; exact ⟨Z, m.trans a, b⟩
theorem upA.tm {K : PySem.W.Frag} {H H1 H' : Hp} {Q : List D → ZH → Prop} {v : List V} (m : TM H H1) (h : upA K H1 Q v H') : upA K H Q v H' := by
  obtain ⟨d, Z, a, b⟩ := h; exact ⟨d, Z, m.trans a, b⟩

/-! ### names, constants -/
def zV (i : Nat) : TEz := fun s H Q => match nth s i with | some d => Q d H | none => False
def zC (d : D) : TEz := fun _ H Q => Q d H
section
variable {X : Cx}
/-- a reading that gives one value, whatever the heap -/
theorem ze_c {e : Expr} {v : V} {d : D} (h : PE X e (tC v)) (r : ∀ K H, RD K H d v) : ZE X e (zC d) :=
  h.zimp fun σ H Q ⟨s, Z, Q', _, rh, q, k⟩ => k _ _ ⟨d, Z, TM.refl H, r _ _, rh, q⟩
theorem ze_var {e : Expr} {i : Nat} (h : PE X e (tVar i)) : ZE X e (zV i) := h.zimp fun σ H Q ⟨s, Z, Q', rs, rh, q, k⟩ => by
  unfold zV at q
  cases e : nth s i with
  | none => rw [e] at q; exact q.elim
  | some d =>
    rw [e] at q
    obtain ⟨v, h1, h2⟩ := rs.get e
    exact ⟨v, h1, k _ _ ⟨d, Z, TM.refl H, h2, rh, q⟩⟩
theorem zv (i : Nat) {x : Str} {pos : Pos} (hN : X.N[i]? = some x := by rfl) (hv : Vis X.env.scope x := by first | exact Or.inl rfl | exact Or.inr (Or.inl rfl) | exact Or.inr (Or.inr rfl)) (hd : (x == ("__debug__" : Str)) = false := by decide)
    (hcd : (x == ("__classdict__" : Str)) = false := by decide) : ZE X (.Name x pos) (zV i) := ze_var (pe_var hN hv hd hcd)
theorem ze_int {i j pos} : ZE X (.Constant (.int i) j pos) (zC (.int i)) := ze_c pe_int fun _ _ => .int i
theorem ze_bl {b j pos} : ZE X (.Constant (.bool b) j pos) (zC (.bl b)) := ze_c pe_bl fun _ _ => .bl b
theorem ze_non {j pos} : ZE X (.Constant .none j pos) (zC .non) := ze_c pe_non fun _ _ => .non
theorem ze_str {x j pos} : ZE X (.Constant (.str x) j pos) (zC (.str x)) := ze_c pe_str fun _ _ => .str x

/-! ### two in a row, operators by values -/
abbrev R2z := D → D → ZH → WP → Prop
def zOp (r : R2z) (ta tb : TEz) : TEz := fun s H Q => ta s H fun x H1 => tb s H1 fun y H2 => r x y H2 Q
/-- an operator's reading of ours, below -/
def dnR (K : PySem.W.Frag) (r : R2z) : R2 := fun v u H Q1 => ∃ x y Z Q, RD K H x v ∧ RD K H y u ∧ RH K H Z ∧ r x y Z Q ∧ ∀ w H', upE K H Q w H' → Q1 w H'
/-- an operator's rule on our values -/
abbrev OpZ (X : Cx) (f : Value → Value → Sem Value) (r : R2z) : Prop := OpR X f (dnR X.K r)
theorem opz {f : Value → Value → Sem Value} {r1 : R2} {r : R2z} (h : OpR X f r1) (k : ∀ (H : Hp) (Z : ZH) (x y : D) (v u : V) (Q : WP), RD X.K H x v → RD X.K H y u → RH X.K H Z → r x y Z Q → r1 v u H (upE X.K H Q)) : OpZ X f r :=
  fun p s σ H v u v' u' Q1 I rv ru ⟨x, y, Z, Q, rx, ry, rh, q, kk⟩ => thn (h p s σ H v u v' u' _ I rv ru (k H Z x y v u Q rx ry rh q)) fun _ _ ⟨w, H', J, rw, qw⟩ => ⟨w, H', J, rw, kk _ _ qw⟩
/-- the value itself, nothing changed -/
theorem up_same {K : PySem.W.Frag} {H : Hp} {Z : ZH} {d : D} {v : V} {Q : WP} (rd : RD K H d v) (rh : RH K H Z) (q : Q d Z) : upE K H Q v H := ⟨d, Z, TM.refl H, rd, rh, q⟩
theorem two {ta tb : TEz} {K : PySem.W.Frag} {r : R2z} {σ : L2.St} {H : Hp} {Q : VK} (h : dnE K (zOp r ta tb) σ H Q) : tOp (dnR K r) (dnE K ta) (dnE K tb) σ H Q := by
  obtain ⟨s, Z, Q', rs, rh, q, kk⟩ := h
  refine ⟨s, Z, _, rs, rh, q, fun v H1 ⟨d, Z1, m1, rd, rh1, q1⟩ => ?_⟩
  refine ⟨s, Z1, _, rs.mono m1, rh1, q1, fun u H2 ⟨e, Z2, m2, re, rh2, q2⟩ => ?_⟩
  exact ⟨d, e, Z2, Q', rd.mono m2, re, rh2, q2, fun w H' hw => kk w H' (hw.tm (m1.trans m2))⟩
theorem ze_op {a b : Expr} {ta tb : TEz} {op : Operator} {r : R2z} {pos : Pos} (ho : OpZ X (binaryOp op) r) (ha : ZE X a ta) (hb : ZE X b tb) : ZE X (.BinOp a op b pos) (zOp r ta tb) := (pe_op ho ha hb).zimp fun _ _ _ => two
theorem ze_cmp {a b : Expr} {ta tb : TEz} {op : CmpOp} {r : R2z} {pos : Pos} (ho : OpZ X (compareOp op) r) (ha : ZE X a ta) (hb : ZE X b tb) (hn : behindInMarks op b = false := by first | exact nomark _ | rfl) : ZE X (.Compare a [op] [b] pos) (zOp r ta tb) :=
  (pe_cmpR ho ha hb hn).zimp fun _ _ _ => two
def zTest (t : TEz) : TTz := fun s H Q => t s H fun x H1 => match x with | .bl b => Q b H1 | _ => False
theorem test {t : TEz} {K : PySem.W.Frag} {u : TE} (h : ∀ σ H Q, dnE K t σ H Q → u σ H Q) {σ : L2.St} {H : Hp} {Q : Bool → Hp → Prop} (q : dnT K (zTest t) σ H Q) : (fun σ H (Q : Bool → Hp → Prop) => u σ H fun x H1 => ∃ k, x = .bl k ∧ Q k H1) σ H Q := by
  obtain ⟨s, Z, Q', rs, rh, q, kk⟩ := q
  refine h _ _ _ ⟨s, Z, _, rs, rh, q, fun v H1 ⟨d, Z1, m1, rd, rh1, q1⟩ => ?_⟩
  cases rd with
  | bl b => exact ⟨b, rfl, kk _ _ ⟨Z1, m1, rh1, q1⟩⟩
  | _ => exact q1.elim
theorem zt_cmp {a b : Expr} {ta tb : TEz} {op : CmpOp} {r : R2z} {pos : Pos} (ho : OpZ X (compareOp op) r) (ha : ZE X a ta) (hb : ZE X b tb) (hn : behindInMarks op b = false := by first | exact nomark _ | rfl) : ZT X (.Compare a [op] [b] pos) (zTest (zOp r ta tb)) :=
  (pt_cmpR ho ha hb hn).zimp fun _ _ _ h => test (fun _ _ _ => two) h
/-- an expression that gives a bool, as a test -/
theorem zt_val {e : Expr} {t : TEz} (h : ZE X e t) (he : ∀ whole, isTrue e X.env whole = (do let v ← whole; standAt e.pos; holding [v] (truthy v)) := by intro _; rfl) : ZT X e (zTest t) :=
  (pt_val h he).zimp fun _ _ _ q => test (fun _ _ _ z => z) q
/-! ### and, or, not -/
def zAnd (t u : TTz) : TTz := fun s H Q => t s H fun c H1 => match c with | true => u s H1 Q | false => Q false H1
def zOr (t u : TTz) : TTz := fun s H Q => t s H fun c H1 => match c with | true => Q true H1 | false => u s H1 Q
def zNot (t : TTz) : TTz := fun s H Q => t s H fun c H1 => Q (!c) H1
variable {a b : Expr} {rest : List Expr} {pos : Pos} {ta tb : TTz}
theorem zw_and1 (ha : ZT X a ta) : ZW X (.BoolOp .And [a] pos) ta := pw_and1 ha
theorem zw_or1 (ha : ZT X a ta) : ZW X (.BoolOp .Or [a] pos) ta := pw_or1 ha
theorem zw_and (ha : ZT X a ta) (hb : ZW X (.BoolOp .And (b :: rest) pos) tb) : ZW X (.BoolOp .And (a :: b :: rest) pos) (zAnd ta tb) := (pw_and ha hb).zimp fun σ H Q ⟨s, Z, Q', rs, rh, q, kk⟩ => by
  refine ⟨s, Z, _, rs, rh, q, fun c H1 ⟨Z1, m1, rh1, q1⟩ => ?_⟩
  cases c with
  | true => exact iteT ⟨s, Z1, Q', rs.mono m1, rh1, q1, fun v H' h => kk v H' (h.tm m1)⟩
  | false => exact iteF (kk _ _ ⟨Z1, m1, rh1, q1⟩)
theorem zw_or (ha : ZT X a ta) (hb : ZW X (.BoolOp .Or (b :: rest) pos) tb) : ZW X (.BoolOp .Or (a :: b :: rest) pos) (zOr ta tb) := (pw_or ha hb).zimp fun σ H Q ⟨s, Z, Q', rs, rh, q, kk⟩ => by
  refine ⟨s, Z, _, rs, rh, q, fun c H1 ⟨Z1, m1, rh1, q1⟩ => ?_⟩
  cases c with
  | true => exact iteT (kk _ _ ⟨Z1, m1, rh1, q1⟩)
  | false => exact iteF ⟨s, Z1, Q', rs.mono m1, rh1, q1, fun v H' h => kk v H' (h.tm m1)⟩
theorem zt_not (ha : ZT X a ta) : ZT X (.UnaryOp .Not a pos) (zNot ta) := (pt_not ha).zimp fun σ H Q ⟨s, Z, Q', rs, rh, q, kk⟩ =>
  ⟨s, Z, _, rs, rh, q, fun c H1 ⟨Z1, m1, rh1, q1⟩ => kk _ _ ⟨Z1, m1, rh1, q1⟩⟩
/-- .. as values (bools) -/
def zAndV (ta tb : TEz) : TEz := fun s H Q => ta s H fun x H1 => match x with | .bl true => tb s H1 Q | .bl false => Q (.bl false) H1 | _ => False
def zOrV (ta tb : TEz) : TEz := fun s H Q => ta s H fun x H1 => match x with | .bl true => Q (.bl true) H1 | .bl false => tb s H1 Q | _ => False
def zNotV (ta : TEz) : TEz := fun s H Q => ta s H fun x H1 => match x with | .bl c => Q (.bl !c) H1 | _ => False
section
variable {ea eb : TEz}
theorem ze_one {op} (h : ZE X a ea) : ZE X (.BoolOp op [a] pos) ea := pe_one h
theorem ze_and (ha : ZE X a ea) (hb : ZE X (.BoolOp .And (b :: rest) pos) eb) : ZE X (.BoolOp .And (a :: b :: rest) pos) (zAndV ea eb) := (pe_and ha hb).zimp fun σ H Q ⟨s, Z, Q', rs, rh, q, kk⟩ => by
  refine ⟨s, Z, _, rs, rh, q, fun v H1 ⟨d, Z1, m1, rd, rh1, q1⟩ => ?_⟩
  cases rd with
  | bl c =>
    refine ⟨c, rfl, ?_⟩
    cases c with
    | true => exact iteT ⟨s, Z1, Q', rs.mono m1, rh1, q1, fun v H' h => kk v H' (h.tm m1)⟩
    | false => exact iteF (kk _ _ ⟨_, Z1, m1, .bl _, rh1, q1⟩)
  | _ => exact q1.elim
theorem ze_or (ha : ZE X a ea) (hb : ZE X (.BoolOp .Or (b :: rest) pos) eb) : ZE X (.BoolOp .Or (a :: b :: rest) pos) (zOrV ea eb) := (pe_or ha hb).zimp fun σ H Q ⟨s, Z, Q', rs, rh, q, kk⟩ => by
  refine ⟨s, Z, _, rs, rh, q, fun v H1 ⟨d, Z1, m1, rd, rh1, q1⟩ => ?_⟩
  cases rd with
  | bl c =>
    refine ⟨c, rfl, ?_⟩
    cases c with
    | false => exact iteF ⟨s, Z1, Q', rs.mono m1, rh1, q1, fun v H' h => kk v H' (h.tm m1)⟩
    | true => exact iteT (kk _ _ ⟨_, Z1, m1, .bl _, rh1, q1⟩)
  | _ => exact q1.elim
theorem ze_not (ha : ZE X a ea) : ZE X (.UnaryOp .Not a pos) (zNotV ea) := (pe_not ha).zimp fun σ H Q ⟨s, Z, Q', rs, rh, q, kk⟩ => by
  refine ⟨s, Z, _, rs, rh, q, fun v H1 ⟨d, Z1, m1, rd, rh1, q1⟩ => ?_⟩
  cases rd with
  | bl c => exact ⟨c, rfl, kk _ _ ⟨_, Z1, m1, .bl _, rh1, q1⟩⟩
  | _ => exact q1.elim
def zIfE (t : TTz) (ea eb : TEz) : TEz := fun s H Q => t s H fun c H1 => match c with | true => ea s H1 Q | false => eb s H1 Q
theorem ze_if {c : Expr} (hc : ZT X c ta) (ha : ZE X a ea) (hb : ZE X b eb) : ZE X (.IfExp c a b pos) (zIfE ta ea eb) := (pe_ifExp hc ha hb).zimp fun σ H Q ⟨s, Z, Q', rs, rh, q, kk⟩ => by
  refine ⟨s, Z, _, rs, rh, q, fun c H1 ⟨Z1, m1, rh1, q1⟩ => ?_⟩
  cases c with
  | true => exact iteT ⟨s, Z1, Q', rs.mono m1, rh1, q1, fun v H' h => kk v H' (h.tm m1)⟩
  | false => exact iteF ⟨s, Z1, Q', rs.mono m1, rh1, q1, fun v H' h => kk v H' (h.tm m1)⟩
end
end
end Zy
set_option Elab.async false
set_option linter.all false
set_option maxRecDepth 100000
set_option maxHeartbeats 4000000
namespace Zy
open PySem L2 PySem.Spec PyProof.Rows

/-! ### tables -/
section
variable {κ δ : Type} [DecidableEq κ]
def look (kvs : List (κ × δ)) (k : κ) : Option δ := (kvs.find? fun kv => decide (kv.1 = k)).map (·.2)
def ins (kvs : List (κ × δ)) (k : κ) (v : δ) : List (κ × δ) :=
  if (kvs.any fun kv => decide (kv.1 = k)) = true then kvs.map (fun kv => if kv.1 = k then (kv.1, v) else kv) else kvs ++ [(k, v)]
def del (kvs : List (κ × δ)) (k : κ) : List (κ × δ) := kvs.filter fun kv => decide (kv.1 ≠ k)
end
section
variable {κ κ' : Type} [DecidableEq κ] [DecidableEq κ'] {R : D → V → Prop} {f : κ → κ'} (fi : ∀ a b, f a = f b → a = b)
abbrev PX (R : D → V → Prop) (f : κ → κ') : κ × D → κ' × V → Prop := fun p q => q.1 = f p.1 ∧ R p.2 q.2
def RO2 (R : D → V → Prop) : Option D → Option V → Prop
  | some d, some v => R d v
  | none, none => True
  | _, _ => False
theorem px_look (fi : ∀ a b, f a = f b → a = b) (k : κ) : ∀ {l : List (κ × D)} {m : List (κ' × V)}, Paired (PX R f) l m → RO2 R (look l k) (valV m (f k))
  | _, _, .nil => True.intro
  | p :: l, q :: m, .cons h t => by
    by_cases e : p.1 = k
    · have e' : q.1 = f k := by rw [h.1, e]
      simp only [look, List.find?_cons, e, decide_true, Option.map_some]
      rw [valV_pos e']; exact h.2
    · have e' : ¬ q.1 = f k := fun z => e (fi _ _ (h.1.symm.trans z))
      have ih := px_look fi k t
      simp only [look, List.find?_cons, e, decide_false] at ih ⊢
      rw [valV_neg e']; exact ih
theorem px_any (fi : ∀ a b, f a = f b → a = b) (k : κ) : ∀ {l : List (κ × D)} {m : List (κ' × V)}, Paired (PX R f) l m → (m.any fun kv => decide (kv.1 = f k)) = l.any fun kv => decide (kv.1 = k)
  | _, _, .nil => rfl
  | p :: l, q :: m, .cons h t => by
    rw [List.any_cons, List.any_cons, px_any fi k t]
    have : decide (q.1 = f k) = decide (p.1 = k) := by
      rw [h.1]
      by_cases e : p.1 = k
      · simp [e]
      · have : ¬ f p.1 = f k := fun z => e (fi _ _ z)
        simp [e, this]
    rw [this]
theorem px_repl (fi : ∀ a b, f a = f b → a = b) (k : κ) {d : D} {v : V} (r : R d v) : ∀ {l : List (κ × D)} {m : List (κ' × V)}, Paired (PX R f) l m →
    Paired (PX R f) (l.map fun kv => if kv.1 = k then (kv.1, d) else kv) (m.map fun kv => if kv.1 = f k then (kv.1, v) else kv)
  | _, _, .nil => .nil
  | p :: l, q :: m, .cons h t => by
    rw [List.map_cons, List.map_cons]
    refine .cons ?_ (px_repl fi k r t)
    by_cases e : p.1 = k
    · have e' : q.1 = f k := by rw [h.1, e]
      rw [if_pos e, if_pos e']; exact ⟨h.1, r⟩
    · have e' : ¬ q.1 = f k := fun z => e (fi _ _ (h.1.symm.trans z))
      rw [if_neg e, if_neg e']; exact h
theorem px_snoc {p : κ × D} {q : κ' × V} (h : PX R f p q) : ∀ {l : List (κ × D)} {m : List (κ' × V)}, Paired (PX R f) l m → Paired (PX R f) (l ++ [p]) (m ++ [q])
  | _, _, .nil => .cons h .nil
  | _, _, .cons a t => .cons a (px_snoc h t)
theorem px_ins (fi : ∀ a b, f a = f b → a = b) (k : κ) {d : D} {v : V} (r : R d v) {l : List (κ × D)} {m : List (κ' × V)} (h : Paired (PX R f) l m) : Paired (PX R f) (ins l k d) (putK m (f k) v) := by
  unfold ins putK
  rw [px_any fi k h]
  by_cases e : (l.any fun kv => decide (kv.1 = k)) = true
  · rw [if_pos e, if_pos e]; exact px_repl fi k r h
  · rw [if_neg e, if_neg e]; exact px_snoc (p := (k, d)) (q := (f k, v)) ⟨rfl, r⟩ h
theorem px_del (fi : ∀ a b, f a = f b → a = b) (k : κ) : ∀ {l : List (κ × D)} {m : List (κ' × V)}, Paired (PX R f) l m → Paired (PX R f) (del l k) (dropK m (f k))
  | _, _, .nil => .nil
  | p :: l, q :: m, .cons h t => by
    have ih := px_del fi k t
    unfold del dropK at ih ⊢
    by_cases e : p.1 = k
    · have e' : q.1 = f k := by rw [h.1, e]
      rw [List.filter_cons_of_neg (by simp [e]), List.filter_cons_of_neg (by simp [e'])]; exact ih
    · have e' : ¬ q.1 = f k := fun z => e (fi _ _ (h.1.symm.trans z))
      rw [List.filter_cons_of_pos (by simp [e]), List.filter_cons_of_pos (by simp [e'])]; exact .cons h ih
end
theorem paired_len {α β : Type} {F : α → β → Prop} : ∀ {l : List α} {m : List β}, Paired F l m → l.length = m.length
  | _, _, .nil => rfl
  | _, _, .cons _ t => by rw [List.length_cons, List.length_cons, paired_len t]
theorem inl_inj (a b : Int) (h : (Sum.inl a : Key) = Sum.inl b) : a = b := Sum.inl.inj h
theorem inls_inj : ∀ (a b : List Int), a.map (Sum.inl : Int → Key) = b.map Sum.inl → a = b
  | [], [], _ => rfl
  | [], _ :: _, h => by simp at h
  | _ :: _, [], h => by simp at h
  | x :: a, y :: b, h => by
    simp only [List.map_cons, List.cons.injEq] at h
    rw [inl_inj _ _ h.1, inls_inj a b h.2]
theorem kvs_of (r : List Int) : (r.map (Sum.inl : Int → Key)).map kV = r.map V.int := by
  rw [List.map_map]; rfl

/-- the ints of a tuple -/
def ints? : List D → Option (List Int)
  | [] => some []
  | .int i :: r => match ints? r with | some l => some (i :: l) | none => none
  | _ :: _ => none
@[simp] theorem ints_map (r : List Int) : ints? (r.map D.int) = some r := by
  induction r with
  | nil => rfl
  | cons i r ih => simp [ints?, ih]
theorem ints_eq : ∀ {ds : List D} {r : List Int}, ints? ds = some r → ds = r.map D.int
  | [], r, h => by cases h; rfl
  | .int i :: ds, r, h => by
    unfold ints? at h
    cases e : ints? ds with
    | none => rw [e] at h; cases h
    | some l => rw [e] at h; cases h; rw [List.map_cons, ints_eq e]
  | .non :: _, _, h => by cases h
  | .bl _ :: _, _, h => by cases h
  | .str _ :: _, _, h => by cases h
  | .ref _ :: _, _, h => by cases h
  | .ty _ :: _, _, h => by cases h
  | .tup _ :: _, _, h => by cases h
  | .scr _ :: _, _, h => by cases h

theorem up_lst {K : PySem.W.Frag} {H : Hp} {Z : ZH} {Q : WP} {p : Addr} {xs : List D} {vs : List V} (rh : RH K H Z) (hp : H p = none) (r : RDs K H xs vs) (q : Q (.ref p) (set Z p (.lst xs))) : upE K H Q (.ref p) (upd H p (.lst vs)) :=
  ⟨_, _, TM.new hp, .ref p, rh.new hp (show RO K _ p (.lst xs) from ⟨_, upd_same, r.mono (TM.new hp)⟩), q⟩
theorem up_tup {K : PySem.W.Frag} {H : Hp} {Z : ZH} {Q : WP} {p : Addr} {xs : List D} {vs : List V} (rh : RH K H Z) (hp : H p = none) (r : RDs K H xs vs) (q : Q (.tup xs) Z) : upE K H Q (.ref p) (upd H p (.tup vs)) :=
  ⟨_, _, TM.new hp, .tup upd_same (r.mono (TM.new hp)), rh.laid hp, q⟩
theorem up_dT {K : PySem.W.Frag} {H : Hp} {Z : ZH} {Q : WP} {p : Addr} {xs : List (List Int × D)} {vs : List (List Key × V)} (rh : RH K H Z) (hp : H p = none) (r : Paired (PT1 K H) xs vs) (q : Q (.ref p) (set Z p (.dT xs))) : upE K H Q (.ref p) (upd H p (.dT vs)) :=
  ⟨_, _, TM.new hp, .ref p, rh.new hp (show RO K _ p (.dT xs) from ⟨_, upd_same, pair_mono (fun _ _ => PT1.mono (TM.new hp)) r⟩), q⟩
theorem up_dK {K : PySem.W.Frag} {H : Hp} {Z : ZH} {Q : WP} {p : Addr} {xs : List (Int × D)} {vs : List (Key × V)} (rh : RH K H Z) (hp : H p = none) (r : Paired (PK1 K H) xs vs) (q : Q (.ref p) (set Z p (.dK xs))) : upE K H Q (.ref p) (upd H p (.dK vs)) :=
  ⟨_, _, TM.new hp, .ref p, rh.new hp (show RO K _ p (.dK xs) from ⟨_, upd_same, pair_mono (fun _ _ => PK1.mono (TM.new hp)) r⟩), q⟩
theorem RDs.nil_iff {K : PySem.W.Frag} {H : Hp} {ds : List D} {vs : List V} (r : RDs K H ds vs) : vs = [] ↔ ds = [] := by
  cases r <;> simp

/-! ### arithmetic -/
section
variable {X : Cx}
def bAdd : R2z := fun x y H Q => match x, y with
  | .int i, .int j => Q (.int (i + j)) H
  | .tup a, .tup b => a.length + b.length ≤ sizeLine ∧ Q (.tup (a ++ b)) H
  | .ref a, .ref b => (match H a, H b with
    | some (.lst xs), some (.lst ys) => xs.length + ys.length ≤ sizeLine ∧ ∀ p, H p = none → Q (.ref p) (set H p (.lst (xs ++ ys)))
    | _, _ => False)
  | _, _ => False
def addR1 (K : PySem.W.Frag) : R2 := fun x y H Q => (rI0 fun i j => .int (i + j)) x y H Q ∨ rCatA K x y H Q ∨ rCat x y H Q
theorem OpR_or {f : Value → Value → Sem Value} {r r' : R2} (h : OpR X f r) (h' : OpR X f r') : OpR X f (fun x y H Q => r x y H Q ∨ r' x y H Q) := fun p s σ H x y v u Q I rx ry q => by
  rcases q with q | q
  · exact h p s σ H x y v u Q I rx ry q
  · exact h' p s σ H x y v u Q I rx ry q
theorem op_catA0 : OpR X (binaryOp .Add) (rCatA X.K) := op_catA
theorem oz_add : OpZ X (binaryOp .Add) bAdd := opz (OpR_or op_add (OpR_or op_catA op_cat)) fun H Z x y v u Q rx ry rh q => by
  cases rx with
  | int i =>
    cases ry with
    | int j => exact .inl ⟨i, j, rfl, rfl, up_same (.int _) rh q⟩
    | _ => exact q.elim
  | @tup a ds vs ha rs =>
    cases ry with
    | @tup b es us hb ss =>
      obtain ⟨hl, q⟩ := q
      refine .inr (.inl ⟨a, b, vs, us, rfl, rfl, .of ha, .of hb, by rw [← rs.length, ← ss.length]; exact hl, ?_⟩)
      refine ⟨fun e => ?_, fun e1 e2 => ?_, fun e1 e2 p hp => up_tup rh hp (rs.append ss) q⟩
      · have := rs.nil_iff.mp e
        subst this
        exact up_same (.tup hb ss) rh q
      · have := ss.nil_iff.mp e2
        subst this
        rw [List.append_nil] at q
        exact up_same (.tup ha rs) rh q
    | _ => exact q.elim
  | ref a =>
    cases ry with
    | ref b =>
      have q' : (match Z a, Z b with
        | some (.lst xs), some (.lst ys) => xs.length + ys.length ≤ sizeLine ∧ ∀ p, Z p = none → Q (.ref p) (set Z p (.lst (xs ++ ys)))
        | _, _ => False) := q
      split at q'
      · rename_i xs ys ea eb
        obtain ⟨vs, h1, r1⟩ := rh a _ ea
        obtain ⟨us, h2, r2⟩ := rh b _ eb
        refine .inr (.inr ⟨a, b, vs, us, rfl, rfl, h1, h2, by rw [← r1.length, ← r2.length]; exact q'.1, fun p hp => up_lst rh hp (r1.append r2) (q'.2 p (rh.fresh hp))⟩)
      · exact q'.elim
    | _ => exact q.elim
  | _ => exact q.elim
def bSub : R2z := fun x y H Q => match x, y with | .int i, .int j => Q (.int (i - j)) H | _, _ => False
theorem oz_sub : OpZ X (binaryOp .Sub) bSub := opz op_sub fun H Z x y v u Q rx ry rh q => by
  cases rx with
  | int i => cases ry with
    | int j => exact ⟨i, j, rfl, rfl, up_same (.int _) rh q⟩
    | _ => exact q.elim
  | _ => exact q.elim
/-- // and % by positive ints -/
def bDiv : R2z := fun x y H Q => match x, y with | .int i, .int j => 0 < j ∧ j < 1073741824 ∧ Q (.int (i / j)) H | _, _ => False
theorem oz_div : OpZ X (binaryOp .FloorDiv) bDiv := opz op_fdiv fun H Z x y v u Q rx ry rh q => by
  cases rx with
  | int i => cases ry with
    | int j => exact ⟨i, j, rfl, rfl, ⟨q.1, q.2.1⟩, up_same (.int _) rh q.2.2⟩
    | _ => exact q.elim
  | _ => exact q.elim
def bMod : R2z := fun x y H Q => match x, y with | .int i, .int j => 0 < j ∧ Q (.int (i % j)) H | _, _ => False
theorem oz_mod : OpZ X (binaryOp .Mod) bMod := opz op_mod fun H Z x y v u Q rx ry rh q => by
  cases rx with
  | int i => cases ry with
    | int j => exact ⟨i, j, rfl, rfl, q.1, up_same (.int _) rh q.2⟩
    | _ => exact q.elim
  | _ => exact q.elim
def bPow : R2z := fun x y H Q => match x, y with | .int i, .int j => 0 ≤ j ∧ (Builtin.Int.intBits i : Int) * j ≤ 2 ^ 27 ∧ Q (.int (i ^ j.toNat)) H | _, _ => False
theorem op_powW : OpR X (binaryOp .Pow) (rI (fun i j => 0 ≤ j ∧ (Builtin.Int.intBits i : Int) * j ≤ 2 ^ 27) fun i j => .int (i ^ j.toNat)) := opI fun _ _ _ _ _ _ _ hc q => pow_int hc.1 hc.2 q
theorem oz_pow : OpZ X (binaryOp .Pow) bPow := opz op_powW fun H Z x y v u Q rx ry rh q => by
  cases rx with
  | int i => cases ry with
    | int j => exact ⟨i, j, rfl, rfl, ⟨q.1, q.2.1⟩, up_same (.int _) rh q.2.2⟩
    | _ => exact q.elim
  | _ => exact q.elim
theorem op_mulK : OpR X (binaryOp .Mult) (rI IntMulOk fun i j => .int (i * j)) := opI fun _ _ _ _ _ _ _ hc q => mul_int q hc
def bMulI : R2z := fun x y H Q => match x, y with | .int i, .int j => IntMulOk i j ∧ Q (.int (i * j)) H | _, _ => False
theorem oz_mulI : OpZ X (binaryOp .Mult) bMulI := opz op_mulK fun H Z x y v u Q rx ry rh q => by
  cases rx with
  | int i => cases ry with
    | int j => exact ⟨i, j, rfl, rfl, q.1, up_same (.int _) rh q.2⟩
    | _ => exact q.elim
  | _ => exact q.elim
/-! ### comparisons of scalars -/
def scalD : D → D → Bool
  | .non, .non => true | .non, .int _ => true | .int _, .non => true | .non, .bl _ => true | .bl _, .non => true | .non, .str _ => true | .str _, .non => true
  | .int _, .int _ => true | .bl _, .bl _ => true | .str _, .str _ => true
  | .int _, .str _ => true | .str _, .int _ => true | .bl _, .str _ => true | .str _, .bl _ => true
  | _, _ => false
def eqD : D → D → Bool
  | .non, .non => true
  | .int i, .int j => decide (i = j) | .bl i, .bl j => decide (i = j) | .str i, .str j => decide (i = j)
  | _, _ => false
theorem scal_eq {K : PySem.W.Frag} {H : Hp} {x y : D} {v u : V} (rx : RD K H x v) (ry : RD K H y u) (h : scalD x y = true) : scal v u = true ∧ decide (v = u) = eqD x y := by
  cases rx <;> cases ry <;> first | (cases h; done) | (refine ⟨rfl, ?_⟩; simp [eqD])
def bEq : R2z := fun x y H Q => scalD x y = true ∧ Q (.bl (eqD x y)) H
def bNe : R2z := fun x y H Q => scalD x y = true ∧ Q (.bl (!eqD x y)) H
theorem oz_eq : OpZ X (compareOp .Eq) bEq := opz op_eq fun H Z x y v u Q rx ry rh q => by
  obtain ⟨h1, h2⟩ := scal_eq rx ry q.1
  exact ⟨h1, up_same (by rw [h2]; exact .bl _) rh q.2⟩
theorem oz_ne : OpZ X (compareOp .NotEq) bNe := opz op_ne fun H Z x y v u Q rx ry rh q => by
  obtain ⟨h1, h2⟩ := scal_eq rx ry q.1
  exact ⟨h1, up_same (by rw [h2]; exact .bl _) rh q.2⟩
def bCmp (p : Int → Int → Bool) : R2z := fun x y H Q => match x, y with | .int i, .int j => Q (.bl (p i j)) H | _, _ => False
theorem cmp_k {p : Int → Int → Bool} {H : Hp} {Z : ZH} {x y : D} {v u : V} {Q : WP} (rx : RD X.K H x v) (ry : RD X.K H y u) (rh : RH X.K H Z) (q : bCmp p x y Z Q) : (rI0 fun i j => .bl (p i j)) v u H (upE X.K H Q) := by
  cases rx with
  | int i => cases ry with
    | int j => exact ⟨i, j, rfl, rfl, up_same (.bl _) rh q⟩
    | _ => exact q.elim
  | _ => exact q.elim
abbrev bLt := bCmp fun i j => decide (i < j)
abbrev bLe := bCmp fun i j => decide (i ≤ j)
abbrev bGt := bCmp fun i j => decide (j < i)
abbrev bGe := bCmp fun i j => decide (j ≤ i)
theorem oz_lt : OpZ X (compareOp .Lt) bLt := opz op_lt fun _ _ _ _ _ _ _ rx ry rh q => cmp_k rx ry rh q
theorem oz_le : OpZ X (compareOp .LtE) bLe := opz op_le fun _ _ _ _ _ _ _ rx ry rh q => cmp_k rx ry rh q
theorem oz_gt : OpZ X (compareOp .Gt) bGt := opz op_gt fun _ _ _ _ _ _ _ rx ry rh q => cmp_k rx ry rh q
theorem oz_ge : OpZ X (compareOp .GtE) bGe := opz op_ge fun _ _ _ _ _ _ _ rx ry rh q => cmp_k rx ry rh q
/-- rows -/
def bLtT : R2z := fun x y H Q => match x, y with
  | .tup a, .tup b => (match ints? a, ints? b with | some r, some s => Q (.bl (HT.lexLt r s)) H | _, _ => False)
  | _, _ => False
theorem oz_ltT (hu : X.A.units < cLine) : OpZ X (compareOp .Lt) bLtT := opz (op_ltT hu) fun H Z x y v u Q rx ry rh q => by
  cases rx with
  | tup ha ra => cases ry with
    | tup hb rb =>
      unfold bLtT at q
      dsimp only at q
      split at q
      · rename_i r s e1 e2
        have e1 := ints_eq e1
        have e2 := ints_eq e2
        subst e1 e2
        have f1 := RDs.ints_inv ra
        have f2 := RDs.ints_inv rb
        subst f1 f2
        exact ⟨_, _, r, s, rfl, rfl, .of ha, .of hb, up_same (.bl _) rh q⟩
      · exact q.elim
    | _ => exact q.elim
  | _ => exact q.elim
/-- is None, is not None -/
def isN : D → Bool
  | .non => true
  | _ => false
def zIsN (t : TEz) : TEz := fun s H Q => t s H fun x H1 => Q (.bl (isN x)) H1
def zNotN (t : TEz) : TEz := fun s H Q => t s H fun x H1 => Q (.bl (!isN x)) H1
theorem isN_eq {K : PySem.W.Frag} {H : Hp} {x : D} {v : V} (r : RD K H x v) : decide (v = .non) = isN x := by cases r <;> simp [isN]
section
variable {a : Expr} {ta : TEz} {pos pos' : Pos} {j : Option String}
theorem dn_isN {K : PySem.W.Frag} {σ : L2.St} {H : Hp} {Q : VK} (h : dnE K (zIsN ta) σ H Q) : tIsN (dnE K ta) σ H Q := by
  obtain ⟨s, Z, Q', rs, rh, q, kk⟩ := h
  refine ⟨s, Z, _, rs, rh, q, fun v H1 ⟨d, Z1, m1, rd, rh1, q1⟩ => kk _ _ ⟨_, Z1, m1, ?_, rh1, q1⟩⟩
  rw [isN_eq rd]; exact .bl _
theorem dn_notN {K : PySem.W.Frag} {σ : L2.St} {H : Hp} {Q : VK} (h : dnE K (zNotN ta) σ H Q) : tNotN (dnE K ta) σ H Q := by
  obtain ⟨s, Z, Q', rs, rh, q, kk⟩ := h
  refine ⟨s, Z, _, rs, rh, q, fun v H1 ⟨d, Z1, m1, rd, rh1, q1⟩ => kk _ _ ⟨_, Z1, m1, ?_, rh1, q1⟩⟩
  rw [isN_eq rd]; exact .bl _
end
end
end Zy
set_option Elab.async false
set_option linter.all false
set_option maxRecDepth 100000
set_option maxHeartbeats 4000000
namespace Zy
open PySem L2 PySem.Spec PyProof.Rows
section
variable {X : Cx} {a b c e o : Expr} {es : List Expr} {ta tb tc te : TEz} {pos pos' : Pos}
theorem ze_isN {j} (ha : ZE X a ta) : ZE X (.Compare a [.Is] [.Constant .none j pos'] pos) (zIsN ta) := (pe_cmp (pc_isN ha)).zimp fun _ _ _ => dn_isN
theorem ze_notN {j} (ha : ZE X a ta) : ZE X (.Compare a [.IsNot] [.Constant .none j pos'] pos) (zNotN ta) := (pe_cmp (pc_notN ha)).zimp fun _ _ _ => dn_notN
theorem zt_isN {j} (ha : ZE X a ta) : ZT X (.Compare a [.Is] [.Constant .none j pos'] pos) (zTest (zIsN ta)) := (pt_cmp (pc_isN ha)).zimp fun _ _ _ h => test (fun _ _ _ => dn_isN) h
theorem zt_notN {j} (ha : ZE X a ta) : ZT X (.Compare a [.IsNot] [.Constant .none j pos'] pos) (zTest (zNotN ta)) := (pt_cmp (pc_notN ha)).zimp fun _ _ _ h => test (fun _ _ _ => dn_notN) h
/-- a op b op' c -/
def zChain (r r' : R2z) (ta tb tc : TEz) : TEz := fun s H Q => ta s H fun x H1 => tb s H1 fun y H2 => r x y H2 fun z H3 => match z with | .bl true => tc s H3 fun w H4 => r' y w H4 Q | .bl false => Q (.bl false) H3 | _ => False
theorem dn_chain {K : PySem.W.Frag} {r r' : R2z} {σ : L2.St} {H : Hp} {Q : VK} (h : dnE K (zChain r r' ta tb tc) σ H Q) : tChain (dnR K r) (dnR K r') (dnE K ta) (dnE K tb) (dnE K tc) σ H Q := by
  obtain ⟨s, Z, Q', rs, rh, q, kk⟩ := h
  refine ⟨s, Z, _, rs, rh, q, fun v H1 ⟨d, Z1, m1, rd, rh1, q1⟩ => ?_⟩
  refine ⟨s, Z1, _, rs.mono m1, rh1, q1, fun u H2 ⟨e, Z2, m2, re, rh2, q2⟩ => ?_⟩
  refine ⟨d, e, Z2, _, rd.mono m2, re, rh2, q2, fun w H3 ⟨z, Z3, m3, rz, rh3, q3⟩ => ?_⟩
  have m := (m1.trans m2).trans m3
  cases rz with
  | bl k =>
    refine ⟨k, rfl, ?_⟩
    cases k with
    | true =>
      refine iteT ⟨s, Z3, _, rs.mono m, rh3, q3, fun w' H4 ⟨z', Z4, m4, rz', rh4, q4⟩ => ?_⟩
      exact ⟨e, z', Z4, Q', re.mono (m3.trans m4), rz', rh4, q4, fun w H' hw => kk w H' (hw.tm (m.trans m4))⟩
    | false => exact iteF (kk _ _ ⟨_, Z3, m, .bl _, rh3, q3⟩)
  | _ => exact q3.elim
theorem ze_chain {op op' : CmpOp} {r r' : R2z} (ho : OpZ X (compareOp op) r) (ho' : OpZ X (compareOp op') r') (ha : ZE X a ta) (hb : ZE X b tb) (hc : ZE X c tc)
    (hm : lastMarks [op, op'] [b, c] = false := by with_unfolding_all rfl) : ZE X (.Compare a [op, op'] [b, c] pos) (zChain r r' ta tb tc) := (pe_chain ho ho' ha hb hc hm).zimp fun _ _ _ => dn_chain
theorem zt_chain {op op' : CmpOp} {r r' : R2z} (ho : OpZ X (compareOp op) r) (ho' : OpZ X (compareOp op') r') (ha : ZE X a ta) (hb : ZE X b tb) (hc : ZE X c tc)
    (hm : lastMarks [op, op'] [b, c] = false := by with_unfolding_all rfl) : ZT X (.Compare a [op, op'] [b, c] pos) (zTest (zChain r r' ta tb tc)) := (pt_chain ho ho' ha hb hc hm).zimp fun _ _ _ h => test (fun _ _ _ => dn_chain) h

/-! ### arguments, displays -/
def zNil : TAz := fun _ H Q => Q [] H
def zCons (t : TEz) (u : TAz) : TAz := fun s H Q => t s H fun x H1 => u s H1 fun xs H2 => Q (x :: xs) H2
variable {ua : TAz}
theorem za_nil : ZA X [] zNil := pa_nil.zimp fun σ H Q ⟨s, Z, Q', rs, rh, q, kk⟩ => kk _ _ ⟨[], Z, TM.refl H, .nil, rh, q⟩
theorem za_cons (ha : ZE X e te) (hr : ZA X es ua) (hs : starEach (e :: es) X.env = (false, eval e X.env) :: starEach es X.env := by rfl) : ZA X (e :: es) (zCons te ua) := (pa_cons ha hr hs).zimp fun σ H Q ⟨s, Z, Q', rs, rh, q, kk⟩ => by
  refine ⟨s, Z, _, rs, rh, q, fun v H1 ⟨d, Z1, m1, rd, rh1, q1⟩ => ?_⟩
  exact ⟨s, Z1, _, rs.mono m1, rh1, q1, fun vs H2 ⟨ds, Z2, m2, re, rh2, q2⟩ => kk _ _ ⟨d :: ds, Z2, m1.trans m2, .cons (rd.mono m2) re, rh2, q2⟩⟩
def few (xs : List D) : Prop := Nat.ble xs.length 1000 = true
theorem few_le {xs : List D} (h : few xs) : xs.length ≤ sizeLine := Nat.le_trans (Nat.le_of_ble_eq_true h) (by rw [sizeLine_eq]; decide)
def zTup (t : TAz) : TEz := fun s H Q => t s H fun xs H1 => few xs ∧ Q (.tup xs) H1
def zLst (t : TAz) : TEz := fun s H Q => t s H fun xs H1 => few xs ∧ ∀ p, H1 p = none → Q (.ref p) (set H1 p (.lst xs))
theorem ze_tup {x1} (h : ZA X es ua) : ZE X (.Tuple es x1 pos) (zTup ua) := (pe_tup h).zimp fun σ H Q ⟨s, Z, Q', rs, rh, q, kk⟩ => by
  refine ⟨s, Z, _, rs, rh, q, fun vs H1 ⟨ds, Z1, m1, rd, rh1, q1⟩ => ⟨by rw [← rd.length]; exact few_le q1.1, fun p hp => kk _ _ ((up_tup rh1 hp rd q1.2).tm m1)⟩⟩
theorem ze_lst (h : ZA X es ua) : ZE X (.List es pos) (zLst ua) := (pe_lst h).zimp fun σ H Q ⟨s, Z, Q', rs, rh, q, kk⟩ => by
  refine ⟨s, Z, _, rs, rh, q, fun vs H1 ⟨ds, Z1, m1, rd, rh1, q1⟩ => ⟨by rw [← rd.length]; exact few_le q1.1, fun p hp => kk _ _ ((up_lst rh1 hp rd (q1.2 p (rh1.fresh hp))).tm m1)⟩⟩

/-! ### built-ins called by name -/
abbrev RCz := List D → ZH → WP → Prop
def dnC (K : PySem.W.Frag) (r : RCz) : List V → Hp → VK → Prop := fun vs H Q1 => ∃ xs Z Q, RDs K H xs vs ∧ RH K H Z ∧ r xs Z Q ∧ ∀ w H', upE K H Q w H' → Q1 w H'
abbrev CallZ (X : Cx) (f : Value) (r : RCz) : Prop := CallR X f (dnC X.K r)
theorem callz {f : Value} {r1 : List V → Hp → VK → Prop} {r : RCz} (h : CallR X f r1) (k : ∀ (H : Hp) (Z : ZH) (xs : List D) (vs : List V) (Q : WP), RDs X.K H xs vs → RH X.K H Z → r xs Z Q → r1 vs H (upE X.K H Q)) : CallZ X f r :=
  fun p s σ H vs us Q1 I rv ⟨xs, Z, Q, rx, rh, q, kk⟩ => thn (h p s σ H vs us _ I rv (k H Z xs vs Q rx rh q)) fun _ _ ⟨w, H', J, rw, qw⟩ => ⟨w, H', J, rw, kk _ _ qw⟩
theorem CallR_or {f : Value} {r r' : List V → Hp → VK → Prop} (h : CallR X f r) (h' : CallR X f r') : CallR X f (fun xs H Q => r xs H Q ∨ r' xs H Q) := fun p s σ H xs us Q I rv q => by
  rcases q with q | q
  · exact h p s σ H xs us Q I rv q
  · exact h' p s σ H xs us Q I rv q
def zCB (r : RCz) (t : TAz) : TEz := fun s H Q => t s H fun xs H1 => r xs H1 Q
theorem dn_cb {K : PySem.W.Frag} {r : RCz} {σ : L2.St} {H : Hp} {Q : VK} (h : dnE K (zCB r ua) σ H Q) : tCB (dnC K r) (dnA K ua) σ H Q := by
  obtain ⟨s, Z, Q', rs, rh, q, kk⟩ := h
  exact ⟨s, Z, _, rs, rh, q, fun vs H1 ⟨ds, Z1, m1, rd, rh1, q1⟩ => ⟨ds, Z1, Q', rd, rh1, q1, fun w H' hw => kk w H' (hw.tm m1)⟩⟩
variable {x : Str} {id : String} {r : RCz} {p : Pos}
theorem ze_callB (hc : CallZ X (.builtin id) r) (hg : Gl X x) (hm : X.mg x = none) (hv : bootBuiltins x = some (.builtin id)) (ha : ZA X (e :: es) ua) (hn : x ≠ "__name__" := by decide) (hdb : (x == ("__debug__" : Str)) = false := by decide)
    (he : starEach (e :: es) X.env = (false, eval e X.env) :: starEach es X.env := by rfl) (hpl : (backTo pos (starEach es X.env)).any (·.1) = false := by rfl) : ZE X (.Call (.Name x p) (e :: es) [] pos) (zCB r ua) :=
  (pe_callB hc hg hm hv ha hn hdb he hpl).zimp fun _ _ _ => dn_cb
theorem ze_callTy (hc : CallZ X (.type id) r) (hg : Gl X x) (hm : X.mg x = none) (hv : bootBuiltins x = some (.type id)) (ha : ZA X (e :: es) ua) (hn : x ≠ "__name__" := by decide) (hdb : (x == ("__debug__" : Str)) = false := by decide)
    (he : starEach (e :: es) X.env = (false, eval e X.env) :: starEach es X.env := by rfl) (hpl : (backTo pos (starEach es X.env)).any (·.1) = false := by rfl) : ZE X (.Call (.Name x p) (e :: es) [] pos) (zCB r ua) :=
  (pe_callTy hc hg hm hv ha hn hdb he hpl).zimp fun _ _ _ => dn_cb

/-! ### statements -/
variable {st : Stmt} {rest : List Stmt} {t u : TSz}
def zNext : TSz := fun D s H => D.nx s H
def zSeq (t u : TSz) : TSz := fun D s H => t ⟨u D, D.rt, D.bk, D.ct⟩ s H
theorem dn_ends {K : PySem.W.Frag} {H H' : Hp} {Q : Sg → ZH → Prop} {Q1 : L2.St → Hp → Prop} (m : TM H H') (k : ∀ σ' H', upS K H Q σ' H' → Q1 σ' H') : ∀ σ1 H1, upS K H' Q σ1 H1 → Q1 σ1 H1 := fun σ1 H1 h => k _ _ (h.tm m)
theorem zss_nil : ZSs X [] zNext := pss_nil.zimp fun D1 σ H ⟨s, Z, D, rs, rh, q, k1, k2, k3, k4⟩ => k1 _ _ ⟨s, Z, TM.refl H, rs, rh, q⟩
theorem zss_cons (h1 : ZS X st t) (h2 : ZSs X rest u) : ZSs X (st :: rest) (zSeq t u) := (pss_cons h1 h2).zimp fun D1 σ H ⟨s, Z, D, rs, rh, q, k1, k2, k3, k4⟩ =>
  ⟨s, Z, _, rs, rh, q, fun σ' H' ⟨s', Z', m, rs', rh', q'⟩ => ⟨s', Z', D, rs', rh', q', dn_ends m k1, fun v H' h => k2 _ _ (h.tm m), dn_ends m k3, dn_ends m k4⟩, k2, k3, k4⟩
theorem zss_one (h1 : ZS X st t) : ZSs X [st] t := pss_one h1
/-- a block by its name -/
theorem zss_eq {t' : TSz} (h : ZSs X rest t) (e : t' = t) : ZSs X rest t' := e ▸ h
def zBreak : TSz := fun D s H => D.bk s H
def zCont : TSz := fun D s H => D.ct s H
theorem zs_pass : ZS X (.Pass pos) zNext := ps_pass.zimp fun D1 σ H ⟨s, Z, D, rs, rh, q, k1, k2, k3, k4⟩ => k1 _ _ ⟨s, Z, TM.refl H, rs, rh, q⟩
theorem zs_break : ZS X (.Break pos) zBreak := ps_break.zimp fun D1 σ H ⟨s, Z, D, rs, rh, q, k1, k2, k3, k4⟩ => k3 _ _ ⟨s, Z, TM.refl H, rs, rh, q⟩
theorem zs_cont : ZS X (.Continue pos) zCont := ps_continue.zimp fun D1 σ H ⟨s, Z, D, rs, rh, q, k1, k2, k3, k4⟩ => k4 _ _ ⟨s, Z, TM.refl H, rs, rh, q⟩
def zDrop (te : TEz) : TSz := fun D s H => te s H fun _ H1 => D.nx s H1
theorem zs_expr (he : ZE X e te) (hs : swapsWith e none pos.line X.env = pure false := by rfl) : ZS X (.Expr e pos) (zDrop te) := (ps_expr he hs).zimp fun D1 σ H ⟨s, Z, D, rs, rh, q, k1, k2, k3, k4⟩ =>
  ⟨s, Z, _, rs, rh, q, fun v H1 ⟨d, Z1, m1, rd, rh1, q1⟩ => k1 _ _ ⟨s, Z1, m1, rs.mono m1, rh1, q1⟩⟩
def zRet (te : TEz) : TSz := fun D s H => te s H D.rt
theorem zs_ret (he : ZE X e te) : ZS X (.Return (some e) pos) (zRet te) := (ps_ret he).zimp fun D1 σ H ⟨s, Z, D, rs, rh, q, k1, k2, k3, k4⟩ => ⟨s, Z, _, rs, rh, q, fun v H1 h => k2 _ _ h⟩
def zRetN : TSz := fun D _ H => D.rt .non H
theorem zs_retN : ZS X (.Return none pos) zRetN := ps_retN.zimp fun D1 σ H ⟨s, Z, D, rs, rh, q, k1, k2, k3, k4⟩ => k2 _ _ ⟨.non, Z, TM.refl H, .non, rh, q⟩
def zIf (c : TTz) (t u : TSz) : TSz := fun D s H => c s H fun b H1 => match b with | true => t D s H1 | false => u D s H1
theorem zs_if {c : Expr} {as bs : List Stmt} {tc : TTz} (hc : ZT X c tc) (ha : ZSs X as t) (hb : ZSs X bs u) : ZS X (.If c as bs pos) (zIf tc t u) := (ps_if hc ha hb).zimp fun D1 σ H ⟨s, Z, D, rs, rh, q, k1, k2, k3, k4⟩ =>
  ⟨s, Z, _, rs, rh, q, fun b H1 ⟨Z1, m, rh1, q1⟩ => by
    cases b with
    | true => exact iteT ⟨s, Z1, D, rs.mono m, rh1, q1, dn_ends m k1, fun v H' h => k2 _ _ (h.tm m), dn_ends m k3, dn_ends m k4⟩
    | false => exact iteF ⟨s, Z1, D, rs.mono m, rh1, q1, dn_ends m k1, fun v H' h => k2 _ _ (h.tm m), dn_ends m k3, dn_ends m k4⟩⟩
/-! ### targets -/
def zgName (i : Nat) : TGz := fun d s H Q => Q (put s i (some d)) H
theorem zg_name {i : Nat} (hN : X.N.Nodup) (hi : X.N[i]? = some x) (hx : Loc X.env.scope x) (hf : X.fn x = true ∨ X.env.scope.names.lookup x = some .local := by first | exact .inl rfl | exact .inr rfl | assumption) : ZG X (.Name x pos) (zgName i) :=
  (pg_name hN hi hx hf).zimp fun v σ H Q1 ⟨d, s, Z, Q, rd, rs, rh, q, kk⟩ => kk _ _ ⟨_, Z, TM.refl H, rs.put rd i, rh, q⟩
def zgNil : TGsz := fun ds s H Q => match ds with | [] => Q s H | _ => False
def zgCons (t : TGz) (u : TGsz) : TGsz := fun ds s H Q => match ds with | d :: r => t d s H fun s' H' => u r s' H' Q | [] => False
theorem zgs_nil : ZGs X [] zgNil := pgs_nil.zimp fun vs σ H Q1 ⟨ds, s, Z, Q, rd, rs, rh, q, kk⟩ => by
  cases rd with
  | nil => exact ⟨rfl, kk _ _ ⟨s, Z, TM.refl H, rs, rh, q⟩⟩
  | cons h r => exact q.elim
theorem zgs_cons {tg : TGz} {ug : TGsz} (h1 : ZG X e tg) (h2 : ZGs X es ug) (hs : (assignEach (e :: es) X.env).map (·.2) = assign e X.env :: (assignEach es X.env).map (·.2) := by rfl) : ZGs X (e :: es) (zgCons tg ug) :=
  (pgs_cons h1 h2 hs).zimp fun vs σ H Q1 ⟨ds, s, Z, Q, rd, rs, rh, q, kk⟩ => by
  cases rd with
  | nil => exact q.elim
  | @cons d v ds vs h r =>
    refine ⟨v, vs, rfl, d, s, Z, _, h, rs, rh, q, fun σ' H' ⟨s', Z', m, rs', rh', q'⟩ => ?_⟩
    exact ⟨ds, s', Z', Q, r.mono m, rs', rh', q', fun σ2 H2 h2 => kk _ _ (h2.tm m)⟩
def zgTup (n : Nat) (u : TGsz) : TGz := fun d s H Q => match d with | .tup ds => ds.length = n ∧ u ds s H Q | _ => False
theorem zg_tup {k : Nat} {ug : TGsz} {n : Nat} (hc : X.calm = true) (h : ZGs X es ug) (hn : (assignEach es X.env).length = n := by rfl) (hst : (assignEach es X.env).findIdx? (·.1) = none := by rfl) : ZG X (.Tuple es k pos) (zgTup n ug) :=
  (pg_tup hc h hn hst).zimp fun v σ H Q1 ⟨d, s, Z, Q, rd, rs, rh, q, kk⟩ => by
  cases rd with
  | @tup a ds vs ha r => exact ⟨a, vs, rfl, .of ha, by rw [← r.length]; exact q.1, ds, s, Z, Q, r, rs, rh, q.2, kk⟩
  | _ => exact q.elim
def zAsg (te : TEz) (g : TGz) : TSz := fun D s H => te s H fun x H1 => g x s H1 D.nx
theorem dn_asg {K : PySem.W.Frag} {g : TGz} {D1 : Ends} {σ : L2.St} {H : Hp} (h : dnS K (zAsg te g) D1 σ H) : tAsg (dnE K te) (dnG K g) D1 σ H := by
  obtain ⟨s, Z, D, rs, rh, q, k1, k2, k3, k4⟩ := h
  exact ⟨s, Z, _, rs, rh, q, fun v H1 ⟨d, Z1, m1, rd, rh1, q1⟩ => ⟨d, s, Z1, D.nx, rd, rs.mono m1, rh1, q1, dn_ends m1 k1⟩⟩
theorem zs_asg {tg : Expr} {g : TGz} (he : ZE X e te) (hg : ZG X tg g) (hs : swapsWithSole [tg] e pos.line X.env = pure false := by rfl) (hw : swappedStores [tg] e X.env = pure none := by rfl)
    (h1 : (assignEach [tg] X.env).map (·.2) = [assign tg X.env] := by rfl) : ZS X (.Assign [tg] e pos) (zAsg te g) := (ps_asg he hg hs hw h1).zimp fun _ _ _ => dn_asg
theorem zs_set {i : Nat} {pos' : Pos} (hN : X.N.Nodup) (hi : X.N[i]? = some x) (hx : Loc X.env.scope x) (he : ZE X e te) (hs : swapsWith e (some (.Name x pos')) pos.line X.env = pure false := by rfl) (hf : X.fn x = true ∨ X.env.scope.names.lookup x = some .local := by first | exact .inl rfl | exact .inr rfl | assumption) :
    ZS X (.Assign [.Name x pos'] e pos) (zAsg te (zgName i)) := (ps_set hN hi hx he hs hf).zimp fun D1 σ H h => by
  obtain ⟨s, Z, D, rs, rh, q, k1, k2, k3, k4⟩ := h
  exact ⟨s, Z, _, rs, rh, q, fun v H1 ⟨d, Z1, m1, rd, rh1, q1⟩ => k1 _ _ ⟨_, Z1, m1, (rs.mono m1).put rd i, rh1, q1⟩⟩
/-- a, b = x, y (two plain names) -/
def zPar (i j : Nat) (ua : TAz) : TSz := fun D s H => ua s H fun ds H1 => match ds with | [d, e] => D.nx (put (put s i (some d)) j (some e)) H1 | _ => False
/-- o[i] = v by values -/
abbrev TSetz := D → D → D → ZH → (ZH → Prop) → Prop
def dnPS (K : PySem.W.Frag) (r : TSetz) : TSet := fun o i v H Q1 => ∃ x y z Z Q, RD K H x o ∧ RD K H y i ∧ RD K H z v ∧ RH K H Z ∧ r x y z Z Q ∧ ∀ H' Z', TM H H' → RH K H' Z' → Q Z' → Q1 H'
abbrev SetZ (X : Cx) (r : TSetz) : Prop := PSet X (dnPS X.K r)
def zgSub (to ti : TEz) (r : TSetz) : TGz := fun d s H Q => to s H fun x H1 => ti s H1 fun y H2 => r x y d H2 fun H3 => Q s H3
theorem zg_sub {i : Expr} {to ti : TEz} {r : TSetz} (ho : ZE X o to) (hi : ZE X i ti) (hs : SetZ X r)
    (ha : ∀ v, assign (.Subscript o i pos) X.env v = (do
      let ov ← holding [v] (eval o X.env)
      let iv ← holding [v, ov] (eval i X.env)
      standAt pos
      holding [v, ov, iv] (setItem ov iv v)
      release [v, ov, iv] []) := by intro _; rfl) : ZG X (.Subscript o i pos) (zgSub to ti r) := (pg_sub ho hi hs ha).zimp fun v σ H Q1 ⟨d, s, Z, Q, rd, rs, rh, q, kk⟩ => by
  refine ⟨s, Z, _, rs, rh, q, fun v1 H1 ⟨d1, Z1, m1, rd1, rh1, q1⟩ => ?_⟩
  refine ⟨s, Z1, _, rs.mono m1, rh1, q1, fun v2 H2 ⟨d2, Z2, m2, rd2, rh2, q2⟩ => ?_⟩
  refine ⟨d1, d2, d, Z2, _, rd1.mono m2, rd2, (rd.mono m1).mono m2, rh2, q2, fun H' Z' m rh' q' => kk _ _ ⟨s, Z', (m1.trans m2).trans m, rs.mono ((m1.trans m2).trans m), rh', q'⟩⟩
end
end Zy
set_option Elab.async false
set_option linter.all false
set_option maxRecDepth 100000
set_option maxHeartbeats 4000000
namespace Zy
open PySem L2 PySem.Spec PyProof.Rows
section
variable {X : Cx} {a b c e o : Expr} {es : List Expr} {ta tb tc te : TEz} {ua : TAz} {pos pos' : Pos}
theorem scr_seq {K : PySem.W.Frag} {H : Hp} {ns : List Int} {v : V} (r : RD K H (.scr ns) v) : ∃ a, v = .ref a ∧ SqL K H a (ns.map V.int) := by
  cases r with
  | scr h => exact ⟨_, rfl, h.seq⟩

/-! ### items -/
def item (H : ZH) (x y : D) : Option D := match x, y with
  | .tup ds, .int i => atI ds i
  | .scr ns, .int i => (atI ns i).map D.int
  | .ref a, .int i => (match H a with | some (.lst xs) => atI xs i | _ => none)
  | _, _ => none
def bIx : R2z := fun x y H Q => match item H x y with | some d => Q d H | none => False
theorem RDs.at {K : PySem.W.Frag} {H : Hp} {ds : List D} {vs : List V} {i : Int} {d : D} (r : RDs K H ds vs) (h : atI ds i = some d) : ∃ v, atI vs i = some v ∧ RD K H d v := by
  unfold atI at h ⊢
  rw [← r.length]
  cases e : ixN ds.length i with
  | none => rw [e] at h; cases h
  | some j => rw [e] at h; exact r.get h
theorem atI_map {α β : Type} (f : α → β) (xs : List α) (i : Int) : atI (xs.map f) i = (atI xs i).map f := by
  unfold atI
  rw [List.length_map]
  cases ixN xs.length i with
  | none => rfl
  | some j => simp
def ixR1 (K : PySem.W.Frag) : R2 := fun x y H Q => rIxL K x y H Q ∨ rIxT K x y H Q
theorem ze_ix (ha : ZE X a ta) (hb : ZE X b tb) (hs : PlainIx b := by exact fun _ _ => rfl) : ZE X (.Subscript a b pos) (zOp bIx ta tb) :=
  (pe_ix (r := ixR1 X.K) (ix_list.or ix_tup) ha hb hs).zimp fun σ H Q1 ⟨s, Z, Q, rs, rh, q, kk⟩ => by
  refine ⟨s, Z, _, rs, rh, q, fun v H1 ⟨d, Z1, m1, rd, rh1, q1⟩ => ?_⟩
  refine ⟨s, Z1, _, rs.mono m1, rh1, q1, fun u H2 ⟨e, Z2, m2, re, rh2, q2⟩ => ?_⟩
  have fin : ∀ {w : V} {z : D}, RD X.K H2 z w → Q z Z2 → Q1 w H2 := fun {w z} rz qz => kk _ _ ⟨z, Z2, m1.trans m2, rz, rh2, qz⟩
  have rd2 := rd.mono m2
  have q5 : (match item Z2 d e with | some d => Q d Z2 | none => False) := q2
  clear q2
  cases ei : item Z2 d e with
  | none => rw [ei] at q5; exact q5.elim
  | some z =>
    rw [ei] at q5
    have q6 : Q z Z2 := q5
    cases rd2 with
    | @tup p ds vs hp r =>
      cases re with
      | int i =>
        obtain ⟨w, h1, h2⟩ := r.at (show atI ds i = some z from ei)
        exact .inr ⟨p, vs, i, w, rfl, rfl, .of hp, h1, fin h2 q6⟩
      | _ => cases ei
    | @scr p ns h =>
      cases re with
      | int i =>
        have ei' : (atI ns i).map D.int = some z := ei
        obtain ⟨n, h1, h2⟩ := Option.map_eq_some_iff.mp ei'
        subst h2
        exact .inl ⟨p, _, i, .int n, rfl, rfl, h.seq, by rw [atI_map, h1]; rfl, fin (.int n) q6⟩
      | _ => cases ei
    | ref p =>
      cases re with
      | int i =>
        have ei' : (match Z2 p with | some (.lst xs) => atI xs i | _ => none) = some z := ei
        split at ei'
        · rename_i xs hz
          obtain ⟨vs, h1, r⟩ := rh2 p _ hz
          obtain ⟨w, h3, h4⟩ := r.at ei'
          exact .inl ⟨p, vs, i, w, rfl, rfl, .of h1, h3, fin h4 q6⟩
        · cases ei'
      | _ => cases ei
    | _ => cases ei

/-! ### slices: t[a:b] of the script, of lists, of tuples -/
/-! ### len, int, min, list, tuple -/
def size (H : ZH) : D → Option Nat
  | .tup ds => some ds.length
  | .scr ns => some ns.length
  | .ref a => (match H a with | some (.lst xs) => some xs.length | _ => none)
  | _ => none
def rLenZ : RCz := fun xs H Q => match xs with | [x] => (match size H x with | some n => Q (.int n) H | none => False) | _ => False
theorem cz_len : CallZ X (.builtin "len") rLenZ := callz call_len_seq fun H Z xs vs Q rx rh q => by
  cases rx with
  | nil => exact q.elim
  | cons h r => cases r with
    | cons _ _ => exact q.elim
    | nil =>
      rename_i d v
      have q' : (match size Z d with | some n => Q (.int n) Z | none => False) := q
      cases e : size Z d with
      | none => rw [e] at q'; exact q'.elim
      | some n =>
        rw [e] at q'
        cases h with
        | @tup p ds vs hp r => cases e; exact ⟨p, vs, rfl, .inr (.of hp), by rw [← r.length]; exact up_same (.int _) rh q'⟩
        | @scr p ns h => cases e; exact ⟨p, _, rfl, .inl h.seq, by rw [List.length_map]; exact up_same (.int _) rh q'⟩
        | ref p =>
          have e' : (match Z p with | some (.lst xs) => some xs.length | _ => none) = some n := e
          split at e'
          · rename_i xs hz
            cases e'
            obtain ⟨vs, h1, r⟩ := rh p _ hz
            exact ⟨p, vs, rfl, .inl (.of h1), by rw [← r.length]; exact up_same (.int _) rh q'⟩
          · cases e'
        | _ => cases e
def rIntZ : RCz := fun xs H Q => match xs with | [.bl k] => Q (.int (if k = true then 1 else 0)) H | [.int i] => Q (.int i) H | _ => False
theorem cz_int : CallZ X (.type "int") rIntZ := callz call_int1 fun H Z xs vs Q rx rh q => by
  cases rx with
  | nil => exact q.elim
  | cons h r => cases r with
    | cons _ _ => cases h <;> exact q.elim
    | nil => cases h with
      | bl k => exact .inr ⟨k, rfl, up_same (.int _) rh q⟩
      | int i => exact .inl ⟨i, rfl, up_same (.int _) rh q⟩
      | _ => exact q.elim
def rMinZ : RCz := fun xs H Q => match xs with | [.int i, .int j] => Q (.int (if j < i then j else i)) H | _ => False
theorem cz_min (hc : X.calm = true) : CallZ X (.builtin "min") rMinZ := callz (call_min2 hc) fun H Z xs vs Q rx rh q => by
  cases rx with
  | nil => exact q.elim
  | cons h r => cases r with
    | nil => cases h <;> exact q.elim
    | cons h2 r2 => cases r2 with
      | cons _ _ => cases h <;> first | exact q.elim | (cases h2 <;> exact q.elim)
      | nil => cases h with
        | int i => cases h2 with
          | int j => exact ⟨i, j, rfl, up_same (.int _) rh q⟩
          | _ => exact q.elim
        | _ => exact q.elim
/-- the items of a list or a tuple -/
def seqZ (H : ZH) : D → Option (List D)
  | .tup ds => some ds
  | .scr ns => some (ns.map D.int)
  | .ref a => (match H a with | some (.lst xs) => some xs | _ => none)
  | _ => none
theorem seq_below {K : PySem.W.Frag} {H : Hp} {Z : ZH} {d : D} {v : V} {xs : List D} (r : RD K H d v) (rh : RH K H Z) (e : seqZ Z d = some xs) : ∃ p vs, v = .ref p ∧ (SqL K H p vs ∨ SqT K H p vs) ∧ RDs K H xs vs := by
  cases r with
  | @tup p ds vs hp r => cases e; exact ⟨p, vs, rfl, .inr (.of hp), r⟩
  | @scr p ns h => cases e; exact ⟨p, _, rfl, .inl h.seq, RDs.ints ns⟩
  | ref p =>
    have e' : (match Z p with | some (.lst xs) => some xs | _ => none) = some xs := e
    split at e'
    · rename_i ys hz
      cases e'
      obtain ⟨vs, h1, r⟩ := rh p _ hz
      exact ⟨p, vs, rfl, .inl (.of h1), r⟩
    · cases e'
  | _ => cases e
def rListZ : RCz := fun xs H Q => match xs with | [x] => (match seqZ H x with | some ys => ∀ p, H p = none → Q (.ref p) (set H p (.lst ys)) | none => False) | _ => False
theorem cz_list : CallZ X (.type "list") rListZ := callz call_list_of fun H Z xs vs Q rx rh q => by
  cases rx with
  | nil => exact q.elim
  | cons h r => cases r with
    | cons _ _ => exact q.elim
    | nil =>
      rename_i d v
      have q' : (match seqZ Z d with | some ys => ∀ p, Z p = none → Q (.ref p) (set Z p (.lst ys)) | none => False) := q
      split at q'
      · rename_i ys e
        obtain ⟨p, us, rfl, hs, r⟩ := seq_below h rh e
        exact ⟨p, us, rfl, hs, fun l hl => up_lst rh hl r (q' l (rh.fresh hl))⟩
      · exact q'.elim
def rTupZ : RCz := fun xs H Q => match xs with | [x] => (match seqZ H x with | some ys => Q (.tup ys) H | none => False) | _ => False
theorem cz_tuple : CallZ X (.type "tuple") rTupZ := callz call_tuple_of fun H Z xs vs Q rx rh q => by
  cases rx with
  | nil => exact q.elim
  | cons h r => cases r with
    | cons _ _ => exact q.elim
    | nil =>
      rename_i d v
      have q' : (match seqZ Z d with | some ys => Q (.tup ys) Z | none => False) := q
      split at q'
      · rename_i ys e
        cases h with
        | @tup p ds vs hp r => cases e; exact ⟨p, vs, rfl, .inr ⟨.of hp, up_same (.tup hp r) rh q'⟩⟩
        | @scr p ns h => cases e; exact ⟨p, _, rfl, .inl ⟨h.seq, fun l hl => up_tup rh hl (RDs.ints ns) q'⟩⟩
        | ref p =>
          have e' : (match Z p with | some (.lst xs) => some xs | _ => none) = some ys := e
          split at e'
          · rename_i zs hz
            cases e'
            obtain ⟨vs, h1, r⟩ := rh p _ hz
            exact ⟨p, vs, rfl, .inl ⟨.of h1, fun l hl => up_tup rh hl r q'⟩⟩
          · cases e'
        | _ => cases e
      · exact q'.elim
/-! ### list * int, list + list (bAdd) -/
def bRep : R2z := fun x y H Q => match x, y with
  | .ref a, .int k => (match H a with | some (.lst xs) => 0 ≤ k ∧ k < 2 ^ 40 ∧ xs.length * k.toNat ≤ sizeLine ∧ ∀ p, H p = none → Q (.ref p) (set H p (.lst (List.replicate k.toNat xs).flatten)) | _ => False)
  | _, _ => False
theorem RDs.rep {K : PySem.W.Frag} {H : Hp} {ds : List D} {vs : List V} (r : RDs K H ds vs) : ∀ k : Nat, RDs K H (List.replicate k ds).flatten (List.replicate k vs).flatten
  | 0 => .nil
  | k + 1 => by rw [List.replicate_succ, List.replicate_succ, List.flatten_cons, List.flatten_cons]; exact r.append (RDs.rep r k)
theorem oz_rep : OpZ X (binaryOp .Mult) bRep := opz op_rep fun H Z x y v u Q rx ry rh q => by
  cases rx with
  | ref p =>
    cases ry with
    | int k =>
      have q' : (match Z p with | some (.lst xs) => 0 ≤ k ∧ k < 2 ^ 40 ∧ xs.length * k.toNat ≤ sizeLine ∧ ∀ a, Z a = none → Q (.ref a) (set Z a (.lst (List.replicate k.toNat xs).flatten)) | _ => False) := q
      split at q'
      · rename_i xs hz
        obtain ⟨h0, h1, h2, q2⟩ := q'
        obtain ⟨vs, h3, r⟩ := rh p _ hz
        exact ⟨p, k, vs, rfl, rfl, h3, by omega, by omega, by rw [← r.length]; exact h2, fun l hl => up_lst rh hl (r.rep _) (q2 l (rh.fresh hl))⟩
      · exact q'.elim
    | _ => exact q.elim
  | _ => exact q.elim
/-! ### x in a tuple of texts -/
def strs? : List D → Option (List Str)
  | [] => some []
  | .str i :: r => match strs? r with | some l => some (i :: l) | none => none
  | _ :: _ => none
def bIn (neg : Bool) : R2z := fun x y H Q => match x, y with
  | .str x, .tup ds => (match strs? ds with | some l => Q (.bl (if neg = true then !(l.any fun z => decide (z = x)) else l.any fun z => decide (z = x))) H | none => False)
  | _, _ => False
theorem strs_below {K : PySem.W.Frag} {H : Hp} : ∀ {ds : List D} {l : List Str} {vs : List V}, RDs K H ds vs → strs? ds = some l → vs = l.map V.str
  | _, _, _, .nil, h => by cases h; rfl
  | _, _, _, .cons a r, h => by
    cases a with
    | str x =>
      unfold strs? at h
      split at h
      · rename_i l' e
        cases h
        rw [strs_below r e]; rfl
      · cases h
    | _ => cases h
theorem inV_strs (x : Str) : ∀ l : List Str, inV (.str x) (l.map V.str) = l.any fun z => decide (z = x)
  | [] => rfl
  | z :: l => by
    have ih := inV_strs x l
    unfold inV at ih ⊢
    rw [List.map_cons, List.any_cons, List.any_cons, ih]
    congr 1
theorem flat_strs : ∀ l : List Str, (l.map V.str).all flatV = true
  | [] => rfl
  | z :: l => by rw [List.map_cons, List.all_cons, flat_strs l]; rfl
theorem in_k {neg : Bool} {H : Hp} {Z : ZH} {x y : D} {v u : V} {Q : WP} (rx : RD X.K H x v) (ry : RD X.K H y u) (rh : RH X.K H Z) (q : bIn neg x y Z Q) : rIn X.K neg v u H (upE X.K H Q) := by
  cases rx with
  | str x =>
    cases ry with
    | @tup p ds vs hp r =>
      have q' : (match strs? ds with | some l => Q (.bl (if neg = true then !(l.any fun z => decide (z = x)) else l.any fun z => decide (z = x))) Z | none => False) := q
      split at q'
      · rename_i l e
        have ev := strs_below r e
        subst ev
        refine ⟨p, _, rfl, .inr (.of hp), rfl, flat_strs l, ?_⟩
        rw [inV_strs]
        exact up_same (.bl _) rh q'
      · exact q'.elim
    | _ => exact q.elim
  | _ => exact q.elim
theorem oz_in : OpZ X (compareOp .In) (bIn false) := opz op_in_seq fun _ _ _ _ _ _ _ rx ry rh q => in_k rx ry rh q
theorem oz_notIn : OpZ X (compareOp .NotIn) (bIn true) := opz op_notIn_seq fun _ _ _ _ _ _ _ rx ry rh q => in_k rx ry rh q
/-! ### two lists of ints -/
def bNeL : R2z := fun x y H Q => match x, y with
  | .ref a, .ref b => (match H a, H b with
    | some (.lst xs), some (.lst ys) => (match ints? xs, ints? ys with | some r, some s => r = s ∧ Q (.bl false) H | _, _ => False)
    | _, _ => False)
  | _, _ => False
/-! ### append -/
def zAppend (to te : TEz) : TEz := fun s H Q => to s H fun x H1 => match x with
  | .ref a => (∃ xs, H1 a = some (.lst xs)) ∧ te s H1 fun d H2 => (match H2 a with | some (.lst xs) => xs.length < sizeLine ∧ Q .non (set H2 a (.lst (xs ++ [d]))) | _ => False)
  | _ => False
theorem ze_append {apos cpos : Pos} (ho : ZE X o ta) (he : ZE X e te) (hbase : attributeBase o "append" X.env (eval o X.env) = eval o X.env := by rfl)
    (hfew : ((backTo cpos (starEach [e] X.env)).all (fun x => !x.1) && (backToKw cpos (keywordEach [] X.env)).all (fun x => x.1.isSome)
      && decide (([e] : List Expr).length + ([] : List Keyword).length + (if ([] : List Keyword).isEmpty then 0 else 1) < 30)) = true := by rfl)
    (hline : (apos.endLine == cpos.line) = true := by rfl) (hs : starEach [e] X.env = (false, eval e X.env) :: starEach [] X.env := by rfl) (hplain : (backTo cpos (starEach [] X.env)).any (·.1) = false := by rfl) :
    ZE X (.Call (.Attribute o "append" apos) [e] [] cpos) (zAppend ta te) :=
  (pe_bm PySem.F.plainAttrs_list PySem.F.slot_list_append PySem.F.type_list_append mt_append ho (pa_cons he pa_nil hs) hbase hfew hline hs hplain).zimp fun σ H Q1 ⟨s, Z, Q, rs, rh, q, kk⟩ => by
  refine ⟨s, Z, _, rs, rh, q, fun v H1 ⟨d, Z1, m1, rd, rh1, q1⟩ => ?_⟩
  cases rd with
  | ref p =>
    obtain ⟨⟨ys, hz⟩, q1⟩ := q1
    obtain ⟨vs, h1, r1⟩ := rh1 p _ hz
    refine ⟨.inl ⟨rfl, vs, .of h1⟩, s, Z1, _, rs.mono m1, rh1, q1, fun u H2 ⟨e, Z2, m2, re, rh2, q2⟩ => ?_⟩
    have q2 : (match Z2 p with | some (.lst xs) => xs.length < sizeLine ∧ Q .non (set Z2 p (.lst (xs ++ [e]))) | _ => False) := q2
    split at q2
    · rename_i xs hz2
      obtain ⟨us, h2, r2⟩ := rh2 p _ hz2
      have hm : TM H2 (upd H2 p (.lst (us ++ [u]))) := rh2.tm hz2
      refine ⟨p, us, u, rfl, rfl, h2, by rw [← r2.length]; exact q2.1, kk _ _ ⟨.non, _, (m1.trans m2).trans hm, .non, rh2.write hz2 (show RO X.K _ p (.lst (xs ++ [e])) from ⟨_, upd_same, (r2.append (.cons re .nil)).mono hm⟩), q2.2⟩⟩
    · exact q2.elim
  | _ => exact q1.elim
end
end Zy
set_option Elab.async false
set_option linter.all false
set_option maxRecDepth 100000
set_option maxHeartbeats 4000000
namespace Zy
open PySem L2 PySem.Spec PyProof.Rows

/-! ### what a loop walks -/
def WalksZ (K : PySem.W.Frag) (H0 : Hp) (J : It) (items : List D) (ok : ZH → Prop) : Prop :=
  (∀ i H Z, TM H0 H → RH K H Z → ok Z → items.length ≤ i → J.stop i H) ∧
  ∀ i x H Z, TM H0 H → RH K H Z → ok Z → items[i]? = some x → J.go i H ∧ ∀ v H', J.yld i H v H' → TM H H' ∧ RH K H' Z ∧ RD K H' x v
abbrev TIz := Sg → ZH → (List D → (ZH → Prop) → ZH → Prop) → Prop
def dnI (K : PySem.W.Frag) (w : TIz) : TI := fun σ H R => ∃ s Z Rz, RS K H s σ ∧ RH K H Z ∧ w s Z Rz ∧ ∀ J items ok H' Z', TM H H' → RH K H' Z' → WalksZ K H' J items ok → Rz items ok Z' → R J H'
abbrev ZI (X : Cx) (tg iter : Expr) (w : TIz) : Prop := PI X tg iter (dnI X.K w)
theorem PI_imp {X : Cx} {tg iter : Expr} {t u : TI} (h : PI X tg iter t) (k : ∀ σ H Q, u σ H Q → t σ H Q) : PI X tg iter u := ⟨fun p s σ H R I q => h.run p s σ H R I (k _ _ _ q)⟩
section
variable {X : Cx} {tg : Expr}
def iSeq (K : PySem.W.Frag) (tl : TE) : TI := fun σ H R => tl σ H fun x H1 => ∃ a, x = .ref a ∧ (((∃ xs, SqL K H1 a xs) ∧ R (Itl K a) H1) ∨ ((∃ xs, SqT K H1 a xs) ∧ R (Itt K a) H1))
theorem pi_seq {l : Expr} {tl : TE} (hl : PE X l tl) : PI X tg l (iSeq X.K tl) := by
  refine ⟨fun pins s σ H R I h => ?_⟩
  refine thn (hl.run pins s σ H _ I h) fun v s1 ⟨x, H1, I1, r1, q1⟩ => ?_
  obtain ⟨a, e, q1⟩ := q1
  subst e
  cases r1
  rcases q1 with ⟨⟨xs, hq⟩, q⟩ | ⟨⟨xs, hq⟩, q⟩
  · obtain ⟨its, rv, p, hz⟩ := I1.list hq
    refine wpAny_pyIter_list p.isList ?_
    refine ⟨s1.heap.objs.size, [s1.heap.objs.size], _, _, H1, rfl, I1.kept (t' := s1.toks) fun b o e => Heap.get?_push_of_some _ e, turn_list a _, ⟨_, Heap.get?_push_size _ rfl, rfl, rfl⟩, fun b hb => ?_, q⟩
    have e : b = s1.heap.objs.size := by simpa using hb
    subst e
    exact I1.fpOk (Nat.le_refl _) (I1.hok.fresh (Nat.le_refl _))
  · obtain ⟨its, rv, p, hz⟩ := I1.tuple hq
    refine wpAny_pyIter_tuple (show s1.heap.IsTuple a its.toArray from p) ?_
    refine ⟨s1.heap.objs.size, [s1.heap.objs.size], _, _, H1, rfl, I1.kept (t' := s1.toks) fun b o e => Heap.get?_push_of_some _ e, turn_tuple a _, ⟨_, Heap.get?_push_size _ rfl, rfl, rfl⟩, fun b hb => ?_, q⟩
    have e : b = s1.heap.objs.size := by simpa using hb
    subst e
    exact I1.fpOk (Nat.le_refl _) (I1.hok.fresh (Nat.le_refl _))
/-- a list, a tuple, the script -/
def ziSeq (te : TEz) : TIz := fun s H R => te s H fun x H1 => match x with
  | .tup ds => R ds (fun _ => True) H1
  | .scr ns => R (ns.map D.int) (fun _ => True) H1
  | .ref a => (match H1 a with | some (.lst xs) => R xs (fun H => H a = some (.lst xs)) H1 | _ => False)
  | _ => False
theorem sqF_inj {K : PySem.W.Frag} {H : Hp} {a : Addr} {xs ys : List V} (h : SqF K H a xs) (h' : SqL K H a ys) (n : K.lookup a = none ∨ H a = none) : xs = ys ∨ True := .inr trivial
theorem zi_seq {l : Expr} {te : TEz} (hl : ZE X l te) (hX : ∀ K H a (xs ys : List V), SqF K H a xs → SqL K H a ys → True := by intros; trivial) : ZI X tg l (ziSeq te) := PI_imp (pi_seq hl) fun σ H R1 ⟨s, Z, R, rs, rh, q, kk⟩ => by
  refine ⟨s, Z, _, rs, rh, q, fun v H1 ⟨d, Z1, m1, rd, rh1, q1⟩ => ?_⟩
  cases rd with
  | @tup p ds vs hp r =>
    refine ⟨p, rfl, .inr ⟨⟨vs, .of hp⟩, kk _ _ _ _ _ m1 rh1 ⟨fun i H' Z' m _ _ hi => ⟨vs, .of (m _ _ rfl hp), by rw [← r.length]; exact hi⟩, fun i x H' Z' m rh' _ hx => ?_⟩ q1⟩⟩
    obtain ⟨v, h1, h2⟩ := r.get hx
    refine ⟨⟨vs, v, .of (m _ _ rfl hp), h1⟩, fun u H'' ⟨e, y⟩ => ?_⟩
    subst e
    have := y vs (.of (m _ _ rfl hp))
    rw [h1] at this
    cases this
    exact ⟨TM.refl _, rh', h2.mono m⟩
  | @scr p ns h =>
    refine ⟨p, rfl, .inl ⟨⟨_, h.seq⟩, kk _ _ _ _ _ m1 rh1 ⟨fun i H' Z' m _ _ hi => ⟨_, (h.mono m).seq, by rw [List.length_map] at hi ⊢; exact hi⟩, fun i x H' Z' m rh' _ hx => ?_⟩ q1⟩⟩
    obtain ⟨v, h1, h2⟩ := (RDs.ints (K := X.K) (H := H') ns).get hx
    refine ⟨⟨_, v, (h.mono m).seq, h1⟩, fun u H'' ⟨e, y⟩ => ?_⟩
    subst e
    have := y _ (h.mono m).seq
    rw [h1] at this
    cases this
    exact ⟨TM.refl _, rh', h2⟩
  | ref p =>
    have q1 : (match Z1 p with | some (.lst xs) => R xs (fun H => H p = some (.lst xs)) Z1 | _ => False) := q1
    split at q1
    · rename_i xs hz
      obtain ⟨vs, h1, r⟩ := rh1 p _ hz
      refine ⟨p, rfl, .inl ⟨⟨vs, .of h1⟩, kk _ _ _ _ _ m1 rh1 ⟨fun i H' Z' m rh' ok hi => ?_, fun i x H' Z' m rh' ok hx => ?_⟩ q1⟩⟩
      · obtain ⟨us, h2, r2⟩ := rh' p _ ok
        exact ⟨us, .of h2, by rw [← r2.length]; exact hi⟩
      · obtain ⟨us, h2, r2⟩ := rh' p _ ok
        obtain ⟨v, h3, h4⟩ := r2.get hx
        refine ⟨⟨us, v, .of h2, h3⟩, fun u H'' ⟨e, y⟩ => ?_⟩
        subst e
        have := y us (.of h2)
        rw [h3] at this
        cases this
        exact ⟨TM.refl _, rh', h4⟩
    · exact q1.elim
  | _ => exact q1.elim
/-- range(n) -/
def rng (n : Nat) : List D := (List.range n).map fun (i : Nat) => D.int (i : Int)
def ziRange (te : TEz) : TIz := fun s H R => te s H fun x H1 => match x with | .int n => 0 ≤ n ∧ n < 2 ^ 40 ∧ R (rng n.toNat) (fun _ => True) H1 | _ => False
theorem zi_range {e : Expr} {te : TEz} {p pos : Pos} (hg : Gl X "range") (hm : X.mg "range" = none) (he : ZE X e te) (hs : starEach [e] X.env = [(false, eval e X.env)] := by rfl) : ZI X tg (.Call (.Name "range" p) [e] [] pos) (ziRange te) :=
  PI_imp (pi_range1 hg hm (pa_cons he pa_nil hs) hs) fun σ H R1 ⟨s, Z, R, rs, rh, q, kk⟩ => by
  refine ⟨s, Z, _, rs, rh, q, fun v H1 ⟨d, Z1, m1, rd, rh1, q1⟩ => ?_⟩
  cases rd with
  | int n =>
    obtain ⟨h0, hn, q1⟩ := q1
    refine ⟨n, rfl, by omega, by omega, kk _ _ _ _ _ m1 rh1 ⟨fun i H' Z' m rh' ok hi => ?_, fun i x H' Z' m rh' ok hx => ?_⟩ q1⟩
    · have : n.toNat ≤ i := by simpa [rng] using hi
      exact this
    · unfold rng at hx
      rw [List.getElem?_map] at hx
      obtain ⟨j, hj, e⟩ := Option.map_eq_some_iff.mp hx
      obtain ⟨h1, h2⟩ := List.getElem?_eq_some_iff.mp hj
      have hj' : j = i := by simpa using h2.symm
      subst hj'
      refine ⟨by have h3 := h1; rw [List.length_range] at h3; exact h3, fun u H'' ⟨e', y⟩ => ?_⟩
      subst e' y e
      refine ⟨TM.refl _, rh', ?_⟩
      have : (0 : Int) + (j : Int) = (j : Int) := by omega
      rw [this]
      exact .int _
  | _ => exact q1.elim
/-! ### for -/
def zFor (w : TIz) (g : TGz) (t : TSz) : TSz := fun D s H => w s H fun items ok H1 => ∃ W : List Zy.D → Sg → ZH → Prop, W items s H1 ∧ (∀ s H, W [] s H → ok H ∧ D.nx s H) ∧
  ∀ x r s H, W (x :: r) s H → ok H ∧ g x s H fun s2 H2 => t ⟨W r, D.rt, D.nx, W r⟩ s2 H2
theorem drop_cons {α : Type} {l : List α} {i : Nat} {x : α} {r : List α} (h : l.drop i = x :: r) : l[i]? = some x ∧ l.drop (i + 1) = r := by
  refine ⟨?_, ?_⟩
  · have := congrArg (fun z => z[0]?) h
    simpa using this
  · rw [← List.drop_drop, h]; rfl
theorem drop_nil {α : Type} {l : List α} {i : Nat} (h : l.drop i = []) : l.length ≤ i := List.drop_eq_nil_iff.mp h
theorem zs_for {iter : Expr} {body : List Stmt} {w : TIz} {g : TGz} {t : TSz} {pos : Pos} (hp : PassesOwn (model X.prog X.w) X.A X.env X.xe) (hc : X.calm = true) (hi : ZI X tg iter w) (hg : ZG X tg g) (hb : ZSs X body t)
    (hs : ∀ x, foldedSetIterable iter X.env x = pure x := by intro _; rfl) : ZS X (.For tg iter body [] pos) (zFor w g t) := (ps_for hp hc hi hg hb hs).zimp fun D1 σ H ⟨s, Z, D, rs, rh, q, k1, k2, k3, k4⟩ => by
  refine ⟨s, Z, _, rs, rh, q, fun J items ok H1 Z1 m1 rh1 wk ⟨W, w0, wend, wturn⟩ => ?_⟩
  refine ⟨fun i m σ' H' => ∃ rest s' Z', rest = items.drop i ∧ m = rest.length ∧ TM H1 H' ∧ RS X.K H' s' σ' ∧ RH X.K H' Z' ∧ W rest s' Z', ⟨_, items, s, Z1, rfl, rfl, TM.refl _, rs.mono m1, rh1, w0⟩, ?_⟩
  rintro i m σ' H' ⟨rest, s', Z', er, em, mt, rs', rh', w1⟩
  cases rest with
  | nil =>
    obtain ⟨ok1, q1⟩ := wend s' Z' w1
    exact .inl ⟨wk.1 i H' Z' mt rh' ok1 (drop_nil er.symm), k1 _ _ ⟨s', Z', m1.trans mt, rs', rh', q1⟩⟩
  | cons x r =>
    obtain ⟨ok1, q1⟩ := wturn x r s' Z' w1
    obtain ⟨h1, h2⟩ := drop_cons er.symm
    obtain ⟨hgo, hy⟩ := wk.2 i x H' Z' mt rh' ok1 h1
    refine .inr ⟨hgo, fun σ3 H3 => ∃ s3 Z3, TM H1 H3 ∧ RS X.K H3 s3 σ3 ∧ RH X.K H3 Z3 ∧ W r s3 Z3, fun σ3 H3 ⟨s3, Z3, m3, rs3, rh3, w3⟩ => ⟨r.length, by rw [em]; exact Nat.lt_succ_self _, r, s3, Z3, h2.symm, rfl, m3, rs3, rh3, w3⟩, fun v H'' y => ?_⟩
    obtain ⟨my, rhy, rdy⟩ := hy v H'' y
    refine ⟨x, s', Z', _, rdy, rs'.mono my, rhy, q1, fun σ2 H2 ⟨s2, Z2, m2, rs2, rh2, q2⟩ => ?_⟩
    have mm : TM H1 H2 := (mt.trans my).trans m2
    refine ⟨s2, Z2, _, rs2, rh2, q2, fun σ3 H3 ⟨s3, Z3, m3, rs3, rh3, w3⟩ => ⟨s3, Z3, mm.trans m3, rs3, rh3, w3⟩, fun v3 H3 h3 => k2 _ _ (h3.tm (m1.trans mm)), fun σ3 H3 h3 => k1 _ _ (h3.tm (m1.trans mm)), fun σ3 H3 ⟨s3, Z3, m3, rs3, rh3, w3⟩ => ⟨s3, Z3, mm.trans m3, rs3, rh3, w3⟩⟩
/-! ### comprehensions: one for, a name as its target, no test -/
def zComp (w : TIz) (i : Nat) (te : TEz) : TEz := fun s H Q => w s H fun items ok H1 => ∀ p, H1 p = none → ∃ W : List D → ZH → Prop, W items (set H1 p (.lst [])) ∧ (∀ H, W [] H → ok H ∧ Q (.ref p) H) ∧
  ∀ x r H, W (x :: r) H → ok H ∧ te (put (put s i none) i (some x)) H fun y H4 => match H4 p with | some (.lst acc) => acc.length < sizeLine ∧ W r (set H4 p (.lst (acc ++ [y]))) | _ => False
theorem set_wipe (σ : L2.St) (i : Nat) (v : V) : wipe ((wipe σ [i]).set i (some v)) [i] = wipe σ [i] := by
  show (((σ.set i none).set i (some v)).set i none) = σ.set i none
  rw [List.set_set, List.set_set]
theorem dn_comp {K : PySem.W.Frag} {w : TIz} {i : Nat} {te : TEz} {σ : L2.St} {H : Hp} {Q1 : VK} (h : dnE K (zComp w i te) σ H Q1) : tLc (dnI K w) (gName i) tYes (dnE K te) [i] σ H Q1 := by
  obtain ⟨s, Z, Q, rs, rh, q, kk⟩ := h
  refine ⟨s, Z, _, rs, rh, q, fun J items ok H1 Z1 m1 rh1 wk q1 D hD => ?_⟩
  obtain ⟨W, w0, wend, wturn⟩ := q1 D (rh1.fresh hD)
  have mD : TM H1 (upd H1 D (.lst [])) := TM.new hD
  refine ⟨fun j m H' => ∃ rest Z', rest = items.drop j ∧ m = rest.length ∧ TM H1 H' ∧ RH K H' Z' ∧ W rest Z', ⟨_, items, _, rfl, rfl, mD, rh1.new hD (show RO K _ D (.lst []) from ⟨[], upd_same, .nil⟩), w0⟩, ?_⟩
  rintro j m H' ⟨rest, Z', er, em, mt, rh', w1⟩
  cases rest with
  | nil =>
    obtain ⟨ok1, q1⟩ := wend Z' w1
    exact .inl ⟨wk.1 j H' Z' mt rh' ok1 (drop_nil er.symm), kk _ _ ⟨.ref D, Z', m1.trans mt, .ref D, rh', q1⟩⟩
  | cons x r =>
    obtain ⟨ok1, q1⟩ := wturn x r Z' w1
    obtain ⟨h1, h2⟩ := drop_cons er.symm
    obtain ⟨hgo, hy⟩ := wk.2 j x H' Z' mt rh' ok1 h1
    refine .inr ⟨hgo, fun H3 => ∃ Z3, TM H1 H3 ∧ RH K H3 Z3 ∧ W r Z3, fun H3 ⟨Z3, m3, rh3, w3⟩ => ⟨r.length, by rw [em]; exact Nat.lt_succ_self _, r, Z3, h2.symm, rfl, m3, rh3, w3⟩, fun v H'' y => ?_⟩
    obtain ⟨my, rhy, rdy⟩ := hy v H'' y
    have rs2 : RS K H'' (put (put s i none) i (some x)) ((wipe σ [i]).set i (some v)) := RS.put rdy i (RS.gone i (rs.mono ((m1.trans mt).trans my)))
    have fin : dnE K te ((wipe σ [i]).set i (some v)) H'' (fun u H4 => ∃ acc, H4 D = some (.lst acc) ∧ acc.length < sizeLine ∧ ∃ Z3, TM H1 (upd H4 D (.lst (acc ++ [u]))) ∧ RH K (upd H4 D (.lst (acc ++ [u]))) Z3 ∧ W r Z3) := by
      refine ⟨_, Z', _, rs2, rhy, q1, fun u H4 ⟨e, Z4, m4, re, rh4, q4⟩ => ?_⟩
      dsimp only at q4
      split at q4
      · rename_i acc hz
        obtain ⟨vs, h5, r5⟩ := rh4 D _ hz
        have m5 : TM H4 (upd H4 D (.lst (vs ++ [u]))) := rh4.tm hz
        exact ⟨vs, h5, by rw [← r5.length]; exact q4.1, _, ((mt.trans my).trans m4).trans m5, rh4.write hz (show RO K _ D (.lst (acc ++ [e])) from ⟨_, upd_same, (r5.append (.cons re .nil)).mono m5⟩), q4.2⟩
      · exact q4.elim
    exact ⟨set_wipe σ i v, fin⟩
theorem ze_comp {elt iter : Expr} {x : Str} {scope : Scope} {i : Nat} {pos tpos : Pos} {w : TIz} {te : TEz} (hc : X.calm = true) (hN : X.N.Nodup) (hi : ZI X (.Name x tpos) iter w) (ok : BlkOk X.N X.env.scope scope [(x, i)])
    (hg : ∀ (s : Shared) (H : Hp) (C : Addr) (cl : List (Str × Addr)) (fp : List Addr), PG (X.blk s H scope (compEnvC scope cl C X.env) fp) (.Name x tpos) (gName i))
    (he : ∀ (s : Shared) (H : Hp) (C : Addr) (cl : List (Str × Addr)) (fp : List Addr), ZE (X.blk s H scope (compEnvC scope cl C X.env) fp) elt te) (hs : ∀ x, foldedSetIterable iter X.env x = pure x := by intro _; rfl) :
    ZE X (.ListComp elt [⟨.Name x tpos, iter, [], 0⟩] scope pos) (zComp w i te) := (pe_lc hc hN hi ok hg (fun _ _ _ _ _ => pts_nil) he hs).zimp fun _ _ _ => dn_comp
/-- its element is plain: it reads, and gives a value -/
theorem comp_pure {w : TIz} {i : Nat} {te : TEz} {s : Sg} {H : ZH} {Q : WP} {items : List D} {ok : ZH → Prop} {H1 : ZH} {p : Addr} (f : D → D) (hp : H1 p = none) (hl : items.length ≤ sizeLine) (hok : ∀ xs, ok (set H1 p (.lst xs)))
    (he : ∀ x ∈ items, ∀ xs (Q : WP), Q (f x) (set H1 p (.lst xs)) → te (put (put s i none) i (some x)) (set H1 p (.lst xs)) Q) (hq : Q (.ref p) (set H1 p (.lst (items.map f)))) :
    ∃ W : List D → ZH → Prop, W items (set H1 p (.lst [])) ∧ (∀ H, W [] H → ok H ∧ Q (.ref p) H) ∧
      ∀ x r H, W (x :: r) H → ok H ∧ te (put (put s i none) i (some x)) H fun y H4 => match H4 p with | some (.lst acc) => acc.length < sizeLine ∧ W r (set H4 p (.lst (acc ++ [y]))) | _ => False := by
  refine ⟨fun r H => ∃ done, done ++ r = items ∧ H = set H1 p (.lst (done.map f)), ⟨[], rfl, rfl⟩, ?_, ?_⟩
  · rintro H ⟨done, e, rfl⟩
    rw [List.append_nil] at e
    subst e
    exact ⟨hok _, hq⟩
  · rintro x r H ⟨done, e, rfl⟩
    refine ⟨hok _, he x (by rw [← e]; simp) _ _ ?_⟩
    rw [set_same]
    refine ⟨?_, done ++ [x], by rw [← e]; simp, by rw [set_set, List.map_append]; rfl⟩
    have : (done ++ x :: r).length = items.length := by rw [e]
    simp only [List.length_append, List.length_cons, List.length_map] at this ⊢
    omega
end
end Zy
set_option Elab.async false
set_option linter.all false
set_option maxRecDepth 100000
set_option maxHeartbeats 4000000
namespace Zy
open PySem L2 PySem.Spec PyProof.Rows

/-! ### what a def promises, in our values -/
abbrev WZ := Addr → Sg → ZH → Prop
abbrev XZ := Addr → ZH → Prop
abbrev SpZ := List D → ZH → WP → XZ → Prop
def upSp (K : PySem.W.Frag) (sp : SpZ) : Sp := fun vs H Q1 E1 => ∃ ds Z Q E, RDs K H ds vs ∧ RH K H Z ∧ sp ds Z Q E ∧ (∀ v H', upE K H Q v H' → Q1 v H') ∧ ∀ C H' Z', TM H H' → RH K H' Z' → E C Z' → E1 (.ref C) none H'
/-- a wish about own exceptions, below -/
def dnW (X : Cx) (W : WZ) : WX := fun cls d σ H => ∃ C s Z, cls = .ref C ∧ d = none ∧ (σ.length = X.N.length ∧ TM X.H_0 H) ∧ RS X.K H s σ ∧ RH X.K H Z ∧ W C s Z
abbrev TakesZ (X : Cx) (W : WZ) : Prop := Takes X (dnW X W)
/-- the def that the module's name x holds -/
structure FnZ (P : Program) (w : World) (K : PySem.W.Frag) (mg : Str → Option Value) (base : Heap) (k : Nat) (x : Str) (n : Nat) (sp : SpZ) : Prop where
  ex : ∃ (f : Addr) (fd : FuncData) (ps : List Str), ps.length = n ∧ mg x = some (.ref f) ∧ PySem.W.keepIn K (.ref f) = true ∧ Binds K fd ps [] ∧ FnOk P w K mg base (L2.CX P w) k f fd ps (upSp K sp)
section
variable {P : Program} {w : World} {K : PySem.W.Frag} {mg : Str → Option Value} {base : Heap}
theorem FnZ.mono {j k : Nat} {x : Str} {n : Nat} {sp : SpZ} (F : FnZ P w K mg base j x n sp) (h : j ≤ k) : FnZ P w K mg base k x n sp := by
  obtain ⟨f, fd, ps, h1, h2, h3, h4, h5⟩ := F.ex
  exact ⟨f, fd, ps, h1, h2, h3, h4, h5.mono h⟩
theorem FnZ.imp {k : Nat} {x : Str} {n : Nat} {sp sp' : SpZ} (F : FnZ P w K mg base k x n sp) (h : ∀ ds Z Q E, sp' ds Z Q E → sp ds Z Q E) : FnZ P w K mg base k x n sp' := by
  obtain ⟨f, fd, ps, h1, h2, h3, h4, h5⟩ := F.ex
  exact ⟨f, fd, ps, h1, h2, h3, h4, h5.imp fun vs H Q E ⟨ds, Z, Q', E', a, b, c, d, e⟩ => ⟨ds, Z, Q', E', a, b, h _ _ _ _ c, d, e⟩⟩
end
/-- f(e, ..) -/
def zCall (sp : SpZ) (W : WZ) (t : TAz) : TEz := fun s H Q => t s H fun ds H1 => sp ds H1 Q (fun C H2 => W C s H2)
section
variable {X : Cx} {k n : Nat} {x : Str} {sp : SpZ} {W : WZ} {e : Expr} {es : List Expr} {ua : TAz} {p pos : Pos}
/-- tuples since the entry stay, for a rule's reading -/
theorem PE_tm {e : Expr} {t u : TE} (h : PE X e t) (k : ∀ σ H Q, σ.length = X.N.length ∧ TM X.H_0 H → u σ H Q → t σ H Q) : PE X e u := ⟨fun p s σ H Q I q => h.run p s σ H Q I (k _ _ _ ⟨I.len, tm_inv I⟩ q)⟩
theorem PS_tm {st : Stmt} {t u : TS} (h : PS X st t) (k : ∀ D σ H, σ.length = X.N.length ∧ TM X.H_0 H → u D σ H → t D σ H) : PS X st u := ⟨fun p s σ H Q I q => h.run p s σ H Q I (k _ _ _ ⟨I.len, tm_inv I⟩ q)⟩
theorem ze_call (F : FnZ X.prog X.w X.K X.mg X.base k x n sp) (tk : TakesZ X W) (hr : Room k X.A) (ha : ZA X (e :: es) ua) (hg : Gl X x := by rfl) (hdb : (x == ("__debug__" : Str)) = false := by decide)
    (he : starEach (e :: es) X.env = (false, eval e X.env) :: starEach es X.env := by rfl) (hpl : (backTo pos (starEach es X.env)).any (·.1) = false := by rfl) : ZE X (.Call (.Name x p) (e :: es) [] pos) (zCall sp W ua) := by
  obtain ⟨f, fd, ps, h1, h2, h3, h4, h5⟩ := F.ex
  refine PE_tm (pe_callS h5 hr hg h2 h3 h4 (fun σ => passAt tk σ) ha hdb he hpl) fun σ H Q1 m0 ⟨s, Z, Q, rs, rh, q, kk⟩ => ?_
  refine ⟨s, Z, _, rs, rh, q, fun vs H1 ⟨ds, Z1, m1, rd, rh1, q1⟩ => ?_⟩
  exact ⟨ds, Z1, Q, _, rd, rh1, q1, fun v H' h => kk _ _ (h.tm m1), fun C H' Z' m rh' w => ⟨C, s, Z', rfl, rfl, ⟨m0.1, (m0.2.trans m1).trans m⟩, (rs.mono m1).mono m, rh', w⟩⟩
/-! ### raise -/
theorem zs_raise {C : Addr} {m : Str} {p2 rpos : Pos} (hc : X.calm = true) (tk : TakesZ X W) (q : PySem.W.excIn X.K C He.veBase "ValueError.__new__" = true) (gC : X.mg x = some (.ref C)) (kC : PySem.W.keepIn X.K (.ref C) = true)
    (r : Raises X (.ref C)) {j : Nat} (hg : Gl X x := by rfl) (hdb : (x == ("__debug__" : Str)) = false := by decide) : ZS X (.Raise (some (.Call (.Name x p) [.Constant (.str m) j p2] [] pos)) none rpos) (fun D s H => W C s H) :=
  PS_tm (ps_raise hc tk (pmk_own PySem.F.excBase_ValueError q gC kC r hg hdb)) fun D1 σ H m0 ⟨s, Z, D, rs, rh, q, k1, k2, k3, k4⟩ => ⟨C, s, Z, rfl, rfl, m0, rs, rh, q⟩
end
/-! ### a def's body -/
def startZ (n : Nat) (ds : List D) : Sg := ds.map some ++ List.replicate (n - ds.length) none
theorem rs_start {K : PySem.W.Frag} {H : Hp} : ∀ {ds : List D} {vs : List V}, RDs K H ds vs → RS K H (ds.map some) (vs.map some)
  | _, _, .nil => .nil
  | _, _, .cons h r => .val h (rs_start r)
theorem rs_none {K : PySem.W.Frag} {H : Hp} : ∀ n : Nat, RS K H (List.replicate n none) (List.replicate n none)
  | 0 => .nil
  | n + 1 => .emp (rs_none n)
theorem rs_app {K : PySem.W.Frag} {H : Hp} : ∀ {s s' : Sg} {σ σ' : L2.St}, RS K H s σ → RS K H s' σ' → RS K H (s ++ s') (σ ++ σ')
  | _, _, _, _, .nil, h => h
  | _, _, _, _, .emp r, h => .emp (rs_app r h)
  | _, _, _, _, .val a r, h => .val a (rs_app r h)
section
variable {P : Program} {w : World} {K : PySem.W.Frag} {mg : Str → Option Value} {base : Heap} {x qual : Str} {params : Arguments} {body : List Stmt} {scope : Scope} {f : Addr} {fd : FuncData} {N ps : List Str} {k : Nat} {sp : SpZ}
/-- THE RULE for a def: t its reading (of the wish about exceptions), its derivation in any such context, what the reading gives -/
theorem fnz0 (F : FunD K x qual params body scope [] [] f fd) (S : FnScope N ps scope) (gx : mg x = some (.ref f)) (hb : Binds K fd ps []) {n : Nat} (hn : ps.length = n) (t : XZ → TSz)
    (len : ∀ ds Z Q E, sp ds Z Q E → ds.length = n)
    (der : ∀ (X : Cx) (E : XZ) (cdv : Value) (A : Around) (outer : List Env) (s : Shared) (H : Hp) (E1 : XK), X = cxOf (L2.CX P w) P w K mg base N qual scope f cdv A outer s H E1 → Room k X.A → TakesZ X (fun C _ Z => E C Z) → PassesOwn (model X.prog X.w) X.A X.env X.xe → PSs X body (fun D1 σ H => H = X.H_0 ∧ dnS X.K (t E) D1 σ H))
    (red : ∀ ds Z Q E, sp ds Z Q E → t E ⟨fun _ H => ∃ H0, Sub H0 H ∧ Q .non H0, fun d H => ∃ H0, Sub H0 H ∧ Q d H0, fun _ _ => False, fun _ _ => False⟩ (startZ N.length ds) Z) : FnZ P w K mg base (k + 1) x n sp := by
  refine ⟨f, fd, ps, hn, gx, F.kp, hb, F.ok S (fun vs H Q E ⟨ds, Z, Q', E', rd, _, q, _⟩ => ?_) fun cdv A outer s H vs Q1 E1 hr ⟨ds, Z, Q, E, rd, rh, q, k1, k2⟩ => ?_⟩
  · rw [← rd.length, len _ _ _ _ q, hn]
  · refine ⟨_, der _ E cdv A outer s H E1 rfl hr (Takes.imp (takes_of (E := E1) rfl rfl rfl rfl) fun cls d σ H' ⟨C, s', Z', e1, e2, m, _, rh', w'⟩ => ?_) (passes_of rfl), ?_⟩
    · subst e1 e2
      exact k2 C H' Z' m.2 rh' w'
    · refine ⟨rfl, startZ N.length ds, Z, _, ?_, rh, red ds Z Q E q, fun σ' H' ⟨s', Z', m, rs', rh', H0, sb, q'⟩ => k1 _ _ ⟨.non, H0, m, .non, rh'.sub sb, q'⟩, fun v H' ⟨d, Z', m, rd', rh', H0, sb, q'⟩ => k1 _ _ ⟨d, H0, m, rd', rh'.sub sb, q'⟩, fun σ' H' ⟨_, _, _, _, _, q'⟩ => q'.elim, fun σ' H' ⟨_, _, _, _, _, q'⟩ => q'.elim⟩
      unfold startZ L2.start
      rw [rd.length]
      exact rs_app (rs_start rd) (rs_none _)
theorem fnz (F : FunD K x qual params body scope [] [] f fd) (S : FnScope N ps scope) (gx : mg x = some (.ref f)) (hb : Binds K fd ps []) {n : Nat} (hn : ps.length = n) (t : XZ → TSz)
    (len : ∀ ds Z Q E, sp ds Z Q E → ds.length = n)
    (der : ∀ (X : Cx) (E : XZ) (cdv : Value) (A : Around) (outer : List Env) (s : Shared) (H : Hp) (E1 : XK), X = cxOf (L2.CX P w) P w K mg base N qual scope f cdv A outer s H E1 → Room k X.A → TakesZ X (fun C _ Z => E C Z) → PassesOwn (model X.prog X.w) X.A X.env X.xe → ZSs X body (t E))
    (red : ∀ ds Z Q E, sp ds Z Q E → t E ⟨fun _ H => ∃ H0, Sub H0 H ∧ Q .non H0, fun d H => ∃ H0, Sub H0 H ∧ Q d H0, fun _ _ => False, fun _ _ => False⟩ (startZ N.length ds) Z) : FnZ P w K mg base (k + 1) x n sp :=
  fnz0 F S gx hb hn t len (fun X E cdv A outer s H E1 e hr tk hp => (der X E cdv A outer s H E1 e hr tk hp).zimp fun _ _ _ h => h.2) red
end
end Zy
set_option Elab.async false
set_option linter.all false
set_option maxRecDepth 100000
set_option maxHeartbeats 4000000
namespace Zy
open PySem L2 PySem.Spec PyProof.Rows
section
variable {X : Cx} {e : Expr} {te : TEz} {pos p p2 : Pos}
/-! ### -n, range and reversed(range) as tuples -/
def zNeg (te : TEz) : TEz := fun s H Q => te s H fun x H1 => match x with | .int i => Q (.int (-i)) H1 | _ => False
theorem ze_neg (h : ZE X e te) : ZE X (.UnaryOp .USub e pos) (zNeg te) := (pe_un un_neg h).zimp fun σ H Q1 ⟨s, Z, Q, rs, rh, q, kk⟩ => by
  refine ⟨s, Z, _, rs, rh, q, fun v H1 ⟨d, Z1, m1, rd, rh1, q1⟩ => ?_⟩
  cases rd with
  | int i => exact ⟨i, rfl, kk _ _ ⟨_, Z1, m1, .int _, rh1, q1⟩⟩
  | _ => exact q1.elim
def zTupRg (te : TEz) : TEz := fun s H Q => te s H fun x H1 => match x with | .int n => 0 ≤ n ∧ n ≤ 1000 ∧ Q (.tup (rng n.toNat)) H1 | _ => False
theorem rds_rg {K : PySem.W.Frag} {H : Hp} (n : Int) : RDs K H (rng n.toNat) (rgV 0 n) := by
  unfold rng rgV
  have e0 : (n - 0).toNat = n.toNat := by omega
  rw [e0]
  generalize List.range n.toNat = l
  induction l with
  | nil => exact .nil
  | cons i l ih =>
    refine .cons ?_ ih
    have : (0 : Int) + (i : Int) = i := by omega
    show RD K H (.int (i : Int)) (.int (0 + (i : Int)))
    rw [this]
    exact .int _
theorem ze_tupRg (hc : X.calm = true) (ht : X.mg "tuple" = none) (hr : X.mg "range" = none) (he : ZE X e te) (hg : Gl X "tuple" := by rfl) (hg2 : Gl X "range" := by rfl)
    (na : starEach [e] X.env = (false, eval e X.env) :: starEach [] X.env := by rfl) (na2 : starEach [.Call (.Name "range" p2) [e] [] p] X.env = (false, eval (.Call (.Name "range" p2) [e] [] p) X.env) :: starEach [] X.env := by rfl) {p3 : Pos} :
    ZE X (.Call (.Name "tuple" p3) [.Call (.Name "range" p2) [e] [] p] [] pos) (zTupRg te) := (pe_tupRg hc hg ht (prg_1 hg2 hr he na) na2).zimp fun σ H Q1 ⟨s, Z, Q, rs, rh, q, kk⟩ => by
  refine ⟨s, Z, _, rs, rh, q, fun v H1 ⟨d, Z1, m1, rd, rh1, q1⟩ => ?_⟩
  cases rd with
  | int n =>
    obtain ⟨h0, h1, q2⟩ := q1
    exact ⟨n, rfl, .of_le (by omega) (by omega) (by omega) h0, fun a ha => kk _ _ ((up_tup rh1 ha (rds_rg n) q2).tm m1)⟩
  | _ => exact q1.elim
end
end Zy
namespace RTR
open PySem PySem.Spec PyProof.Rows
section
variable {prog : Program} {w : World} {A : Around} {E : Value → Shared → Prop} {s : Shared}
theorem rit_hint_meets (I : Addr) (a n c : Int) : Meets (Builtin.«range_iterator.__length_hint__» ⟨[.ref I], []⟩) (fun _ R s => IsRangeIter s.heap I a n c ∧ R (.ok (.ret (.int n s.toks))) { s with toks := s.toks + 1 }) :=
  .of_wp fun prog w A R s h => by
    obtain ⟨hp, g, d, tk, os⟩ := s
    obtain ⟨hl, h⟩ := h
    have hl' : hp.get? I = some { cls := .type "range_iterator", data := .fields #[rawInt a, rawInt n, rawInt c] } := hl
    unfold Builtin.«range_iterator.__length_hint__»
    wp_walk
    exact ⟨_, rfl, h⟩
theorem collect_rit {it : Addr} {a c : Int} {n : Nat} {Q : List Value → Shared → Prop} (hh : A.handled = none) (hit : IsRangeIter s.heap it a (n : Int) c) (hn : n ≤ sizeLine)
    (hQ : ∀ (s' : Shared) (acc : Array Value), (∀ b o, b ≠ it → s.heap.get? b = some o → s'.heap.get? b = some o) → s'.gens = s.gens → s'.drawn = s.drawn → s'.os = s.os → ItemsOf (fun i v => ∃ t, v = .int (a + i * c) t) acc n → Q acc.toList s') :
    wpAny (model prog w) A (collect (.ref it)) Q E s := by
  have hlt : ∀ b ∈ [it], b < s.heap.objs.size := fun b hb => by rw [List.mem_singleton.mp hb]; exact Heap.lt_size hit
  have e0 : a + ((0 : Nat) : Int) * c = a := by simp
  have e1 : (n : Int) - ((0 : Nat) : Int) = (n : Int) := by simp
  refine wpAny_collect_iter_range (Walks.range (A := A.in1) hh it a c n).toS (fun i s st => ⟨_, st, rfl⟩) (by rw [e0, e1]; exact hit) hlt (List.mem_singleton.mpr rfl) (fun s₁ Q' E' st hq => ?_) (fun s' acc hm ha => hQ s' acc (fun b o hb e => hm.heap b o (fun h => hb (List.mem_singleton.mp h)) e) hm.gens hm.drawn hm.os ha) hn
  have st' : IsRangeIter s₁.heap it (a + ((0 : Nat) : Int) * c) ((n : Int) - ((0 : Nat) : Int)) c := st
  rw [e0, e1] at st'
  refine call_meets F.slot_range_iterator_length_hint ⟨_, st', rfl⟩ F.entry_range_iterator_length_hint (F.args_range_iterator_length_hint_1 _) (rit_hint_meets it a n c) ⟨st', hq _ _ _ (Nat.le_succ _) ?_⟩
  have : ((n : Int)).toNat = n := by omega
  rw [this]
  unfold Builtin.List.listTooLong
  simp; omega
theorem code_tuple_new_rit {it : Addr} {a c : Int} {n : Nat} {Q₁ : Value → Shared → Prop} (hh : A.handled = none) (hit : IsRangeIter s.heap it a (n : Int) c) (hn : n ≤ sizeLine)
    (h : ∀ (s' : Shared) (acc : Array Value), (∀ b o, b ≠ it → s.heap.get? b = some o → s'.heap.get? b = some o) → s'.gens = s.gens → s'.drawn = s.drawn → s'.os = s.os → ItemsOf (fun i v => ∃ t, v = .int (a + i * c) t) acc n →
      Q₁ (.ref s'.heap.objs.size) { s' with heap := s'.heap.push { cls := .type "tuple", data := .seq acc } }) :
    codeAny (model prog w) A (.call (.builtin "tuple.__new__") ⟨[.type "tuple", .ref it], []⟩) (wants Q₁ E) s := by
  refine codeAny_of_tree ?_
  show wpAny _ A.in1 (do checkBuiltinCall "tuple.__new__" ⟨[.type "tuple", .ref it], []⟩; again (.builtin "tuple.__new__" ⟨[.type "tuple", .ref it], []⟩)) _ _ s
  refine wpAny_bind (wpAny_of_eq (F.newCall_tuple_1 _) (wpAny_pure ⟨plainId_quiet F.plain_tuple_new _, codeAny_builtin F.entry_tuple_new ?_⟩))
  rw [Around.under_plainId F.plain_tuple_new _]
  have hsub := sub_tuple_self
  have hinit := init_tuple_lookup
  have hmh := madeHere_tuple
  have hTI : s.TypeIs (.ref it) "range_iterator" := ⟨_, hit, rfl⟩
  have hh1 : A.in1.handled = none := hh
  wp_walk using wpAny_typeOf hTI, collect_rit (A := A.in1) hh1 hit hn
  intro s' acc hk e1 e2 e3 hacc
  show wpAny _ _ (Builtin.Tuple.tupleExact acc.toList.toArray >>= fun v => ret v) _ _ _
  unfold Builtin.Tuple.tupleExact
  refine wpAny_bind (wpAny_newObj_type ?_ (by show acc.toList.toArray.size ≤ sizeLine; simp only [Array.toArray_toList]; rw [hacc.1]; exact hn))
  refine wpAny_pure ?_
  have e : acc.toList.toArray = acc := by simp
  rw [e]
  exact h s' acc hk e1 e2 e3 hacc
theorem call_tuple_rit {it : Addr} {a c : Int} {n : Nat} {Q : Value → Shared → Prop} (hh : A.handled = none) (hit : IsRangeIter s.heap it a (n : Int) c) (hn : n ≤ sizeLine)
    (hQ : ∀ (s' : Shared) (acc : Array Value), (∀ b o, b ≠ it → s.heap.get? b = some o → s'.heap.get? b = some o) → s'.gens = s.gens → s'.drawn = s.drawn → s'.os = s.os → ItemsOf (fun i v => ∃ t, v = .int (a + i * c) t) acc n →
      Q (.ref s'.heap.objs.size) { s' with heap := s'.heap.push { cls := .type "tuple", data := .seq acc } }) :
    wpAny (model prog w) A (call (.type "tuple") [.ref it]) Q E s := by
  refine callType_codes (Q₁ := fun obj s₁ => s₁.TypeIs obj "tuple" ∧ Q obj s₁) F.called_tuple (F.typeCall_tuple_1 _) F.entry_object_init
    (code_tuple_new_rit (A := A.in1) hh hit hn fun s' acc hk e1 e2 e3 hacc => ⟨⟨_, Heap.get?_push_size _ rfl, rfl⟩, hQ s' acc hk e1 e2 e3 hacc⟩) fun obj s₁ h₁ => ?_
  exact ⟨h₁.1, F.args_object_init_2 obj _, object_init_meets F.called_tuple.init.lookup F.called_tuple.made (by decide) prog w A.in1 _ s₁ ⟨h₁.1, rfl, h₁.2⟩⟩
end
end RTR
namespace Zy
open PySem L2 PySem.Spec PyProof.Rows
theorem vals_of_ix : ∀ (us : List Value) (f : Nat → V), (∀ j u, us[j]? = some u → RelV (f j) u) → Vals ((List.range us.length).map f) us := L2.vals_of_get
section
variable {X : Cx} {e : Expr} {te : TEz} {pos p p2 p3 p4 : Pos}
/-- tuple(reversed(range(e))) -/
def zTupRev (te : TEz) : TEz := fun s H Q => te s H fun x H1 => match x with | .int n => 0 ≤ n ∧ n ≤ 1000 ∧ ∀ r : List Int, r.length = n.toNat → (∀ i ∈ r, 0 ≤ i ∧ i < n) → Q (row r) H1 | _ => False
theorem ze_tupRev (hc : X.calm = true) (ht : X.mg "tuple" = none) (hr : X.mg "range" = none) (hv : X.mg "reversed" = none) (he : ZE X e te) (hg : Gl X "tuple" := by rfl) (hg2 : Gl X "range" := by rfl) (hg3 : Gl X "reversed" := by rfl)
    (na : starEach [e] X.env = (false, eval e X.env) :: starEach [] X.env := by rfl) (na2 : starEach [.Call (.Name "range" p2) [e] [] p] X.env = (false, eval (.Call (.Name "range" p2) [e] [] p) X.env) :: starEach [] X.env := by rfl)
    (na3 : starEach [.Call (.Name "reversed" p4) [.Call (.Name "range" p2) [e] [] p] [] p3] X.env = (false, eval (.Call (.Name "reversed" p4) [.Call (.Name "range" p2) [e] [] p] [] p3) X.env) :: starEach [] X.env := by rfl) {p5 : Pos} :
    ZE X (.Call (.Name "tuple" p5) [.Call (.Name "reversed" p4) [.Call (.Name "range" p2) [e] [] p] [] p3] [] pos) (zTupRev te) := by
  refine ⟨fun pins s σ H Q1 I h => ?_⟩
  obtain ⟨sz, Z, Q, rs, rh, q, kk⟩ := h
  have prg := prg_1 (ta := dnE X.K te) hg2 hr he na (p := p2) (pos := p) pins s σ H
    (fun a b H1 => a = 0 ∧ 0 ≤ b ∧ b ≤ 1000 ∧ ∃ Z1, TM H H1 ∧ RH X.K H1 Z1 ∧ ∀ r : List Int, r.length = b.toNat → (∀ i ∈ r, 0 ≤ i ∧ i < b) → Q (row r) Z1) I
    ⟨sz, Z, _, rs, rh, q, fun v H1 ⟨d, Z1, m1, rd, rh1, q1⟩ => by
      cases rd with
      | int n => exact ⟨n, rfl, rfl, q1.1, q1.2.1, Z1, m1, rh1, q1.2.2⟩
      | _ => exact q1.elim⟩
  refine Call_ (ld_blt I hg ht boot_tuple (PyProof.Rows.callWith_type1 (args_cons ?_ na3) na3))
  refine Call_ (ld_blt I hg3 hv PyProof.Rows.boot_reversed (PyProof.Rows.callWith_type1 (args_cons (thn prg fun x s1 ⟨r, a, b, t, u, v, H1, ex, hr1, I1, ea, b0, b1, Z1, m1, rh1, q1⟩ => args_nil ?_) na2) na2 rfl))
  subst ex ea
  have hn : Builtin.Range.rangeSize 0 b 1 = (b.toNat : Int) := by
    have := rangeSize_nat 0 b
    rw [this]
    congr 1
    omega
  refine call_reversed_range hr1 (smallRev_one (by omega) (by omega) (by omega) (by omega)) (args_nil ?_)
  have I2 : Inv X pins σ H1 { s1 with heap := s1.heap.push (rngRevObj 0 b 1) } := I1.kept (t' := s1.toks) fun b o e => Heap.get?_push_of_some _ e
  have hit : IsRangeIter (s1.heap.push (rngRevObj 0 b 1)) s1.heap.objs.size (0 + (Builtin.Range.rangeSize 0 b 1 - 1) * 1) ((b.toNat : Nat) : Int) (-1) := by
    rw [← hn]
    exact Heap.get?_push_size _ rfl
  have hz : b.toNat ≤ sizeLine := by rw [sizeLine_eq]; omega
  refine RTR.call_tuple_rit (s := { s1 with heap := s1.heap.push (rngRevObj 0 b 1) }) (I1.ok.hd hc) hit hz fun s' acc hk e1 e2 e3 hacc => ?_
  obtain ⟨f0, f1, f2, f3, f4, f5⟩ : FpOk X pins H1 s1.heap.objs.size := I1.fpOk (Nat.le_refl _) (I1.hok.fresh (Nat.le_refl _))
  have I3 : Inv X pins σ H1 s' := by
    have J := I2.turned (h' := s'.heap) (t' := s'.toks) (it := s1.heap.objs.size) (fun c o hc e => hk c o hc e) f0 f1 f3 f4 f5
    obtain ⟨hp, g, d, tk, os⟩ := s'
    dsimp only at e1 e2 e3 J ⊢
    subst e1 e2 e3
    exact J
  have ez : (Builtin.Range.rangeSize 0 b 1 - 1) * 1 = b - 1 := by rw [hn]; omega
  rw [ez] at hacc
  let f : Nat → Int := fun i => 0 + (b - 1) + (i : Int) * (-1)
  have hl : acc.toList.length = b.toNat := by rw [Array.length_toList]; exact hacc.1
  have rv : Vals (((List.range b.toNat).map f).map V.int) acc.toList := by
    rw [List.map_map, ← hl]
    refine L2.vals_of_get acc.toList _ fun j u hj => ?_
    obtain ⟨t, ht⟩ := hacc.2 j u (by rw [← hj, Array.getElem?_toList])
    exact ⟨t, ht⟩
  have hf : H1 s'.heap.objs.size = none := I3.hok.fresh (Nat.le_refl _)
  refine ⟨.ref s'.heap.objs.size, upd H1 s'.heap.objs.size (.tup (((List.range b.toNat).map f).map V.int)), I3.laid (t' := s'.toks) (fun c o e => Heap.get?_push_of_some _ e) (Nat.le_refl _) (show ObjOk X.prog X.w _ _ _ (.tup (((List.range b.toNat).map f).map V.int)) from ⟨?_, acc.toList, rv, ?_⟩), rfl, kk _ _ ((up_tup rh1 hf (RDs.ints _) (q1 _ ?_ ?_)).tm m1)⟩
  · rw [List.length_map, List.length_map, List.length_range]; exact hz
  · rw [Array.toArray_toList]; exact IsTup.new _ _
  · rw [List.length_map, List.length_range]
  · intro i hi
    obtain ⟨j, hj, rfl⟩ := List.mem_map.mp hi
    have := List.mem_range.mp hj
    show 0 ≤ 0 + (b - 1) + (j : Int) * (-1) ∧ 0 + (b - 1) + (j : Int) * (-1) < b
    omega
end
end Zy
set_option Elab.async false
set_option linter.all false
set_option maxRecDepth 100000
set_option maxHeartbeats 4000000
namespace Zy
open PySem L2 PySem.Spec PyProof.Rows
section
variable {X : Cx} {e : Expr} {es : List Expr} {te : TEz} {ua : TAz} {pos p : Pos} {x : Str}
theorem dp_ints {K : PySem.W.Frag} {H : Hp} : ∀ r : List Int, DpAll K H (r.map V.int) (r.map PyData.int)
  | [] => .nil
  | i :: r => .cons (.int i) (dp_ints r)
theorem lay_ints : ∀ r : List Int, PyData.canLayAll0 (r.map PyData.int) = true
  | [] => rfl
  | i :: r => by
    have ih := lay_ints r
    simp [PyData.canLayAll0, PyData.canLay0, ih]
theorem deep_ints : ∀ r : List Int, PyData.depthAll (r.map PyData.int) ≤ 2
  | [] => by simp [PyData.depthAll]
  | i :: r => by
    have ih := deep_ints r
    simp only [List.map_cons, PyData.depthAll, PyData.depth]
    exact Nat.max_le.mpr ⟨by omega, ih⟩
theorem shaped_ints (r : List Int) : SeqAt.shaped (.list (r.map PyData.int)) = true := by
  unfold SeqAt.shaped
  have h1 : (PyData.list (r.map PyData.int)).canLay0 = true := by rw [PyData.canLay0]; exact lay_ints r
  rw [h1]
  have := deep_ints r
  rw [Bool.true_and]
  refine decide_eq_true ?_
  rw [PyData.depth]
  omega
/-- two lists of the same ints -/
theorem oz_neL (hu : X.A.units + 64 < cLine) : OpZ X (compareOp .NotEq) (fun x y H Q => match x, y with
  | .ref a, .ref b => (match H a, H b with
    | some (.lst xs), some (.lst ys) => (∃ r : List Int, r.length ≤ 1000 ∧ xs = r.map D.int ∧ ys = r.map D.int) ∧ Q (.bl false) H
    | _, _ => False)
  | _, _ => False) := opz (op_neD hu) fun H Z x y v u Q rx ry rh q => by
  cases rx with
  | ref a =>
    cases ry with
    | ref b =>
      have q' : (match Z a, Z b with | some (.lst xs), some (.lst ys) => (∃ r : List Int, r.length ≤ 1000 ∧ xs = r.map D.int ∧ ys = r.map D.int) ∧ Q (.bl false) Z | _, _ => False) := q
      split at q'
      · rename_i xs ys ha hb
        obtain ⟨⟨r, hr, rfl, rfl⟩, q2⟩ := q'
        obtain ⟨vs, h1, r1⟩ := rh a _ ha
        obtain ⟨us, h2, r2⟩ := rh b _ hb
        have e1 := RDs.ints_inv r1
        have e2 := RDs.ints_inv r2
        subst e1 e2
        have hs := shaped_ints r
        refine ⟨_, _, .lst (.of h1) (dp_ints r), .lst (.of h2) (dp_ints r), hs, hs, ?_⟩
        rw [SeqAt.eqv_refl _ (SeqAt.canLay_of_shaped hs)]
        exact up_same (.bl _) rh q2
      · exact q'.elim
    | _ => exact q.elim
  | _ => exact q.elim
/-! ### isinstance of a scalar, a built-in class -/
def tyD : D → Option String
  | .non => some "NoneType" | .bl _ => some "bool" | .int _ => some "int" | .str _ => some "str"
  | _ => none
def rIsiZ : RCz := fun xs H Q => match xs with
  | [x, .ty t] => (match tyD x with | some s => (match kitB s t with | some b => Q (.bl b) H | none => False) | none => False)
  | _ => False
theorem cz_isi : CallZ X (.builtin "isinstance") rIsiZ := callz call_isi fun H Z xs vs Q rx rh q => by
  cases rx with
  | nil => exact q.elim
  | cons h r => cases r with
    | nil => exact q.elim
    | cons h2 r2 => cases r2 with
      | cons _ _ => cases h2 <;> exact q.elim
      | nil =>
        cases h2 with
        | ty t =>
          rename_i d v
          have q' : (match tyD d with | some s => (match kitB s t with | some b => Q (.bl b) Z | none => False) | none => False) := q
          cases h with
          | non => dsimp only [tyD] at q'; split at q' <;> first | (rename_i b hb; exact ⟨_, _, _, _, b, rfl, .ty t, .base .non, kit_ty hb, up_same (.bl _) rh q'⟩) | exact q'.elim
          | bl b0 => dsimp only [tyD] at q'; split at q' <;> first | (rename_i b hb; exact ⟨_, _, _, _, b, rfl, .ty t, .base (.bl b0), kit_ty hb, up_same (.bl _) rh q'⟩) | exact q'.elim
          | int i => dsimp only [tyD] at q'; split at q' <;> first | (rename_i b hb; exact ⟨_, _, _, _, b, rfl, .ty t, .base (.int i), kit_ty hb, up_same (.bl _) rh q'⟩) | exact q'.elim
          | str z => dsimp only [tyD] at q'; split at q' <;> first | (rename_i b hb; exact ⟨_, _, _, _, b, rfl, .ty t, .base (.str z), kit_ty hb, up_same (.bl _) rh q'⟩) | exact q'.elim
          | _ => exact q'.elim
        | _ => exact q.elim
/-- a built-in class's name, as a value -/
theorem ze_ty {t : String} (hg : Gl X x) (hm : X.mg x = none) (hv : bootBuiltins x = some (.type t)) (hn : x ≠ "__name__" := by decide) (hd : (x == ("__debug__" : Str)) = false := by decide) : ZE X (.Name x pos) (zC (.ty t)) :=
  ze_c (pe_bltn (v := .ty t) hg hm hv rfl hn hd) fun _ _ => .ty t
/-- a constant of the module -/
theorem ze_gint {i : Int} {tk : Tok} (hm : X.mg x = some (.int i tk)) (hg : Gl X x := by rfl) (hd : (x == ("__debug__" : Str)) = false := by decide) : ZE X (.Name x pos) (zC (.int i)) :=
  ze_c (pe_glob (v := .int i) hg hm ⟨_, rfl⟩ hd) fun _ _ => .int i
end
end Zy
set_option Elab.async false
set_option linter.all false
set_option maxRecDepth 100000
set_option maxHeartbeats 4000000
namespace Zy
open PySem L2 PySem.Spec PyProof.Rows
/-! ### isinstance of the exception that is handled, the exception pinned -/
theorem call_isX {X : Cx} {a D : Addr} {oe : Obj} (C : ExcC X.K D) (hz : Zc (.ref D) none oe) (hf : ∃ vs, oe.data = .fields vs) (hp : (a, oe) ∈ X.pn) : CallR X (.builtin "isinstance") (rIsE X.K D a) := by
  intro pins s σ H xs us Q I r h
  obtain ⟨c, cv, b, rfl, hcv, e, q⟩ := h
  cases r with
  | cons rx rr =>
    cases rr with
    | cons rt rr =>
      cases rr
      cases rx
      have ec := hcv _ rt
      subst ec
      obtain ⟨hget, _⟩ := I.pin (a, oe) (List.mem_append.mpr (.inl hp))
      obtain ⟨vs, hv⟩ := hf
      have J : PySem.W.InstAt s.heap a oe D none := by
        obtain ⟨oc, od, oda, osl⟩ := oe
        obtain ⟨h1, h2⟩ := hz
        dsimp only at h1 h2 hv
        subst h1 h2 hv
        exact ⟨hget, rfl, rfl, trivial⟩
      exact PySem.W.kia_one (PySem.W.handS_kitx_exc C.hg C.hk C.hs C.hd C.ha C.hn C.ht C.hm) I.kIn J e (fun z => nomatch z) fun tk => ⟨.bl b, H, I.kept (t' := tk) fun _ _ z => z, rfl, q⟩
/-! ### a def that is called in an except suite with the exception; its answer is b -/
structure FnE (P : Program) (w : World) (K : PySem.W.Frag) (mg : Str → Option Value) (base : Heap) (k : Nat) (x : Str) (D : Addr) (b : Bool) : Prop where
  ex : ∃ (f : Addr) (fd : FuncData) (ps : List Str), ps.length = 1 ∧ mg x = some (.ref f) ∧ PySem.W.keepIn K (.ref f) = true ∧ Binds K fd ps [] ∧
    ∀ (A : Around) (outer : List Env) (s : Shared) (H : Hp) (us : List Value) (Q : VK) (a : Addr) (oe : Obj), L2H.RoomH k A → L2H.PinOk outer H s (a, oe) → Zc (.ref D) none oe → (∃ vs, oe.data = .fields vs) → Env0 P w K mg base A outer s H →
      BindsTo s fd ⟨us, []⟩ (ps.zip us) → Vals [.ref a] us → Q (.bl b) H → codeAny (model P w) A (.call (.ref f) ⟨us, []⟩) (CR CX0 outer P w H s Q fun _ _ _ => False) s
section
variable {P : Program} {w : World} {K : PySem.W.Frag} {mg : Str → Option Value} {base : Heap} {x qual : Str} {params : Arguments} {body : List Stmt} {scope : Scope} {f : Addr} {fd : FuncData} {N ps : List Str} {k : Nat}
theorem fne {D : Addr} {b : Bool} (F : FunD K x qual params body scope [] [] f fd) (S : FnScope N ps scope) (gx : mg x = some (.ref f)) (hb : Binds K fd ps []) (hn : ps.length = 1)
    (der : ∀ (X : Cx) (cdv : Value) (A : Around) (outer : List Env) (s : Shared) (H : Hp) (a : Addr) (oe : Obj), X = L2H.cxH CX0 P w K mg base N qual scope f cdv A outer s H (fun _ _ _ => False) (a, oe) → L2H.RoomH k X.A → Zc (.ref D) none oe → (∃ vs, oe.data = .fields vs) →
      ∃ t, PSs X.nox body t ∧ ∀ Q : VK, Q (.bl b) H → t { nx := fun _ H' => Q .non H', rt := Q } (L2.start N [.ref a]) H) : FnE P w K mg base (k + 1) x D b := by
  refine ⟨f, fd, ps, hn, gx, F.kp, hb, fun A outer s H us Q a oe hr hpin hz hf e0 hbind r hq => ?_⟩
  obtain ⟨oc, od, dV, kV, doc, pm, an, cdv, ct, osl, rfl, lk, hcd, _, _⟩ := F.ex
  have hl : ([V.ref a] : List V).length = ps.length := hn.symm
  have KX : K.In s.heap := e0.mod.kin.keeps fun b o e => (e0.bs b o e).1
  have lim : s.heap.NoLimit := e0.mod.nolimit.keeps fun b o e => (e0.bs b o e).1
  have hkind : ∀ y ∈ ps.zip us, scope.names.lookup y.1 = some .local ∨ (scope.names.lookup y.1 = some .cell ∧ ((cellsFrom (s.heap.objs.size + 1) scope.names []).lookup y.1).isSome = true) := fun ⟨n, v⟩ hy => by
    rcases S.par n (List.of_mem_zip hy).1 with q | q
    · exact .inl q
    · exact .inr ⟨q, PySem.W.cellsFrom_some _ _ _ (.inl q)⟩
  refine codeAny_call_function hr.depth (KX _ _ lk) rfl S.co S.gen rfl (PySem.W.codeRec_of KX hcd) (hbind _ _ _ _ ?_)
  refine wpAny_newFunctionEnv_cells S.kind hkind fun env he s1 x => ?_
  subst he
  refine ⟨lim.keeps x.toInCall.keep, codeAny_func ?_⟩
  obtain ⟨t, ht, hq'⟩ := der _ cdv A outer s H a oe rfl (hr.deeper _) hz hf
  have I : Inv (L2H.cxH CX0 P w K mg base N qual scope f cdv A outer s H (fun _ _ _ => False) (a, oe)) [] (L2.start N [.ref a]) H s1 := L2H.inv_startH S hpin e0 hl r x
  refine wpAny_mono (ht.nox.run [] s1 (L2.start N [.ref a]) H _ I (hq' Q hq)) (fun fl s' hs => ?_) fun e s' hs => hs
  have fin : ∀ {σ' : L2.St} {H' : Hp} {v : V} {u : Value}, Inv (L2H.cxH CX0 P w K mg base N qual scope f cdv A outer s H (fun _ _ _ => False) (a, oe)) [] σ' H' s' → RelV v u → Q v H' → CE outer P w H s Q u s' :=
    fun {σ' H' v u} J rv q => ⟨v, H', J.os, J.bare, J.base, J.hok, rv, q⟩
  cases fl with
  | ret u =>
    obtain ⟨v, σ', H', J, rv, q⟩ := hs
    exact fin J rv q
  | next =>
    obtain ⟨σ', H', J, q⟩ := hs
    exact fin (v := V.non) (u := Value.none) J rfl q
  | brk =>
    obtain ⟨_, _, _, q⟩ := hs
    exact False.elim q
  | cont =>
    obtain ⟨_, _, _, q⟩ := hs
    exact False.elim q
end
section
variable {X : Cx} {k : Nat} {x : Str} {D : Addr} {b : Bool} {e : Expr} {p pos : Pos}
/-- .. called: f(e), e the handled exception -/
theorem pe_callE {a : Addr} {oe : Obj} {te : TE} (F : FnE X.prog X.w X.K X.mg X.base k x D b) (hr : L2H.RoomH k X.A) (hp : (a, oe) ∈ X.pn) (hz : Zc (.ref D) none oe) (hf : ∃ vs, oe.data = .fields vs) (ha : PE X e te) (hg : Gl X x)
    (hdb : (x == ("__debug__" : Str)) = false := by decide) (he : starEach [e] X.env = (false, eval e X.env) :: starEach [] X.env := by rfl) (hpl : (backTo pos (starEach [] X.env)).any (·.1) = false := by rfl) :
    PE X (.Call (.Name x p) [e] [] pos) (fun σ H Q => te σ H fun v H' => [v] = [V.ref a] ∧ Q (.bl b) H') := by
  obtain ⟨f, fd, ps, h1, h2, h3, h4, h5⟩ := F.ex
  refine ⟨fun pins s σ H Q I h => ?_⟩
  refine wpAny_Call_Name_kw (ld_glob I hg h2 ?_ hdb)
  refine PySem.W.callWith_K (h₀ := X.base) I.ok.mod.kin h3 (thn ((pa_cons ha pa_nil he).run pos pins s σ H (fun vs H' => vs = [.ref a] ∧ Q (.bl b) H') I h) fun us s1 ⟨vs, H1, I1, r, ev, q⟩ => ⟨I1.kIn, ?_⟩) he hpl
  · subst ev
    have hl : us.length = ps.length := by rw [← r.length, h1]; rfl
    have bb := h4 s1 us I1.kIn (by rw [List.append_nil]; exact hl)
    rw [List.append_nil] at bb
    have P1 := I1.pin (a, oe) (List.mem_append_left _ hp)
    have hpin : L2H.PinOk X.stack H1 s1 (a, oe) := ⟨P1.1, P1.2.1, fun hm => (List.mem_cons.mp (I1.stkSub a hm)).elim P1.2.2.1 P1.2.2.2.1, P1.2.2.2.2⟩
    refine wpAny_call (codeAny_mono (h5 X.A X.stack s1 H1 us Q a oe hr hpin hz hf I1.env0 bb r q) fun r s' hq => ?_)
    cases r with
    | error e => exact False.elim hq
    | ok fl =>
      cases fl with
      | ret u => exact I1.after hq
      | next => exact False.elim hq
      | brk => exact False.elim hq
      | cont => exact False.elim hq
/-! ### try: return e / except c as n: return s1 if f(n) else s2, f's answer being true -/
def zTryRet (C : Addr) (s1 : Str) (te : WZ → TEz) : TSz := fun D s H => te (fun C' _ H' => C' = C ∧ D.rt (.str s1) H') s H D.rt
variable {Cc CB : Addr} {i : Nat} {n fx : Str} {np p1 p2 p3 p4 p5 p6 p7 p8 pos' : Pos} {te : WZ → TEz} {s1 s2 : Str} {j1 j2 : Nat}
theorem zs_tryRet (hs : X.stack = X.env :: X.outer) (hf : X.env.frame = some X.env.locals) (hN : X.N.Nodup) (hi : X.N[i]? = some n) (hln : X.env.kindOf n = some .local) (hc : Names X x (.ref Cc)) (hcls : PySem.W.exmOne X.K (.ref CB) (.ref Cc) = some true) (hil : i < X.N.length)
    (F : FnE X.prog X.w X.K X.mg X.base k fx CB true) (hr : Room k X.A) (hgf : Gl X fx) (hdb : (fx == ("__debug__" : Str)) = false)
    (der : ∀ (pn : List (Addr × Obj)) (xe : Value → Shared → Prop) (W : WZ), TakesZ (X.tr pn xe) W → ZE (X.tr pn xe) e (te W))
    (hdn : (n == ("__debug__" : Str)) = false) (hcn : (n == ("__classdict__" : Str)) = false)
    (hv : ∀ a pn, starEach [.Name n p2] (X.suite a pn).env = (false, eval (.Name n p2) (X.suite a pn).env) :: starEach [] (X.suite a pn).env := by intros; rfl)
    (he2 : ∀ a pn whole, isTrue (.Call (.Name fx p1) [.Name n p2] [] p3) (X.suite a pn).env whole = (do let v ← whole; standAt (Expr.Call (.Name fx p1) [.Name n p2] [] p3).pos; holding [v] (truthy v)) := by intros; rfl) :
    PS X (.Try [.Return (some e) p8] [.ExceptHandler (some (.Name x np)) (some n) [.Return (some (.IfExp (.Call (.Name fx p1) [.Name n p2] [] p3) (.Constant (.str s1) j1 p4) (.Constant (.str s2) j2 p5) p6)) p7] pos'] [] [] pos) (fun D1 σ H => H = X.H_0 ∧ dnS X.K (zTryRet CB s1 te) D1 σ H) := by
  have R : PS X _ _ := ps_try_as (X := X) (x := x) (n := n) (c := .ref Cc) (i := i) (np := np) (pos := pos) (pos' := pos') (Wout := fun _ _ _ _ => False)
    (body := [.Return (some e) p8]) (b₀ := .Return (some (.IfExp (.Call (.Name fx p1) [.Name n p2] [] p3) (.Constant (.str s1) j1 p4) (.Constant (.str s2) j2 p5) p6)) p7) (suite := [])
    (tb := fun W D1 σ H => ∃ Wz : WZ, (∀ C s' Z' σ' H', σ'.length = X.N.length ∧ TM X.H_0 H' → RS X.K H' s' σ' → RH X.K H' Z' → Wz C s' Z' → W (.ref C) none σ' H') ∧ dnE X.K (te Wz) σ H D1.rt)
    (ts := fun a cls d D1 σ H => (cls = .ref CB ∧ d = none) ∧ σ[i]? = some (some (.ref a)) ∧ D1.rt (.str s1) H)
    hs hf hN hi hln hc takes0
    (fun W pn xe tk hpo => ⟨fun pins s σ H D1 I ⟨Wz, hW, h⟩ => (pss_one (ps_ret (der pn xe Wz (Takes.imp tk fun cls d σ' H' ⟨C, s', Z', e1, e2, m, rs', rh', w'⟩ => by subst e1 e2; exact hW C s' Z' σ' H' m rs' rh' w')))).run pins s σ H D1 I h⟩)
    (fun a oe cls d pn hz hvs => ⟨fun pins s σ H D1 I ⟨⟨e1, e2⟩, hσ, hq⟩ => by
      subst e1 e2
      have hpv : PE (X.suite a ((a, oe) :: pn)) (.Name n p2) (tVar i) := pe_var (X := X.suite a ((a, oe) :: pn)) hi (.inl hln) hdn hcn
      have hcall := pe_callE (X := X.suite a ((a, oe) :: pn)) (p := p1) (pos := p3) F ⟨by have := hr.dp; exact this, by have := hr.un; exact this⟩ (List.mem_cons_self) hz hvs hpv hgf hdb (hv a _) rfl
      have hret := ps_ret (pos := p7) (pe_ifExp (pos := p6) (pt_val hcall (he2 a _)) (pe_str (x := s1) (j := j1) (pos := p4)) (pe_str (x := s2) (j := j2) (pos := p5)))
      refine (pss_one hret).run pins s σ H D1 I ?_
      exact ⟨.ref a, hσ, rfl, true, rfl, iteT hq⟩⟩)
  refine R.zimp fun D1 σ H ⟨eH, s, Z, D, rs, rh, q, k1, k2, k3, k4⟩ => ?_
  refine ⟨fun C' s' H' => C' = CB ∧ D.rt (.str s1) H', fun C s' Z' σ' H' m rs' rh' ⟨e1, q'⟩ => ?_, s, Z, _, rs, rh, q, fun v H' h => k2 _ _ h⟩
  subst e1
  refine ⟨true, hcls, fun _ a ha => ⟨⟨rfl, rfl⟩, ?_, ?_⟩, fun z => Bool.noConfusion z⟩
  · rw [List.getElem?_set_self (by rw [m.1]; exact hil)]
  · subst eH
    exact k2 _ _ ⟨.str s1, Z', m.2, .str s1, rh', q'⟩
end
end Zy
set_option Elab.async false
set_option linter.all false
set_option maxRecDepth 100000
set_option maxHeartbeats 0
namespace Zy
open PySem L2 PySem.Spec PyProof.Rows
/-! ### the head's facts: He's, and one more Bool over the written part -/
def obsZ (chk : PySem.W.Frag → Bool) (fa : List He.Fa) (fn : List He.DefD) (K : PySem.W.Frag) : He.AlD := ((He.obsD fa fn K).1 && chk K, (He.obsD fa fn K).2)
def SaysZ (chk : PySem.W.Frag → Bool) (fa : List He.Fa) (fn : List He.DefD) (K : PySem.W.Frag) : Prop := obsZ chk fa fn K = He.valD fn
theorem SaysZ.d {chk : PySem.W.Frag → Bool} {fa : List He.Fa} {fn : List He.DefD} {K : PySem.W.Frag} (h : SaysZ chk fa fn K) : He.SaysD fa fn K ∧ chk K = true := by
  have h1 : ((He.obsD fa fn K).1 && chk K) = true := congrArg (fun z : He.AlD => z.1) h
  have h2 : (He.obsD fa fn K).2 = fn.map He.DefD.val := congrArg (fun z : He.AlD => z.2) h
  obtain ⟨h3, h4⟩ := Bool.and_eq_true_iff.mp h1
  exact ⟨Prod.ext h3 h2, h4⟩
def obsZG (chk : PySem.W.Frag → Bool) (n : Nat) (fa : List He.Fa) (fn : List He.DefD) (g : Addr → Option Obj) : He.AlD := obsZ chk fa fn (He.frG g (He.asD g n))
def hookZ (chk : PySem.W.Frag → Bool) (n : Nat) (fa : List He.Fa) (fn : List He.DefD) : PySem.W.Hook where
  α := He.AlD
  obs := fun s => obsZG chk n fa fn s.heap.get?
  val := fun _ => He.valD fn
  says := fun _ h => ∃ K : PySem.W.Frag, K.In h ∧ SaysZ chk fa fn K
  of := fun _ _ e => ⟨_, He.frG_in, e⟩
  keeps := fun _ _ _ ⟨K, hK, c⟩ k => ⟨K, PySem.W.Frag.In.keeps hK k, c⟩
theorem obsZG_eq {chk : PySem.W.Frag → Bool} {n : Nat} {fa : List He.Fa} {fn : List He.DefD} {g : Addr → Option Obj} {s : Shared} (h : ∀ a, g a = s.heap.get? a) : obsZG chk n fa fn g = (hookZ chk n fa fn).obs s := by
  have e : g = s.heap.get? := funext h
  rw [e] <;> rfl
end Zy
namespace K06
open PySem PySem.Spec PyProof.Rows L2 Zy
def top (i : Nat) : Stmt := PySem.Challenge.pw_changeview_k06_widths_told.main.body.getD i (.Pass ⟨0, 0, 0, 0⟩)
def dd (x : Str) (i : Nat) : He.DefD := ⟨(x, none), x, x, defArgs (top i), defBody (top i), defScope (top i), [], []⟩
def fn : List He.DefD := [dd "need_columns" 10, dd "width_of_one" 11, dd "width_of_two" 12, dd "width_of" 13, dd "_law_whole" 15, dd "_law_at" 16, dd "_law_some" 17, dd "_law_over_one" 18, dd "_law_over_two" 19, dd "_law_view" 20,
  dd "_law_widths" 21, dd "_law_there" 22, dd "_law_wide_one" 23, dd "_law_wide" 24, dd "_law_odd" 25, dd "_law_wrapped" 26, dd "_law_many" 27, dd "_law_said" 28, dd "_law_alone" 29, dd "law" 30]
def fa : List He.Fa := [.free "len", .free "int", .free "bool", .free "min", .free "list", .free "tuple", .free "range", .free "reversed", .free "isinstance", .free "ValueError",
  .glo "ChangeError", .glo "BadView", .glo "NoTable", .glo "NoView", .glo "BadRow", .glo "Lacking", .glo "Full", .int "MOST_WIDE" 40, .exc "BadView", .exm "BadView" "ChangeError" true,
  .glo "need_columns", .glo "width_of_one", .glo "width_of_two", .glo "width_of", .glo "_law_whole", .glo "_law_at", .glo "_law_some", .glo "_law_over_one", .glo "_law_over_two", .glo "_law_view",
  .glo "_law_widths", .glo "_law_there", .glo "_law_wide_one", .glo "_law_wide", .glo "_law_odd", .glo "_law_wrapped", .glo "_law_many", .glo "_law_said", .glo "_law_alone", .glo "law"]
/-- what isinstance asks of the class BadView -/
def chk (K : PySem.W.Frag) : Bool :=
  let D := He.ga K "BadView"
  decide (PySem.W.findIn K (.ref D) "__getattribute__" = some (some (.builtin "BaseException.__getattribute__"))) && decide (PySem.W.findIn K (.ref D) "__getattr__" = some none) &&
  decide (PySem.W.subIn K (.ref D) (.type "BaseException") = some true) && PySem.W.hasDictIn K D && decide (PySem.W.findIn K (.ref D) "__class__" = some (some (.builtin "object.__class__"))) &&
  decide (PySem.W.specialIn K (.builtin "object.__class__") "__get__" = some (some (.builtin "getset_descriptor.__get__"))) && decide (PySem.W.takesIn K (.builtin "object.__class__") = some true) && decide (PySem.W.mroIn K D (.type "object") = some true) &&
  decide (PySem.W.kitOne K (.ref D) (.ref (He.ga K "BadRow")) = some false) && decide (PySem.W.kitOne K (.ref D) (.ref (He.ga K "Full")) = some false) && decide (PySem.W.kitOne K (.ref D) (.ref (He.ga K "Lacking")) = some false) &&
  decide (PySem.W.kitOne K (.ref D) (.ref (He.ga K "NoTable")) = some false) && decide (PySem.W.kitOne K (.ref D) (.ref (He.ga K "NoView")) = some false) &&
  decide (PySem.W.kitOne K (.ref D) (.ref (He.ga K "BadView")) = some true) && decide (PySem.W.kitOne K (.ref D) (.type "ValueError") = some true)
abbrev R : PySem.W.OpenRow := PySem.W.OpenLaw.row PySem.Challenge.rw_changeview_k06_widths_told
abbrev hk : PySem.W.Hook := hookZ chk 6 fa fn
def ob (s : PySem.W.SharedT) : He.AlD := obsZG chk 6 fa fn (HandSHeadRun.getT s)
theorem ob_eq (s : PySem.W.SharedT) : ob s = hk.obs s.abs := obsZG_eq (HandSHeadRun.getT_eq s)
def loose : List PySem.Str := ["ChangeError", "BadView", "NoTable", "NoView", "BadRow", "Lacking", "Full", "MOST_WIDE", "need_columns", "width_of_one", "width_of_two", "width_of", "_law_whole", "_law_at", "_law_some", "_law_over_one", "_law_over_two", "_law_view", "_law_widths", "_law_there", "_law_wide_one", "_law_wide", "_law_odd", "_law_wrapped", "_law_many", "_law_said", "_law_alone"]
theorem run (w : World) : HandSHeadRun.RunEq R (PySem.W.view R.prog [30]) hk ob 2500 loose w := by
  intro os
  kernel_rfl
end K06
set_option Elab.async false
set_option linter.all false
set_option maxRecDepth 100000
set_option maxHeartbeats 4000000
namespace K06
open PySem PySem.Spec PyProof.Rows L2 Zy
theorem blkOk (N : List Str) (sc : Scope) {scope : Scope} {own : List (Str × Nat)} (h1 : scope.kind = .function) (h2 : ∀ y ∈ scope.names, scope.names.lookup y.1 = some y.2) (h3 : ∀ p ∈ own, N[p.2]? = some p.1)
    (h4 : ∀ y ∈ scope.names, y.2 = .free → sc.names.lookup y.1 = some .cell ∨ sc.names.lookup y.1 = some .free) (h5 : ∀ y ∈ scope.names, y.2 = .local ∨ y.2 = .cell → y.1 ∈ own.map (·.1) ∨ y.1 ∉ N) : BlkOk N sc scope own := ⟨h1, h2, h3, h4, h5⟩
/-! ### what the module's names are; readings and derivations of the defs -/
abbrev bV (K : PySem.W.Frag) : Addr := He.ga K "BadView"
structure Mk (K : PySem.W.Frag) (mg : Str → Option Value) : Prop where
  g_len : mg "len" = none
  g_int : mg "int" = none
  g_bool : mg "bool" = none
  g_min : mg "min" = none
  g_list : mg "list" = none
  g_tuple : mg "tuple" = none
  g_range : mg "range" = none
  g_reversed : mg "reversed" = none
  g_isinstance : mg "isinstance" = none
  gW : ∃ t, mg "MOST_WIDE" = some (.int 40 t)
  bq : PySem.W.excIn K (bV K) He.veBase "ValueError.__new__" = true
  bg : mg "BadView" = some (.ref (bV K))
  bk : PySem.W.keepIn K (.ref (bV K)) = true
  bs : PySem.W.subIn K (.ref (bV K)) (.type "BaseException") = some true
  bt : PySem.W.typeIn K (.ref (bV K)) = some (.type "type")
abbrev wE (E : XZ) : WZ := fun C _ Z => E C Z
def zRz (B : Addr) (E : XZ) : TSz := fun _ _ H => E B H
theorem tk0 {X : Cx} : TakesZ X (fun _ _ _ => False) := Takes.imp takes0 fun _ _ _ _ ⟨_, _, _, _, _, _, _, _, z⟩ => z
def bNl : R2z := fun x y H Q => match x, y with
  | .ref a, .ref b => (match H a, H b with
    | some (.lst xs), some (.lst ys) => (∃ r : List Int, r.length ≤ 1000 ∧ xs = r.map D.int ∧ ys = r.map D.int) ∧ Q (.bl false) H
    | _, _ => False)
  | _, _ => False

def t_need_columns (B : Addr) (E : XZ) : TSz :=
  (zFor (ziSeq (zV 0)) (zgName 2) (zIf (zNot (zTest (zChain bLe bLt (zC (.int 0)) (zV 2) (zV 1))))
    (zRz B E)
    zNext))
theorem sc_need_columns : FnScope ["some", "width", "column"] ["some", "width"] (defScope (top 10)) := ⟨rfl, rfl, rfl, by decide +kernel, rfl, by decide +kernel, by decide +kernel⟩
theorem d_need_columns {P : Program} {w : World} {K : PySem.W.Frag} {mg : Str → Option Value} {base : Heap} (M : Mk K mg) {k : Nat} {f : Addr} {X : Cx} {E : XZ} {cdv : Value} {A : Around} {outer : List Env} {s : Shared} {H : Hp} {E1 : XK} (e : X = cxOf (L2.CX P w) P w K mg base ["some", "width", "column"] "need_columns" (defScope (top 10)) f cdv A outer s H E1) (hr : Room k X.A) (tk : TakesZ X (fun C _ Z => E C Z)) (hp : PassesOwn (model X.prog X.w) X.A X.env X.xe) : ZSs X (defBody (top 10)) (t_need_columns (bV K) E) := by
  subst e
  have nd : (["some", "width", "column"] : List Str).Nodup := sc_need_columns.nd
  exact (zss_one (zs_for hp rfl (zi_seq (zv 0)) (zg_name nd (i := 2) rfl (by first | exact .inl rfl | exact .inr rfl | exact .inr (.inl rfl) | exact .inr (.inr rfl))) (zss_one (zs_if (zt_not (zt_chain oz_le oz_lt ze_int (zv 2) (zv 1)))
    (zss_one (zs_raise rfl tk M.bq M.bg M.bk (raises_own M.bs M.bt)))
    zss_nil))))
def t_width_of_one (B : Addr) (sp_need_columns : SpZ) (E : XZ) : TSz :=
  (zSeq (zIf (zTest (zOp bEq (zOp bIx (zV 0) (zC (.int 0))) (zC (.str "within"))))
   (zSeq (zDrop (zCall sp_need_columns (wE E) (zCons (zTup (zCons (zOp bIx (zV 0) (zC (.int 2))) zNil)) (zCons (zV 1) zNil))))
   (zRet (zV 1)))
   zNext)
  (zSeq (zIf (zTest (zOp bEq (zOp bIx (zV 0) (zC (.int 0))) (zC (.str "columns"))))
   (zSeq (zDrop (zCall sp_need_columns (wE E) (zCons (zOp bIx (zV 0) (zC (.int 2))) (zCons (zV 1) zNil))))
   (zSeq (zIf (zTest (zOp bEq (zCB rLenZ (zCons (zOp bIx (zV 0) (zC (.int 2))) zNil)) (zC (.int 0))))
    (zRz B E)
    zNext)
   (zRet (zCB rLenZ (zCons (zOp bIx (zV 0) (zC (.int 2))) zNil)))))
   zNext)
  (zSeq (zIf (zTest (zOp bEq (zOp bIx (zV 0) (zC (.int 0))) (zC (.str "sums"))))
   (zSeq (zDrop (zCall sp_need_columns (wE E) (zCons (zOp bAdd (zOp bIx (zV 0) (zC (.int 2))) (zTup (zCons (zOp bIx (zV 0) (zC (.int 3))) zNil))) (zCons (zV 1) zNil))))
   (zRet (zOp bAdd (zCB rLenZ (zCons (zOp bIx (zV 0) (zC (.int 2))) zNil)) (zC (.int 2)))))
   zNext)
  (zSeq (zIf (zAnd (zTest (zOp bEq (zOp bIx (zV 0) (zC (.int 0))) (zC (.str "reach")))) (zTest (zOp bNe (zV 1) (zC (.int 2)))))
   (zRz B E)
   zNext)
  (zRet (zV 1))))))
theorem sc_width_of_one : FnScope ["view", "width"] ["view", "width"] (defScope (top 11)) := ⟨rfl, rfl, rfl, by decide +kernel, rfl, by decide +kernel, by decide +kernel⟩
theorem d_width_of_one {P : Program} {w : World} {K : PySem.W.Frag} {mg : Str → Option Value} {base : Heap} (M : Mk K mg) {k : Nat} {sp_need_columns : SpZ} (F_need_columns : FnZ P w K mg base k "need_columns" 2 sp_need_columns) {f : Addr} {X : Cx} {E : XZ} {cdv : Value} {A : Around} {outer : List Env} {s : Shared} {H : Hp} {E1 : XK} (e : X = cxOf (L2.CX P w) P w K mg base ["view", "width"] "width_of_one" (defScope (top 11)) f cdv A outer s H E1) (hr : Room k X.A) (tk : TakesZ X (fun C _ Z => E C Z)) (hp : PassesOwn (model X.prog X.w) X.A X.env X.xe) : ZSs X (defBody (top 11)) (t_width_of_one (bV K) sp_need_columns E) := by
  subst e
  have nd : (["view", "width"] : List Str).Nodup := sc_width_of_one.nd
  exact (zss_cons (zs_if (zt_cmp oz_eq (ze_ix (zv 0) ze_int) ze_str)
   (zss_cons (zs_expr (ze_call F_need_columns tk hr (za_cons (ze_tup (za_cons (ze_ix (zv 0) ze_int) za_nil)) (za_cons (zv 1) za_nil))))
   (zss_one (zs_ret (zv 1))))
   zss_nil)
  (zss_cons (zs_if (zt_cmp oz_eq (ze_ix (zv 0) ze_int) ze_str)
   (zss_cons (zs_expr (ze_call F_need_columns tk hr (za_cons (ze_ix (zv 0) ze_int) (za_cons (zv 1) za_nil))))
   (zss_cons (zs_if (zt_cmp oz_eq (ze_callB cz_len (by rfl) M.g_len (by rfl) (za_cons (ze_ix (zv 0) ze_int) za_nil)) ze_int)
    (zss_one (zs_raise rfl tk M.bq M.bg M.bk (raises_own M.bs M.bt)))
    zss_nil)
   (zss_one (zs_ret (ze_callB cz_len (by rfl) M.g_len (by rfl) (za_cons (ze_ix (zv 0) ze_int) za_nil))))))
   zss_nil)
  (zss_cons (zs_if (zt_cmp oz_eq (ze_ix (zv 0) ze_int) ze_str)
   (zss_cons (zs_expr (ze_call F_need_columns tk hr (za_cons (ze_op oz_add (ze_ix (zv 0) ze_int) (ze_tup (za_cons (ze_ix (zv 0) ze_int) za_nil))) (za_cons (zv 1) za_nil))))
   (zss_one (zs_ret (ze_op oz_add (ze_callB cz_len (by rfl) M.g_len (by rfl) (za_cons (ze_ix (zv 0) ze_int) za_nil)) ze_int))))
   zss_nil)
  (zss_cons (zs_if (zw_and (zt_cmp oz_eq (ze_ix (zv 0) ze_int) ze_str) (zw_and1 (zt_cmp oz_ne (zv 1) ze_int))).pt
   (zss_one (zs_raise rfl tk M.bq M.bg M.bk (raises_own M.bs M.bt)))
   zss_nil)
  (zss_one (zs_ret (zv 1)))))))
def t_width_of_two (B : Addr) (sp_need_columns : SpZ) (E : XZ) : TSz :=
  (zSeq (zIf (zTest (zOp bEq (zOp bIx (zV 0) (zC (.int 0))) (zC (.str "meet"))))
   (zSeq (zDrop (zCall sp_need_columns (wE E) (zCons (zComp (ziSeq (zOp bIx (zV 0) (zC (.int 3)))) 3 (zOp bIx (zV 3) (zC (.int 0)))) (zCons (zV 1) zNil))))
   (zSeq (zDrop (zCall sp_need_columns (wE E) (zCons (zComp (ziSeq (zOp bIx (zV 0) (zC (.int 3)))) 3 (zOp bIx (zV 3) (zC (.int 1)))) (zCons (zV 2) zNil))))
   (zRet (zOp bAdd (zV 1) (zV 2)))))
   zNext)
  (zSeq (zIf (zTest (zOp bNe (zV 1) (zV 2)))
   (zRz B E)
   zNext)
  (zRet (zV 1))))
theorem sc_width_of_two : FnScope ["view", "width", "other", "pair"] ["view", "width", "other"] (defScope (top 12)) := ⟨rfl, rfl, rfl, by decide +kernel, rfl, by decide +kernel, by decide +kernel⟩
theorem d_width_of_two {P : Program} {w : World} {K : PySem.W.Frag} {mg : Str → Option Value} {base : Heap} (M : Mk K mg) {k : Nat} {sp_need_columns : SpZ} (F_need_columns : FnZ P w K mg base k "need_columns" 2 sp_need_columns) {f : Addr} {X : Cx} {E : XZ} {cdv : Value} {A : Around} {outer : List Env} {s : Shared} {H : Hp} {E1 : XK} (e : X = cxOf (L2.CX P w) P w K mg base ["view", "width", "other", "pair"] "width_of_two" (defScope (top 12)) f cdv A outer s H E1) (hr : Room k X.A) (tk : TakesZ X (fun C _ Z => E C Z)) (hp : PassesOwn (model X.prog X.w) X.A X.env X.xe) : ZSs X (defBody (top 12)) (t_width_of_two (bV K) sp_need_columns E) := by
  subst e
  have nd : (["view", "width", "other", "pair"] : List Str).Nodup := sc_width_of_two.nd
  exact (zss_cons (zs_if (zt_cmp oz_eq (ze_ix (zv 0) ze_int) ze_str)
   (zss_cons (zs_expr (ze_call F_need_columns tk hr (za_cons (ze_comp rfl nd (zi_seq (ze_ix (zv 0) ze_int)) (blkOk ["view", "width", "other", "pair"] (defScope (top 12)) rfl (by decide +kernel) (by decide +kernel) (by decide +kernel) (by decide +kernel)) (fun _ _ _ _ _ => (pg_name nd rfl (by first | exact .inl rfl | exact .inr rfl | exact .inr (.inl rfl) | exact .inr (.inr rfl)) (by first | exact .inl rfl | exact .inr rfl))) (fun s_ H_ C_ cl_ fp_ => (ze_ix (zv 3) ze_int))) (za_cons (zv 1) za_nil))))
   (zss_cons (zs_expr (ze_call F_need_columns tk hr (za_cons (ze_comp rfl nd (zi_seq (ze_ix (zv 0) ze_int)) (blkOk ["view", "width", "other", "pair"] (defScope (top 12)) rfl (by decide +kernel) (by decide +kernel) (by decide +kernel) (by decide +kernel)) (fun _ _ _ _ _ => (pg_name nd rfl (by first | exact .inl rfl | exact .inr rfl | exact .inr (.inl rfl) | exact .inr (.inr rfl)) (by first | exact .inl rfl | exact .inr rfl))) (fun s_ H_ C_ cl_ fp_ => (ze_ix (zv 3) ze_int))) (za_cons (zv 2) za_nil))))
   (zss_one (zs_ret (ze_op oz_add (zv 1) (zv 2))))))
   zss_nil)
  (zss_cons (zs_if (zt_cmp oz_ne (zv 1) (zv 2))
   (zss_one (zs_raise rfl tk M.bq M.bg M.bk (raises_own M.bs M.bt)))
   zss_nil)
  (zss_one (zs_ret (zv 1)))))
def t_width_of (B : Addr) (sp_width_of : SpZ) (sp_width_of_two : SpZ) (sp_width_of_one : SpZ) (E : XZ) : TSz :=
  (zSeq (zIf (zTest (zOp bEq (zOp bIx (zV 0) (zC (.int 0))) (zC (.str "table"))))
   (zSeq (zIf (zNot (zTest (zChain bLe bLt (zC (.int 0)) (zOp bIx (zV 0) (zC (.int 1))) (zCB rLenZ (zCons (zV 1) zNil)))))
    (zRz B E)
    zNext)
   (zRet (zOp bIx (zV 1) (zOp bIx (zV 0) (zC (.int 1))))))
   zNext)
  (zSeq (zIf (zTest (zOp (bIn false) (zOp bIx (zV 0) (zC (.int 0))) (zTup (zCons (zC (.str "both")) (zCons (zC (.str "less")) (zCons (zC (.str "meet")) zNil))))))
   (zAsg (zCall sp_width_of_two (wE E) (zCons (zV 0) (zCons (zCall sp_width_of (wE E) (zCons (zOp bIx (zV 0) (zC (.int 1))) (zCons (zV 1) zNil))) (zCons (zCall sp_width_of (wE E) (zCons (zOp bIx (zV 0) (zC (.int 2))) (zCons (zV 1) zNil))) zNil)))) (zgName 2))
   (zIf (zTest (zOp (bIn false) (zOp bIx (zV 0) (zC (.int 0))) (zTup (zCons (zC (.str "within")) (zCons (zC (.str "columns")) (zCons (zC (.str "once")) (zCons (zC (.str "sums")) (zCons (zC (.str "reach")) zNil))))))))
    (zAsg (zCall sp_width_of_one (wE E) (zCons (zV 0) (zCons (zCall sp_width_of (wE E) (zCons (zOp bIx (zV 0) (zC (.int 1))) (zCons (zV 1) zNil))) zNil))) (zgName 2))
    (zRz B E)))
  (zSeq (zIf (zTest (zOp bGt (zV 2) (zC (.int 40))))
   (zRz B E)
   zNext)
  (zRet (zV 2)))))
theorem sc_width_of : FnScope ["view", "widths", "found"] ["view", "widths"] (defScope (top 13)) := ⟨rfl, rfl, rfl, by decide +kernel, rfl, by decide +kernel, by decide +kernel⟩
theorem d_width_of {P : Program} {w : World} {K : PySem.W.Frag} {mg : Str → Option Value} {base : Heap} (M : Mk K mg) {k : Nat} {sp_width_of : SpZ} (F_width_of : FnZ P w K mg base k "width_of" 2 sp_width_of) {sp_width_of_two : SpZ} (F_width_of_two : FnZ P w K mg base k "width_of_two" 3 sp_width_of_two) {sp_width_of_one : SpZ} (F_width_of_one : FnZ P w K mg base k "width_of_one" 2 sp_width_of_one) {f : Addr} {X : Cx} {E : XZ} {cdv : Value} {A : Around} {outer : List Env} {s : Shared} {H : Hp} {E1 : XK} (e : X = cxOf (L2.CX P w) P w K mg base ["view", "widths", "found"] "width_of" (defScope (top 13)) f cdv A outer s H E1) (hr : Room k X.A) (tk : TakesZ X (fun C _ Z => E C Z)) (hp : PassesOwn (model X.prog X.w) X.A X.env X.xe) : ZSs X (defBody (top 13)) (t_width_of (bV K) sp_width_of sp_width_of_two sp_width_of_one E) := by
  subst e
  have nd : (["view", "widths", "found"] : List Str).Nodup := sc_width_of.nd
  obtain ⟨tW, gW⟩ := M.gW
  exact (zss_cons (zs_if (zt_cmp oz_eq (ze_ix (zv 0) ze_int) ze_str)
   (zss_cons (zs_if (zt_not (zt_chain oz_le oz_lt ze_int (ze_ix (zv 0) ze_int) (ze_callB cz_len (by rfl) M.g_len (by rfl) (za_cons (zv 1) za_nil))))
    (zss_one (zs_raise rfl tk M.bq M.bg M.bk (raises_own M.bs M.bt)))
    zss_nil)
   (zss_one (zs_ret (ze_ix (zv 1) (ze_ix (zv 0) ze_int)))))
   zss_nil)
  (zss_cons (zs_if (zt_cmp oz_in (ze_ix (zv 0) ze_int) (ze_tup (za_cons ze_str (za_cons ze_str (za_cons ze_str za_nil)))))
   (zss_one (zs_set nd rfl (by first | exact .inl rfl | exact .inr rfl | exact .inr (.inl rfl) | exact .inr (.inr rfl)) (ze_call F_width_of_two tk hr (za_cons (zv 0) (za_cons (ze_call F_width_of tk hr (za_cons (ze_ix (zv 0) ze_int) (za_cons (zv 1) za_nil))) (za_cons (ze_call F_width_of tk hr (za_cons (ze_ix (zv 0) ze_int) (za_cons (zv 1) za_nil))) za_nil))))))
   (zss_one (zs_if (zt_cmp oz_in (ze_ix (zv 0) ze_int) (ze_tup (za_cons ze_str (za_cons ze_str (za_cons ze_str (za_cons ze_str (za_cons ze_str za_nil)))))))
    (zss_one (zs_set nd rfl (by first | exact .inl rfl | exact .inr rfl | exact .inr (.inl rfl) | exact .inr (.inr rfl)) (ze_call F_width_of_one tk hr (za_cons (zv 0) (za_cons (ze_call F_width_of tk hr (za_cons (ze_ix (zv 0) ze_int) (za_cons (zv 1) za_nil))) za_nil)))))
    (zss_one (zs_raise rfl tk M.bq M.bg M.bk (raises_own M.bs M.bt))))))
  (zss_cons (zs_if (zt_cmp oz_gt (zv 2) (ze_gint gW))
   (zss_one (zs_raise rfl tk M.bq M.bg M.bk (raises_own M.bs M.bt)))
   zss_nil)
  (zss_one (zs_ret (zv 2))))))
def t__law_whole (E : XZ) : TSz :=
  (zRet (zAndV (zCB rIsiZ (zCons (zV 0) (zCons (zC (.ty "int")) zNil))) (zNotV (zCB rIsiZ (zCons (zV 0) (zCons (zC (.ty "bool")) zNil))))))
theorem sc__law_whole : FnScope ["_law_found"] ["_law_found"] (defScope (top 15)) := ⟨rfl, rfl, rfl, by decide +kernel, rfl, by decide +kernel, by decide +kernel⟩
theorem d__law_whole {P : Program} {w : World} {K : PySem.W.Frag} {mg : Str → Option Value} {base : Heap} (M : Mk K mg) {k : Nat} {f : Addr} {X : Cx} {E : XZ} {cdv : Value} {A : Around} {outer : List Env} {s : Shared} {H : Hp} {E1 : XK} (e : X = cxOf (L2.CX P w) P w K mg base ["_law_found"] "_law_whole" (defScope (top 15)) f cdv A outer s H E1) (hr : Room k X.A) (tk : TakesZ X (fun C _ Z => E C Z)) (hp : PassesOwn (model X.prog X.w) X.A X.env X.xe) : ZSs X (defBody (top 15)) (t__law_whole E) := by
  subst e
  have nd : (["_law_found"] : List Str).Nodup := sc__law_whole.nd
  exact (zss_one (zs_ret (ze_and (ze_callB cz_isi (by rfl) M.g_isinstance (by rfl) (za_cons (zv 0) (za_cons (ze_ty (by rfl) M.g_int (by rfl)) za_nil))) (ze_one (ze_not (ze_callB cz_isi (by rfl) M.g_isinstance (by rfl) (za_cons (zv 0) (za_cons (ze_ty (by rfl) M.g_bool (by rfl)) za_nil))))))))
def t__law_at (E : XZ) : TSz :=
  (zSeq (zIf (zTest (zOp bLt (zV 1) (zCB rLenZ (zCons (zV 0) zNil))))
   (zRet (zOp bIx (zV 0) (zV 1)))
   zNext)
  (zRet (zC (.int 0))))
theorem sc__law_at : FnScope ["_law_script", "_law_k"] ["_law_script", "_law_k"] (defScope (top 16)) := ⟨rfl, rfl, rfl, by decide +kernel, rfl, by decide +kernel, by decide +kernel⟩
theorem d__law_at {P : Program} {w : World} {K : PySem.W.Frag} {mg : Str → Option Value} {base : Heap} (M : Mk K mg) {k : Nat} {f : Addr} {X : Cx} {E : XZ} {cdv : Value} {A : Around} {outer : List Env} {s : Shared} {H : Hp} {E1 : XK} (e : X = cxOf (L2.CX P w) P w K mg base ["_law_script", "_law_k"] "_law_at" (defScope (top 16)) f cdv A outer s H E1) (hr : Room k X.A) (tk : TakesZ X (fun C _ Z => E C Z)) (hp : PassesOwn (model X.prog X.w) X.A X.env X.xe) : ZSs X (defBody (top 16)) (t__law_at E) := by
  subst e
  exact (zss_cons (zs_if (zt_cmp oz_lt (zv 1) (ze_callB cz_len (by rfl) M.g_len (by rfl) (za_cons (zv 0) za_nil)))
   (zss_one (zs_ret (ze_ix (zv 0) (zv 1))))
   zss_nil)
  (zss_one (zs_ret ze_int)))
def t__law_some (E : XZ) : TSz :=
  (zSeq (zAsg (zLst zNil) (zgName 3))
  (zSeq (zFor (ziRange (zV 1)) (zgName 4) (zSeq (zDrop (zAppend (zV 3) (zOp bMod (zV 0) (zV 2))))
   (zAsg (zOp bDiv (zV 0) (zC (.int 7))) (zgName 0))))
  (zRet (zCB rTupZ (zCons (zV 3) zNil)))))
theorem sc__law_some : FnScope ["_law_cell", "_law_many_here", "_law_width", "_law_found", "_law_k"] ["_law_cell", "_law_many_here", "_law_width"] (defScope (top 17)) := ⟨rfl, rfl, rfl, by decide +kernel, rfl, by decide +kernel, by decide +kernel⟩
theorem d__law_some {P : Program} {w : World} {K : PySem.W.Frag} {mg : Str → Option Value} {base : Heap} (M : Mk K mg) {k : Nat} {f : Addr} {X : Cx} {E : XZ} {cdv : Value} {A : Around} {outer : List Env} {s : Shared} {H : Hp} {E1 : XK} (e : X = cxOf (L2.CX P w) P w K mg base ["_law_cell", "_law_many_here", "_law_width", "_law_found", "_law_k"] "_law_some" (defScope (top 17)) f cdv A outer s H E1) (hr : Room k X.A) (tk : TakesZ X (fun C _ Z => E C Z)) (hp : PassesOwn (model X.prog X.w) X.A X.env X.xe) : ZSs X (defBody (top 17)) (t__law_some E) := by
  subst e
  have nd : (["_law_cell", "_law_many_here", "_law_width", "_law_found", "_law_k"] : List Str).Nodup := sc__law_some.nd
  exact (zss_cons (zs_set nd rfl (by first | exact .inl rfl | exact .inr rfl | exact .inr (.inl rfl) | exact .inr (.inr rfl)) (ze_lst za_nil))
  (zss_cons (zs_for hp rfl (zi_range (by rfl) M.g_range (zv 1)) (zg_name nd (i := 4) rfl (by first | exact .inl rfl | exact .inr rfl | exact .inr (.inl rfl) | exact .inr (.inr rfl))) (zss_cons (zs_expr (ze_append (zv 3) (ze_op oz_mod (zv 0) (zv 2))))
   (zss_one (zs_set nd rfl (by first | exact .inl rfl | exact .inr rfl | exact .inr (.inl rfl) | exact .inr (.inr rfl)) (ze_op oz_div (zv 0) ze_int)))))
  (zss_one (zs_ret (ze_callTy cz_tuple (by rfl) M.g_tuple (by rfl) (za_cons (zv 3) za_nil))))))
def t__law_over_one (sp__law_some : SpZ) (E : XZ) : TSz :=
  (zSeq (zAsg (zOp bMod (zV 1) (zV 3)) (zgName 4))
  (zSeq (zAsg (zOp bDiv (zV 1) (zV 3)) (zgName 5))
  (zSeq (zIf (zTest (zOp bEq (zV 0) (zC (.int 1))))
   (zSeq (zAsg (zOp bSub (zOp bMod (zOp bDiv (zV 5) (zC (.int 5))) (zC (.int 6))) (zC (.int 2))) (zgName 6))
   (zSeq (zAsg (zOp bIx (zLst (zCons (zTup (zCons (zV 6) (zCons (zOp bAdd (zV 6) (zOp bMod (zOp bDiv (zV 5) (zC (.int 30))) (zC (.int 4)))) zNil))) (zCons (zTup (zCons (zV 6) (zCons (zC .non) zNil))) (zCons (zTup (zCons (zC .non) (zCons (zV 6) zNil))) (zCons (zTup (zCons (zV 6) (zCons (zV 6) zNil))) (zCons (zTup (zCons (zC .non) (zCons (zC .non) zNil))) zNil)))))) (zOp bMod (zV 5) (zC (.int 5)))) (zgName 7))
   (zRet (zTup (zCons (zTup (zCons (zC (.str "within")) (zCons (zV 2) (zCons (zV 4) (zCons (zOp bIx (zV 7) (zC (.int 0))) (zCons (zOp bIx (zV 7) (zC (.int 1))) zNil)))))) (zCons (zV 3) zNil))))))
   zNext)
  (zSeq (zIf (zTest (zOp bEq (zV 0) (zC (.int 2))))
   (zSeq (zAsg (zCall sp__law_some (wE E) (zCons (zOp bDiv (zV 5) (zC (.int 3))) (zCons (zOp bAdd (zC (.int 1)) (zOp bMod (zV 5) (zC (.int 3)))) (zCons (zV 3) zNil)))) (zgName 8))
   (zRet (zTup (zCons (zTup (zCons (zC (.str "columns")) (zCons (zV 2) (zCons (zV 8) zNil)))) (zCons (zCB rLenZ (zCons (zV 8) zNil)) zNil)))))
   zNext)
  (zSeq (zIf (zAnd (zTest (zOp bEq (zOp bMod (zV 5) (zC (.int 2))) (zC (.int 1)))) (zAnd (zTest (zOp bGt (zV 0) (zC (.int 2)))) (zTest (zOp bGt (zV 3) (zC (.int 1))))))
   (zAsg (zTup (zCons (zC (.str "less")) (zCons (zV 2) (zCons (zTup (zCons (zC (.str "columns")) (zCons (zV 2) (zCons (zTupRev (zV 3)) zNil)))) zNil)))) (zgName 2))
   zNext)
  (zSeq (zIf (zTest (zOp bEq (zV 0) (zC (.int 3))))
   (zRet (zTup (zCons (zTup (zCons (zC (.str "once")) (zCons (zV 2) zNil))) (zCons (zV 3) zNil))))
   zNext)
  (zSeq (zIf (zTest (zOp bEq (zV 0) (zC (.int 4))))
   (zSeq (zAsg (zCall sp__law_some (wE E) (zCons (zOp bDiv (zV 5) (zC (.int 10))) (zCons (zOp bMod (zOp bDiv (zV 5) (zC (.int 2))) (zC (.int 5))) (zCons (zV 3) zNil)))) (zgName 9))
   (zRet (zTup (zCons (zTup (zCons (zC (.str "sums")) (zCons (zV 2) (zCons (zV 9) (zCons (zV 4) zNil))))) (zCons (zOp bAdd (zCB rLenZ (zCons (zV 9) zNil)) (zC (.int 2))) zNil)))))
   zNext)
  (zSeq (zIf (zAnd (zTest (zOp bEq (zV 3) (zC (.int 2)))) (zTest (zOp bEq (zOp bMod (zV 5) (zC (.int 2))) (zC (.int 0)))))
   (zRet (zTup (zCons (zTup (zCons (zC (.str "reach")) (zCons (zV 2) zNil))) (zCons (zC (.int 2)) zNil))))
   zNext)
  (zRet (zTup (zCons (zTup (zCons (zC (.str "reach")) (zCons (zTup (zCons (zC (.str "columns")) (zCons (zV 2) (zCons (zTup (zCons (zV 4) (zCons (zOp bMod (zV 5) (zV 3)) zNil))) zNil)))) zNil))) (zCons (zC (.int 2)) zNil))))))))))))
theorem sc__law_over_one : FnScope ["_law_kind", "_law_rest", "_law_one", "_law_width", "_law_column", "_law_more", "_law_low", "_law_ends", "_law_some_here", "_law_keys"] ["_law_kind", "_law_rest", "_law_one", "_law_width"] (defScope (top 18)) := ⟨rfl, rfl, rfl, by decide +kernel, rfl, by decide +kernel, by decide +kernel⟩
theorem d__law_over_one {P : Program} {w : World} {K : PySem.W.Frag} {mg : Str → Option Value} {base : Heap} (M : Mk K mg) {k : Nat} {sp__law_some : SpZ} (F__law_some : FnZ P w K mg base k "_law_some" 3 sp__law_some) {f : Addr} {X : Cx} {E : XZ} {cdv : Value} {A : Around} {outer : List Env} {s : Shared} {H : Hp} {E1 : XK} (e : X = cxOf (L2.CX P w) P w K mg base ["_law_kind", "_law_rest", "_law_one", "_law_width", "_law_column", "_law_more", "_law_low", "_law_ends", "_law_some_here", "_law_keys"] "_law_over_one" (defScope (top 18)) f cdv A outer s H E1) (hr : Room k X.A) (tk : TakesZ X (fun C _ Z => E C Z)) (hp : PassesOwn (model X.prog X.w) X.A X.env X.xe) : ZSs X (defBody (top 18)) (t__law_over_one sp__law_some E) := by
  subst e
  have nd : (["_law_kind", "_law_rest", "_law_one", "_law_width", "_law_column", "_law_more", "_law_low", "_law_ends", "_law_some_here", "_law_keys"] : List Str).Nodup := sc__law_over_one.nd
  exact (zss_cons (zs_set nd rfl (by first | exact .inl rfl | exact .inr rfl | exact .inr (.inl rfl) | exact .inr (.inr rfl)) (ze_op oz_mod (zv 1) (zv 3)))
  (zss_cons (zs_set nd rfl (by first | exact .inl rfl | exact .inr rfl | exact .inr (.inl rfl) | exact .inr (.inr rfl)) (ze_op oz_div (zv 1) (zv 3)))
  (zss_cons (zs_if (zt_cmp oz_eq (zv 0) ze_int)
   (zss_cons (zs_set nd rfl (by first | exact .inl rfl | exact .inr rfl | exact .inr (.inl rfl) | exact .inr (.inr rfl)) (ze_op oz_sub (ze_op oz_mod (ze_op oz_div (zv 5) ze_int) ze_int) ze_int))
   (zss_cons (zs_set nd rfl (by first | exact .inl rfl | exact .inr rfl | exact .inr (.inl rfl) | exact .inr (.inr rfl)) (ze_ix (ze_lst (za_cons (ze_tup (za_cons (zv 6) (za_cons (ze_op oz_add (zv 6) (ze_op oz_mod (ze_op oz_div (zv 5) ze_int) ze_int)) za_nil))) (za_cons (ze_tup (za_cons (zv 6) (za_cons ze_non za_nil))) (za_cons (ze_tup (za_cons ze_non (za_cons (zv 6) za_nil))) (za_cons (ze_tup (za_cons (zv 6) (za_cons (zv 6) za_nil))) (za_cons (ze_tup (za_cons ze_non (za_cons ze_non za_nil))) za_nil)))))) (ze_op oz_mod (zv 5) ze_int)))
   (zss_one (zs_ret (ze_tup (za_cons (ze_tup (za_cons ze_str (za_cons (zv 2) (za_cons (zv 4) (za_cons (ze_ix (zv 7) ze_int) (za_cons (ze_ix (zv 7) ze_int) za_nil)))))) (za_cons (zv 3) za_nil)))))))
   zss_nil)
  (zss_cons (zs_if (zt_cmp oz_eq (zv 0) ze_int)
   (zss_cons (zs_set nd rfl (by first | exact .inl rfl | exact .inr rfl | exact .inr (.inl rfl) | exact .inr (.inr rfl)) (ze_call F__law_some tk hr (za_cons (ze_op oz_div (zv 5) ze_int) (za_cons (ze_op oz_add ze_int (ze_op oz_mod (zv 5) ze_int)) (za_cons (zv 3) za_nil)))))
   (zss_one (zs_ret (ze_tup (za_cons (ze_tup (za_cons ze_str (za_cons (zv 2) (za_cons (zv 8) za_nil)))) (za_cons (ze_callB cz_len (by rfl) M.g_len (by rfl) (za_cons (zv 8) za_nil)) za_nil))))))
   zss_nil)
  (zss_cons (zs_if (zw_and (zt_cmp oz_eq (ze_op oz_mod (zv 5) ze_int) ze_int) (zw_and (zt_cmp oz_gt (zv 0) ze_int) (zw_and1 (zt_cmp oz_gt (zv 3) ze_int)))).pt
   (zss_one (zs_set nd rfl (by first | exact .inl rfl | exact .inr rfl | exact .inr (.inl rfl) | exact .inr (.inr rfl)) (ze_tup (za_cons ze_str (za_cons (zv 2) (za_cons (ze_tup (za_cons ze_str (za_cons (zv 2) (za_cons (ze_tupRev rfl M.g_tuple M.g_range M.g_reversed (zv 3)) za_nil)))) za_nil))))))
   zss_nil)
  (zss_cons (zs_if (zt_cmp oz_eq (zv 0) ze_int)
   (zss_one (zs_ret (ze_tup (za_cons (ze_tup (za_cons ze_str (za_cons (zv 2) za_nil))) (za_cons (zv 3) za_nil)))))
   zss_nil)
  (zss_cons (zs_if (zt_cmp oz_eq (zv 0) ze_int)
   (zss_cons (zs_set nd rfl (by first | exact .inl rfl | exact .inr rfl | exact .inr (.inl rfl) | exact .inr (.inr rfl)) (ze_call F__law_some tk hr (za_cons (ze_op oz_div (zv 5) ze_int) (za_cons (ze_op oz_mod (ze_op oz_div (zv 5) ze_int) ze_int) (za_cons (zv 3) za_nil)))))
   (zss_one (zs_ret (ze_tup (za_cons (ze_tup (za_cons ze_str (za_cons (zv 2) (za_cons (zv 9) (za_cons (zv 4) za_nil))))) (za_cons (ze_op oz_add (ze_callB cz_len (by rfl) M.g_len (by rfl) (za_cons (zv 9) za_nil)) ze_int) za_nil))))))
   zss_nil)
  (zss_cons (zs_if (zw_and (zt_cmp oz_eq (zv 3) ze_int) (zw_and1 (zt_cmp oz_eq (ze_op oz_mod (zv 5) ze_int) ze_int))).pt
   (zss_one (zs_ret (ze_tup (za_cons (ze_tup (za_cons ze_str (za_cons (zv 2) za_nil))) (za_cons ze_int za_nil)))))
   zss_nil)
  (zss_one (zs_ret (ze_tup (za_cons (ze_tup (za_cons ze_str (za_cons (ze_tup (za_cons ze_str (za_cons (zv 2) (za_cons (ze_tup (za_cons (zv 4) (za_cons (ze_op oz_mod (zv 5) (zv 3)) za_nil))) za_nil)))) za_nil))) (za_cons ze_int za_nil)))))))))))))
def t__law_over_two (sp__law_some : SpZ) (E : XZ) : TSz :=
  (zSeq (zIf (zAnd (zTest (zOp bLt (zV 0) (zC (.int 8)))) (zAnd (zTest (zOp bEq (zV 3) (zV 5))) (zTest (zOp bEq (zOp bMod (zV 1) (zC (.int 2))) (zC (.int 0))))))
   (zRet (zTup (zCons (zTup (zCons (zOp bIx (zLst (zCons (zC (.str "both")) (zCons (zC (.str "less")) zNil))) (zOp bSub (zV 0) (zC (.int 6)))) (zCons (zV 2) (zCons (zV 4) zNil)))) (zCons (zV 3) zNil))))
   zNext)
  (zSeq (zIf (zTest (zOp bLt (zV 0) (zC (.int 8))))
   (zSeq (zAsg (zTupRg (zCB rMinZ (zCons (zV 3) (zCons (zV 5) zNil)))) (zgName 6))
   (zRet (zTup (zCons (zTup (zCons (zOp bIx (zLst (zCons (zC (.str "both")) (zCons (zC (.str "less")) zNil))) (zOp bSub (zV 0) (zC (.int 6)))) (zCons (zTup (zCons (zC (.str "columns")) (zCons (zV 2) (zCons (zV 6) zNil)))) (zCons (zTup (zCons (zC (.str "columns")) (zCons (zV 4) (zCons (zV 6) zNil)))) zNil)))) (zCons (zCB rMinZ (zCons (zV 3) (zCons (zV 5) zNil))) zNil)))))
   zNext)
  (zSeq (zIf (zTest (zOp bEq (zOp bMod (zV 1) (zC (.int 3))) (zC (.int 1))))
   (zSeq (zAsg (zCall sp__law_some (wE E) (zCons (zOp bDiv (zV 1) (zC (.int 12))) (zCons (zOp bMod (zOp bDiv (zV 1) (zC (.int 3))) (zC (.int 4))) (zCons (zV 3) zNil)))) (zgName 7))
   (zSeq (zAsg (zCall sp__law_some (wE E) (zCons (zOp bDiv (zV 1) (zC (.int 5))) (zCons (zOp bMod (zOp bDiv (zV 1) (zC (.int 3))) (zC (.int 4))) (zCons (zV 5) zNil)))) (zgName 8))
   (zRet (zTup (zCons (zTup (zCons (zC (.str "meet")) (zCons (zV 2) (zCons (zV 4) (zCons (zCB rTupZ (zCons (zComp (ziRange (zCB rLenZ (zCons (zV 7) zNil))) 9 (zTup (zCons (zOp bIx (zV 7) (zV 9)) (zCons (zOp bIx (zV 8) (zV 9)) zNil)))) zNil)) zNil))))) (zCons (zOp bAdd (zV 3) (zV 5)) zNil))))))
   zNext)
  (zSeq (zAsg (zTup (zCons (zC (.str "columns")) (zCons (zV 2) (zCons (zTup (zCons (zOp bMod (zV 1) (zV 3)) (zCons (zOp bMod (zOp bDiv (zV 1) (zC (.int 5))) (zV 3)) zNil))) zNil)))) (zgName 10))
  (zSeq (zAsg (zTup (zCons (zC (.str "columns")) (zCons (zV 4) (zCons (zTup (zCons (zOp bMod (zOp bDiv (zV 1) (zC (.int 25))) (zV 5)) (zCons (zOp bMod (zOp bDiv (zV 1) (zC (.int 125))) (zV 5)) zNil))) zNil)))) (zgName 11))
  (zSeq (zAsg (zOp bIx (zLst (zCons (zTup (zCons (zTup (zCons (zC (.int 0)) (zCons (zC (.int 0)) zNil))) zNil)) (zCons (zTup (zCons (zTup (zCons (zC (.int 1)) (zCons (zC (.int 0)) zNil))) zNil)) (zCons (zTup (zCons (zTup (zCons (zC (.int 0)) (zCons (zC (.int 1)) zNil))) (zCons (zTup (zCons (zC (.int 1)) (zCons (zC (.int 0)) zNil))) zNil))) (zCons (zTup zNil) (zCons (zTup (zCons (zTup (zCons (zC (.int 0)) (zCons (zC (.int 0)) zNil))) (zCons (zTup (zCons (zC (.int 1)) (zCons (zC (.int 1)) zNil))) zNil))) zNil)))))) (zOp bMod (zV 1) (zC (.int 5)))) (zgName 12))
  (zRet (zTup (zCons (zTup (zCons (zC (.str "meet")) (zCons (zV 10) (zCons (zV 11) (zCons (zV 12) zNil))))) (zCons (zC (.int 4)) zNil))))))))))
theorem sc__law_over_two : FnScope ["_law_kind", "_law_rest", "_law_one", "_law_width", "_law_other", "_law_wide_here", "_law_front", "_law_first", "_law_second", "_law_k", "_law_left", "_law_right", "_law_pairs"] ["_law_kind", "_law_rest", "_law_one", "_law_width", "_law_other", "_law_wide_here"] (defScope (top 19)) := ⟨rfl, rfl, rfl, by decide +kernel, rfl, by decide +kernel, by decide +kernel⟩
theorem d__law_over_two {P : Program} {w : World} {K : PySem.W.Frag} {mg : Str → Option Value} {base : Heap} (M : Mk K mg) {k : Nat} {sp__law_some : SpZ} (F__law_some : FnZ P w K mg base k "_law_some" 3 sp__law_some) {f : Addr} {X : Cx} {E : XZ} {cdv : Value} {A : Around} {outer : List Env} {s : Shared} {H : Hp} {E1 : XK} (e : X = cxOf (L2.CX P w) P w K mg base ["_law_kind", "_law_rest", "_law_one", "_law_width", "_law_other", "_law_wide_here", "_law_front", "_law_first", "_law_second", "_law_k", "_law_left", "_law_right", "_law_pairs"] "_law_over_two" (defScope (top 19)) f cdv A outer s H E1) (hr : Room k X.A) (tk : TakesZ X (fun C _ Z => E C Z)) (hp : PassesOwn (model X.prog X.w) X.A X.env X.xe) : ZSs X (defBody (top 19)) (t__law_over_two sp__law_some E) := by
  subst e
  have nd : (["_law_kind", "_law_rest", "_law_one", "_law_width", "_law_other", "_law_wide_here", "_law_front", "_law_first", "_law_second", "_law_k", "_law_left", "_law_right", "_law_pairs"] : List Str).Nodup := sc__law_over_two.nd
  exact (zss_cons (zs_if (zw_and (zt_cmp oz_lt (zv 0) ze_int) (zw_and (zt_cmp oz_eq (zv 3) (zv 5)) (zw_and1 (zt_cmp oz_eq (ze_op oz_mod (zv 1) ze_int) ze_int)))).pt
   (zss_one (zs_ret (ze_tup (za_cons (ze_tup (za_cons (ze_ix (ze_lst (za_cons ze_str (za_cons ze_str za_nil))) (ze_op oz_sub (zv 0) ze_int)) (za_cons (zv 2) (za_cons (zv 4) za_nil)))) (za_cons (zv 3) za_nil)))))
   zss_nil)
  (zss_cons (zs_if (zt_cmp oz_lt (zv 0) ze_int)
   (zss_cons (zs_set nd rfl (by first | exact .inl rfl | exact .inr rfl | exact .inr (.inl rfl) | exact .inr (.inr rfl)) (ze_tupRg rfl M.g_tuple M.g_range (ze_callB (cz_min (by rfl)) (by rfl) M.g_min (by rfl) (za_cons (zv 3) (za_cons (zv 5) za_nil)))))
   (zss_one (zs_ret (ze_tup (za_cons (ze_tup (za_cons (ze_ix (ze_lst (za_cons ze_str (za_cons ze_str za_nil))) (ze_op oz_sub (zv 0) ze_int)) (za_cons (ze_tup (za_cons ze_str (za_cons (zv 2) (za_cons (zv 6) za_nil)))) (za_cons (ze_tup (za_cons ze_str (za_cons (zv 4) (za_cons (zv 6) za_nil)))) za_nil)))) (za_cons (ze_callB (cz_min (by rfl)) (by rfl) M.g_min (by rfl) (za_cons (zv 3) (za_cons (zv 5) za_nil))) za_nil))))))
   zss_nil)
  (zss_cons (zs_if (zt_cmp oz_eq (ze_op oz_mod (zv 1) ze_int) ze_int)
   (zss_cons (zs_set nd rfl (by first | exact .inl rfl | exact .inr rfl | exact .inr (.inl rfl) | exact .inr (.inr rfl)) (ze_call F__law_some tk hr (za_cons (ze_op oz_div (zv 1) ze_int) (za_cons (ze_op oz_mod (ze_op oz_div (zv 1) ze_int) ze_int) (za_cons (zv 3) za_nil)))))
   (zss_cons (zs_set nd rfl (by first | exact .inl rfl | exact .inr rfl | exact .inr (.inl rfl) | exact .inr (.inr rfl)) (ze_call F__law_some tk hr (za_cons (ze_op oz_div (zv 1) ze_int) (za_cons (ze_op oz_mod (ze_op oz_div (zv 1) ze_int) ze_int) (za_cons (zv 5) za_nil)))))
   (zss_one (zs_ret (ze_tup (za_cons (ze_tup (za_cons ze_str (za_cons (zv 2) (za_cons (zv 4) (za_cons (ze_callTy cz_tuple (by rfl) M.g_tuple (by rfl) (za_cons (ze_comp rfl nd (zi_range (by rfl) M.g_range (ze_callB cz_len (by rfl) M.g_len (by rfl) (za_cons (zv 7) za_nil))) (blkOk ["_law_kind", "_law_rest", "_law_one", "_law_width", "_law_other", "_law_wide_here", "_law_front", "_law_first", "_law_second", "_law_k", "_law_left", "_law_right", "_law_pairs"] (defScope (top 19)) rfl (by decide +kernel) (by decide +kernel) (by decide +kernel) (by decide +kernel)) (fun _ _ _ _ _ => (pg_name nd rfl (by first | exact .inl rfl | exact .inr rfl | exact .inr (.inl rfl) | exact .inr (.inr rfl)) (by first | exact .inl rfl | exact .inr rfl))) (fun s_ H_ C_ cl_ fp_ => (ze_tup (za_cons (ze_ix (zv 7) (zv 9)) (za_cons (ze_ix (zv 8) (zv 9)) za_nil))))) za_nil)) za_nil))))) (za_cons (ze_op oz_add (zv 3) (zv 5)) za_nil)))))))
   zss_nil)
  (zss_cons (zs_set nd rfl (by first | exact .inl rfl | exact .inr rfl | exact .inr (.inl rfl) | exact .inr (.inr rfl)) (ze_tup (za_cons ze_str (za_cons (zv 2) (za_cons (ze_tup (za_cons (ze_op oz_mod (zv 1) (zv 3)) (za_cons (ze_op oz_mod (ze_op oz_div (zv 1) ze_int) (zv 3)) za_nil))) za_nil)))))
  (zss_cons (zs_set nd rfl (by first | exact .inl rfl | exact .inr rfl | exact .inr (.inl rfl) | exact .inr (.inr rfl)) (ze_tup (za_cons ze_str (za_cons (zv 4) (za_cons (ze_tup (za_cons (ze_op oz_mod (ze_op oz_div (zv 1) ze_int) (zv 5)) (za_cons (ze_op oz_mod (ze_op oz_div (zv 1) ze_int) (zv 5)) za_nil))) za_nil)))))
  (zss_cons (zs_set nd rfl (by first | exact .inl rfl | exact .inr rfl | exact .inr (.inl rfl) | exact .inr (.inr rfl)) (ze_ix (ze_lst (za_cons (ze_tup (za_cons (ze_tup (za_cons ze_int (za_cons ze_int za_nil))) za_nil)) (za_cons (ze_tup (za_cons (ze_tup (za_cons ze_int (za_cons ze_int za_nil))) za_nil)) (za_cons (ze_tup (za_cons (ze_tup (za_cons ze_int (za_cons ze_int za_nil))) (za_cons (ze_tup (za_cons ze_int (za_cons ze_int za_nil))) za_nil))) (za_cons (ze_tup za_nil) (za_cons (ze_tup (za_cons (ze_tup (za_cons ze_int (za_cons ze_int za_nil))) (za_cons (ze_tup (za_cons ze_int (za_cons ze_int za_nil))) za_nil))) za_nil)))))) (ze_op oz_mod (zv 1) ze_int)))
  (zss_one (zs_ret (ze_tup (za_cons (ze_tup (za_cons ze_str (za_cons (zv 10) (za_cons (zv 11) (za_cons (zv 12) za_nil))))) (za_cons ze_int za_nil)))))))))))
def t__law_view (sp__law_at : SpZ) (sp__law_view : SpZ) (sp__law_over_one : SpZ) (sp__law_over_two : SpZ) (E : XZ) : TSz :=
  (zSeq (zAsg (zCall sp__law_at (wE E) (zCons (zV 0) (zCons (zOp bAdd (zC (.int 16)) (zOp bMod (zOp bAdd (zV 3) (zOp bMulI (zC (.int 5)) (zV 2))) (zC (.int 15)))) zNil))) (zgName 5))
  (zSeq (zAsg (zOp bMod (zV 5) (zC (.int 9))) (zgName 6))
  (zSeq (zIf (zAnd (zTest (zOp bEq (zV 6) (zC (.int 8)))) (zTest (zOp bEq (zV 4) (zC (.int 1)))))
   (zAsg (zC (.int 7)) (zgName 6))
   zNext)
  (zSeq (zAsg (zOp bDiv (zV 5) (zC (.int 9))) (zgName 7))
  (zSeq (zIf (zOr (zTest (zOp bEq (zV 4) (zC (.int 0)))) (zTest (zOp bEq (zV 6) (zC (.int 0)))))
   (zRet (zTup (zCons (zTup (zCons (zC (.str "table")) (zCons (zOp bMod (zV 7) (zCB rLenZ (zCons (zV 1) zNil))) zNil))) (zCons (zOp bIx (zV 1) (zOp bMod (zV 7) (zCB rLenZ (zCons (zV 1) zNil)))) zNil))))
   zNext)
  (zSeq (zAsg (zOp bSub (zV 4) (zC (.int 1))) (zgName 8))
  (zSeq (zIf (zTest (zOp bEq (zV 6) (zC (.int 8))))
   (zAsg (zC (.int 1)) (zgName 8))
   zNext)
  (zSeq (zAsg (zCall sp__law_view (wE E) (zCons (zV 0) (zCons (zV 1) (zCons (zV 2) (zCons (zOp bAdd (zOp bMulI (zC (.int 2)) (zV 3)) (zC (.int 1))) (zCons (zV 8) zNil)))))) (zgTup 2 (zgCons (zgName 9) (zgCons (zgName 10) zgNil))))
  (zSeq (zIf (zTest (zOp bLt (zV 6) (zC (.int 6))))
   (zRet (zCall sp__law_over_one (wE E) (zCons (zV 6) (zCons (zV 7) (zCons (zV 9) (zCons (zV 10) zNil))))))
   zNext)
  (zSeq (zAsg (zCall sp__law_view (wE E) (zCons (zV 0) (zCons (zV 1) (zCons (zV 2) (zCons (zOp bAdd (zOp bMulI (zC (.int 2)) (zV 3)) (zC (.int 2))) (zCons (zV 8) zNil)))))) (zgTup 2 (zgCons (zgName 11) (zgCons (zgName 12) zgNil))))
  (zRet (zCall sp__law_over_two (wE E) (zCons (zV 6) (zCons (zV 7) (zCons (zV 9) (zCons (zV 10) (zCons (zV 11) (zCons (zV 12) zNil))))))))))))))))))
theorem sc__law_view : FnScope ["_law_script", "_law_widths_here", "_law_turn", "_law_at_here", "_law_deep", "_law_cell", "_law_kind", "_law_rest", "_law_down", "_law_one", "_law_width", "_law_other", "_law_wide_here"] ["_law_script", "_law_widths_here", "_law_turn", "_law_at_here", "_law_deep"] (defScope (top 20)) := ⟨rfl, rfl, rfl, by decide +kernel, rfl, by decide +kernel, by decide +kernel⟩
theorem d__law_view {P : Program} {w : World} {K : PySem.W.Frag} {mg : Str → Option Value} {base : Heap} (M : Mk K mg) {k : Nat} {sp__law_at : SpZ} (F__law_at : FnZ P w K mg base k "_law_at" 2 sp__law_at) {sp__law_view : SpZ} (F__law_view : FnZ P w K mg base k "_law_view" 5 sp__law_view) {sp__law_over_one : SpZ} (F__law_over_one : FnZ P w K mg base k "_law_over_one" 4 sp__law_over_one) {sp__law_over_two : SpZ} (F__law_over_two : FnZ P w K mg base k "_law_over_two" 6 sp__law_over_two) {f : Addr} {X : Cx} {E : XZ} {cdv : Value} {A : Around} {outer : List Env} {s : Shared} {H : Hp} {E1 : XK} (e : X = cxOf (L2.CX P w) P w K mg base ["_law_script", "_law_widths_here", "_law_turn", "_law_at_here", "_law_deep", "_law_cell", "_law_kind", "_law_rest", "_law_down", "_law_one", "_law_width", "_law_other", "_law_wide_here"] "_law_view" (defScope (top 20)) f cdv A outer s H E1) (hr : Room k X.A) (tk : TakesZ X (fun C _ Z => E C Z)) (hp : PassesOwn (model X.prog X.w) X.A X.env X.xe) : ZSs X (defBody (top 20)) (t__law_view sp__law_at sp__law_view sp__law_over_one sp__law_over_two E) := by
  subst e
  have nd : (["_law_script", "_law_widths_here", "_law_turn", "_law_at_here", "_law_deep", "_law_cell", "_law_kind", "_law_rest", "_law_down", "_law_one", "_law_width", "_law_other", "_law_wide_here"] : List Str).Nodup := sc__law_view.nd
  exact (zss_cons (zs_set nd rfl (by first | exact .inl rfl | exact .inr rfl | exact .inr (.inl rfl) | exact .inr (.inr rfl)) (ze_call F__law_at tk hr (za_cons (zv 0) (za_cons (ze_op oz_add ze_int (ze_op oz_mod (ze_op oz_add (zv 3) (ze_op oz_mulI ze_int (zv 2))) ze_int)) za_nil))))
  (zss_cons (zs_set nd rfl (by first | exact .inl rfl | exact .inr rfl | exact .inr (.inl rfl) | exact .inr (.inr rfl)) (ze_op oz_mod (zv 5) ze_int))
  (zss_cons (zs_if (zw_and (zt_cmp oz_eq (zv 6) ze_int) (zw_and1 (zt_cmp oz_eq (zv 4) ze_int))).pt
   (zss_one (zs_set nd rfl (by first | exact .inl rfl | exact .inr rfl | exact .inr (.inl rfl) | exact .inr (.inr rfl)) ze_int))
   zss_nil)
  (zss_cons (zs_set nd rfl (by first | exact .inl rfl | exact .inr rfl | exact .inr (.inl rfl) | exact .inr (.inr rfl)) (ze_op oz_div (zv 5) ze_int))
  (zss_cons (zs_if (zw_or (zt_cmp oz_eq (zv 4) ze_int) (zw_or1 (zt_cmp oz_eq (zv 6) ze_int))).pt
   (zss_one (zs_ret (ze_tup (za_cons (ze_tup (za_cons ze_str (za_cons (ze_op oz_mod (zv 7) (ze_callB cz_len (by rfl) M.g_len (by rfl) (za_cons (zv 1) za_nil))) za_nil))) (za_cons (ze_ix (zv 1) (ze_op oz_mod (zv 7) (ze_callB cz_len (by rfl) M.g_len (by rfl) (za_cons (zv 1) za_nil)))) za_nil)))))
   zss_nil)
  (zss_cons (zs_set nd rfl (by first | exact .inl rfl | exact .inr rfl | exact .inr (.inl rfl) | exact .inr (.inr rfl)) (ze_op oz_sub (zv 4) ze_int))
  (zss_cons (zs_if (zt_cmp oz_eq (zv 6) ze_int)
   (zss_one (zs_set nd rfl (by first | exact .inl rfl | exact .inr rfl | exact .inr (.inl rfl) | exact .inr (.inr rfl)) ze_int))
   zss_nil)
  (zss_cons (zs_asg (ze_call F__law_view tk hr (za_cons (zv 0) (za_cons (zv 1) (za_cons (zv 2) (za_cons (ze_op oz_add (ze_op oz_mulI ze_int (zv 3)) ze_int) (za_cons (zv 8) za_nil)))))) (zg_tup rfl (zgs_cons (zg_name nd (i := 9) rfl (by first | exact .inl rfl | exact .inr rfl | exact .inr (.inl rfl) | exact .inr (.inr rfl))) (zgs_cons (zg_name nd (i := 10) rfl (by first | exact .inl rfl | exact .inr rfl | exact .inr (.inl rfl) | exact .inr (.inr rfl))) zgs_nil))))
  (zss_cons (zs_if (zt_cmp oz_lt (zv 6) ze_int)
   (zss_one (zs_ret (ze_call F__law_over_one tk hr (za_cons (zv 6) (za_cons (zv 7) (za_cons (zv 9) (za_cons (zv 10) za_nil)))))))
   zss_nil)
  (zss_cons (zs_asg (ze_call F__law_view tk hr (za_cons (zv 0) (za_cons (zv 1) (za_cons (zv 2) (za_cons (ze_op oz_add (ze_op oz_mulI ze_int (zv 3)) ze_int) (za_cons (zv 8) za_nil)))))) (zg_tup rfl (zgs_cons (zg_name nd (i := 11) rfl (by first | exact .inl rfl | exact .inr rfl | exact .inr (.inl rfl) | exact .inr (.inr rfl))) (zgs_cons (zg_name nd (i := 12) rfl (by first | exact .inl rfl | exact .inr rfl | exact .inr (.inl rfl) | exact .inr (.inr rfl))) zgs_nil))))
  (zss_one (zs_ret (ze_call F__law_over_two tk hr (za_cons (zv 6) (za_cons (zv 7) (za_cons (zv 9) (za_cons (zv 10) (za_cons (zv 11) (za_cons (zv 12) za_nil)))))))))))))))))))
def t__law_widths (sp__law_at : SpZ) (E : XZ) : TSz :=
  (zSeq (zAsg (zCall sp__law_at (wE E) (zCons (zV 0) (zCons (zC (.int 0)) zNil))) (zgName 1))
  (zSeq (zAsg (zOp bAdd (zC (.int 1)) (zOp bMod (zV 1) (zC (.int 3)))) (zgName 2))
  (zSeq (zIf (zTest (zOp bEq (zOp bMod (zOp bDiv (zV 1) (zC (.int 3))) (zC (.int 5))) (zC (.int 4))))
   (zAsg (zOp bAdd (zC (.int 1)) (zOp bMod (zOp bDiv (zV 1) (zC (.int 15))) (zC (.int 10)))) (zgName 2))
   zNext)
  (zSeq (zAsg (zOp bAdd (zC (.int 3)) (zOp bMulI (zC (.int 3)) (zCB rIntZ (zCons (zOp bEq (zOp bMod (zOp bDiv (zV 1) (zC (.int 3))) (zC (.int 5))) (zC (.int 3))) zNil)))) (zgName 3))
  (zSeq (zIf (zTest (zOp bEq (zOp bMod (zOp bDiv (zV 1) (zC (.int 3))) (zC (.int 5))) (zC (.int 2))))
   (zRet (zOp bRep (zLst (zCons (zOp bAdd (zC (.int 1)) (zOp bMod (zCall sp__law_at (wE E) (zCons (zV 0) (zCons (zC (.int 1)) zNil))) (zC (.int 3)))) zNil)) (zV 2)))
   zNext)
  (zRet (zComp (ziRange (zV 2)) 4 (zOp bAdd (zC (.int 1)) (zOp bMod (zOp bDiv (zCall sp__law_at (fun _ _ _ => False) (zCons (zV 0) (zCons (zOp bAdd (zC (.int 1)) (zOp bMod (zV 4) (zC (.int 3)))) zNil))) (zOp bAdd (zC (.int 1)) (zOp bDiv (zV 4) (zC (.int 3))))) (zV 3))))))))))
theorem sc__law_widths : FnScope ["_law_script", "_law_head", "_law_many_here", "_law_wide_here", "_law_k"] ["_law_script"] (defScope (top 21)) := ⟨rfl, rfl, rfl, by decide +kernel, rfl, by decide +kernel, by decide +kernel⟩
theorem d__law_widths {P : Program} {w : World} {K : PySem.W.Frag} {mg : Str → Option Value} {base : Heap} (M : Mk K mg) {k : Nat} {sp__law_at : SpZ} (F__law_at : FnZ P w K mg base k "_law_at" 2 sp__law_at) {f : Addr} {X : Cx} {E : XZ} {cdv : Value} {A : Around} {outer : List Env} {s : Shared} {H : Hp} {E1 : XK} (e : X = cxOf (L2.CX P w) P w K mg base ["_law_script", "_law_head", "_law_many_here", "_law_wide_here", "_law_k"] "_law_widths" (defScope (top 21)) f cdv A outer s H E1) (hr : Room k X.A) (tk : TakesZ X (fun C _ Z => E C Z)) (hp : PassesOwn (model X.prog X.w) X.A X.env X.xe) : ZSs X (defBody (top 21)) (t__law_widths sp__law_at E) := by
  subst e
  have nd : (["_law_script", "_law_head", "_law_many_here", "_law_wide_here", "_law_k"] : List Str).Nodup := sc__law_widths.nd
  exact (zss_cons (zs_set nd rfl (by first | exact .inl rfl | exact .inr rfl | exact .inr (.inl rfl) | exact .inr (.inr rfl)) (ze_call F__law_at tk hr (za_cons (zv 0) (za_cons ze_int za_nil))))
  (zss_cons (zs_set nd rfl (by first | exact .inl rfl | exact .inr rfl | exact .inr (.inl rfl) | exact .inr (.inr rfl)) (ze_op oz_add ze_int (ze_op oz_mod (zv 1) ze_int)))
  (zss_cons (zs_if (zt_cmp oz_eq (ze_op oz_mod (ze_op oz_div (zv 1) ze_int) ze_int) ze_int)
   (zss_one (zs_set nd rfl (by first | exact .inl rfl | exact .inr rfl | exact .inr (.inl rfl) | exact .inr (.inr rfl)) (ze_op oz_add ze_int (ze_op oz_mod (ze_op oz_div (zv 1) ze_int) ze_int))))
   zss_nil)
  (zss_cons (zs_set nd rfl (by first | exact .inl rfl | exact .inr rfl | exact .inr (.inl rfl) | exact .inr (.inr rfl)) (ze_op oz_add ze_int (ze_op oz_mulI ze_int (ze_callTy cz_int (by rfl) M.g_int (by rfl) (za_cons (ze_cmp oz_eq (ze_op oz_mod (ze_op oz_div (zv 1) ze_int) ze_int) ze_int) za_nil)))))
  (zss_cons (zs_if (zt_cmp oz_eq (ze_op oz_mod (ze_op oz_div (zv 1) ze_int) ze_int) ze_int)
   (zss_one (zs_ret (ze_op oz_rep (ze_lst (za_cons (ze_op oz_add ze_int (ze_op oz_mod (ze_call F__law_at tk hr (za_cons (zv 0) (za_cons ze_int za_nil))) ze_int)) za_nil)) (zv 2))))
   zss_nil)
  (zss_one (zs_ret (ze_comp rfl nd (zi_range (by rfl) M.g_range (zv 2)) (blkOk ["_law_script", "_law_head", "_law_many_here", "_law_wide_here", "_law_k"] (defScope (top 21)) rfl (by decide +kernel) (by decide +kernel) (by decide +kernel) (by decide +kernel)) (fun _ _ _ _ _ => (pg_name nd rfl (by first | exact .inl rfl | exact .inr rfl | exact .inr (.inl rfl) | exact .inr (.inr rfl)) (by first | exact .inl rfl | exact .inr rfl))) (fun s_ H_ C_ cl_ fp_ => (ze_op oz_add ze_int (ze_op oz_mod (ze_op oz_div (ze_call F__law_at tk0 hr (za_cons (zv 0) (za_cons (ze_op oz_add ze_int (ze_op oz_mod (zv 4) ze_int)) za_nil))) (ze_op oz_add ze_int (ze_op oz_div (zv 4) ze_int))) (zv 3))))))))))))
def t__law_there (E : XZ) : TSz :=
  (zSeq (zFor (ziSeq (zV 0)) (zgName 2) (zIf (zNot (zTest (zChain bLe bLt (zC (.int 0)) (zV 2) (zV 1))))
    (zRet (zC (.bl false)))
    zNext))
  (zRet (zC (.bl true))))
theorem sc__law_there : FnScope ["_law_some_here", "_law_width", "_law_column"] ["_law_some_here", "_law_width"] (defScope (top 22)) := ⟨rfl, rfl, rfl, by decide +kernel, rfl, by decide +kernel, by decide +kernel⟩
theorem d__law_there {P : Program} {w : World} {K : PySem.W.Frag} {mg : Str → Option Value} {base : Heap} (M : Mk K mg) {k : Nat} {f : Addr} {X : Cx} {E : XZ} {cdv : Value} {A : Around} {outer : List Env} {s : Shared} {H : Hp} {E1 : XK} (e : X = cxOf (L2.CX P w) P w K mg base ["_law_some_here", "_law_width", "_law_column"] "_law_there" (defScope (top 22)) f cdv A outer s H E1) (hr : Room k X.A) (tk : TakesZ X (fun C _ Z => E C Z)) (hp : PassesOwn (model X.prog X.w) X.A X.env X.xe) : ZSs X (defBody (top 22)) (t__law_there E) := by
  subst e
  have nd : (["_law_some_here", "_law_width", "_law_column"] : List Str).Nodup := sc__law_there.nd
  exact (zss_cons (zs_for hp rfl (zi_seq (zv 0)) (zg_name nd (i := 2) rfl (by first | exact .inl rfl | exact .inr rfl | exact .inr (.inl rfl) | exact .inr (.inr rfl))) (zss_one (zs_if (zt_not (zt_chain oz_le oz_lt ze_int (zv 2) (zv 1)))
    (zss_one (zs_ret ze_bl))
    zss_nil)))
  (zss_one (zs_ret ze_bl)))
def t__law_wide_one (sp__law_there : SpZ) (E : XZ) : TSz :=
  (zSeq (zIf (zOr (zAnd (zTest (zOp bEq (zOp bIx (zV 0) (zC (.int 0))) (zC (.str "within")))) (zTest (zCall sp__law_there (wE E) (zCons (zLst (zCons (zOp bIx (zV 0) (zC (.int 2))) zNil)) (zCons (zV 1) zNil))))) (zTest (zOp bEq (zOp bIx (zV 0) (zC (.int 0))) (zC (.str "once")))))
   (zRet (zV 1))
   zNext)
  (zSeq (zIf (zAnd (zTest (zOp bEq (zOp bIx (zV 0) (zC (.int 0))) (zC (.str "columns")))) (zAnd (zTest (zOp bGt (zCB rLenZ (zCons (zOp bIx (zV 0) (zC (.int 2))) zNil)) (zC (.int 0)))) (zTest (zCall sp__law_there (wE E) (zCons (zOp bIx (zV 0) (zC (.int 2))) (zCons (zV 1) zNil))))))
   (zRet (zCB rLenZ (zCons (zOp bIx (zV 0) (zC (.int 2))) zNil)))
   zNext)
  (zSeq (zIf (zAnd (zTest (zOp bEq (zOp bIx (zV 0) (zC (.int 0))) (zC (.str "sums")))) (zTest (zCall sp__law_there (wE E) (zCons (zOp bAdd (zCB rListZ (zCons (zOp bIx (zV 0) (zC (.int 2))) zNil)) (zLst (zCons (zOp bIx (zV 0) (zC (.int 3))) zNil))) (zCons (zV 1) zNil)))))
   (zRet (zOp bAdd (zCB rLenZ (zCons (zOp bIx (zV 0) (zC (.int 2))) zNil)) (zC (.int 2))))
   zNext)
  (zSeq (zIf (zAnd (zTest (zOp bEq (zOp bIx (zV 0) (zC (.int 0))) (zC (.str "reach")))) (zTest (zOp bEq (zV 1) (zC (.int 2)))))
   (zRet (zC (.int 2)))
   zNext)
  (zRet (zC .non))))))
theorem sc__law_wide_one : FnScope ["_law_view_here", "_law_width"] ["_law_view_here", "_law_width"] (defScope (top 23)) := ⟨rfl, rfl, rfl, by decide +kernel, rfl, by decide +kernel, by decide +kernel⟩
theorem d__law_wide_one {P : Program} {w : World} {K : PySem.W.Frag} {mg : Str → Option Value} {base : Heap} (M : Mk K mg) {k : Nat} {sp__law_there : SpZ} (F__law_there : FnZ P w K mg base k "_law_there" 2 sp__law_there) {f : Addr} {X : Cx} {E : XZ} {cdv : Value} {A : Around} {outer : List Env} {s : Shared} {H : Hp} {E1 : XK} (e : X = cxOf (L2.CX P w) P w K mg base ["_law_view_here", "_law_width"] "_law_wide_one" (defScope (top 23)) f cdv A outer s H E1) (hr : Room k X.A) (tk : TakesZ X (fun C _ Z => E C Z)) (hp : PassesOwn (model X.prog X.w) X.A X.env X.xe) : ZSs X (defBody (top 23)) (t__law_wide_one sp__law_there E) := by
  subst e
  have nd : (["_law_view_here", "_law_width"] : List Str).Nodup := sc__law_wide_one.nd
  exact (zss_cons (zs_if (zw_or (zw_and (zt_cmp oz_eq (ze_ix (zv 0) ze_int) ze_str) (zw_and1 (zt_val (ze_call F__law_there tk hr (za_cons (ze_lst (za_cons (ze_ix (zv 0) ze_int) za_nil)) (za_cons (zv 1) za_nil)))))).pt (zw_or1 (zt_cmp oz_eq (ze_ix (zv 0) ze_int) ze_str))).pt
   (zss_one (zs_ret (zv 1)))
   zss_nil)
  (zss_cons (zs_if (zw_and (zt_cmp oz_eq (ze_ix (zv 0) ze_int) ze_str) (zw_and (zt_cmp oz_gt (ze_callB cz_len (by rfl) M.g_len (by rfl) (za_cons (ze_ix (zv 0) ze_int) za_nil)) ze_int) (zw_and1 (zt_val (ze_call F__law_there tk hr (za_cons (ze_ix (zv 0) ze_int) (za_cons (zv 1) za_nil))))))).pt
   (zss_one (zs_ret (ze_callB cz_len (by rfl) M.g_len (by rfl) (za_cons (ze_ix (zv 0) ze_int) za_nil))))
   zss_nil)
  (zss_cons (zs_if (zw_and (zt_cmp oz_eq (ze_ix (zv 0) ze_int) ze_str) (zw_and1 (zt_val (ze_call F__law_there tk hr (za_cons (ze_op oz_add (ze_callTy cz_list (by rfl) M.g_list (by rfl) (za_cons (ze_ix (zv 0) ze_int) za_nil)) (ze_lst (za_cons (ze_ix (zv 0) ze_int) za_nil))) (za_cons (zv 1) za_nil)))))).pt
   (zss_one (zs_ret (ze_op oz_add (ze_callB cz_len (by rfl) M.g_len (by rfl) (za_cons (ze_ix (zv 0) ze_int) za_nil)) ze_int)))
   zss_nil)
  (zss_cons (zs_if (zw_and (zt_cmp oz_eq (ze_ix (zv 0) ze_int) ze_str) (zw_and1 (zt_cmp oz_eq (zv 1) ze_int))).pt
   (zss_one (zs_ret ze_int))
   zss_nil)
  (zss_one (zs_ret ze_non))))))
def t__law_wide (sp__law_wide : SpZ) (sp__law_there : SpZ) (sp__law_wide_one : SpZ) (E : XZ) : TSz :=
  (zSeq (zIf (zTest (zOp bEq (zOp bIx (zV 0) (zC (.int 0))) (zC (.str "table"))))
   (zRet (zIfE (zTest (zChain bLe bLt (zC (.int 0)) (zOp bIx (zV 0) (zC (.int 1))) (zCB rLenZ (zCons (zV 1) zNil)))) (zOp bIx (zV 1) (zOp bIx (zV 0) (zC (.int 1)))) (zC .non)))
   zNext)
  (zSeq (zIf (zTest (zOp (bIn true) (zOp bIx (zV 0) (zC (.int 0))) (zTup (zCons (zC (.str "within")) (zCons (zC (.str "columns")) (zCons (zC (.str "once")) (zCons (zC (.str "sums")) (zCons (zC (.str "reach")) (zCons (zC (.str "both")) (zCons (zC (.str "less")) (zCons (zC (.str "meet")) zNil)))))))))))
   (zRet (zC .non))
   zNext)
  (zSeq (zAsg (zCall sp__law_wide (wE E) (zCons (zOp bIx (zV 0) (zC (.int 1))) (zCons (zV 1) zNil))) (zgName 2))
  (zSeq (zIf (zTest (zIsN (zV 2)))
   (zRet (zC .non))
   zNext)
  (zSeq (zAsg (zC .non) (zgName 3))
  (zSeq (zIf (zTest (zOp (bIn false) (zOp bIx (zV 0) (zC (.int 0))) (zTup (zCons (zC (.str "both")) (zCons (zC (.str "less")) (zCons (zC (.str "meet")) zNil))))))
   (zSeq (zAsg (zCall sp__law_wide (wE E) (zCons (zOp bIx (zV 0) (zC (.int 2))) (zCons (zV 1) zNil))) (zgName 4))
   (zSeq (zIf (zTest (zIsN (zV 4)))
    (zRet (zC .non))
    zNext)
   (zIf (zTest (zOp bNe (zOp bIx (zV 0) (zC (.int 0))) (zC (.str "meet"))))
    (zAsg (zIfE (zTest (zOp bEq (zV 2) (zV 4))) (zV 2) (zC .non)) (zgName 3))
    (zIf (zAnd (zTest (zCall sp__law_there (wE E) (zCons (zComp (ziSeq (zOp bIx (zV 0) (zC (.int 3)))) 5 (zOp bIx (zV 5) (zC (.int 0)))) (zCons (zV 2) zNil)))) (zTest (zCall sp__law_there (wE E) (zCons (zComp (ziSeq (zOp bIx (zV 0) (zC (.int 3)))) 5 (zOp bIx (zV 5) (zC (.int 1)))) (zCons (zV 4) zNil)))))
     (zAsg (zOp bAdd (zV 2) (zV 4)) (zgName 3))
     zNext))))
   (zAsg (zCall sp__law_wide_one (wE E) (zCons (zV 0) (zCons (zV 2) zNil))) (zgName 3)))
  (zRet (zIfE (zOr (zTest (zIsN (zV 3))) (zTest (zOp bLe (zV 3) (zC (.int 40))))) (zV 3) (zC .non)))))))))
theorem sc__law_wide : FnScope ["_law_view_here", "_law_widths_here", "_law_one", "_law_found", "_law_other", "_law_pair"] ["_law_view_here", "_law_widths_here"] (defScope (top 24)) := ⟨rfl, rfl, rfl, by decide +kernel, rfl, by decide +kernel, by decide +kernel⟩
theorem d__law_wide {P : Program} {w : World} {K : PySem.W.Frag} {mg : Str → Option Value} {base : Heap} (M : Mk K mg) {k : Nat} {sp__law_wide : SpZ} (F__law_wide : FnZ P w K mg base k "_law_wide" 2 sp__law_wide) {sp__law_there : SpZ} (F__law_there : FnZ P w K mg base k "_law_there" 2 sp__law_there) {sp__law_wide_one : SpZ} (F__law_wide_one : FnZ P w K mg base k "_law_wide_one" 2 sp__law_wide_one) {f : Addr} {X : Cx} {E : XZ} {cdv : Value} {A : Around} {outer : List Env} {s : Shared} {H : Hp} {E1 : XK} (e : X = cxOf (L2.CX P w) P w K mg base ["_law_view_here", "_law_widths_here", "_law_one", "_law_found", "_law_other", "_law_pair"] "_law_wide" (defScope (top 24)) f cdv A outer s H E1) (hr : Room k X.A) (tk : TakesZ X (fun C _ Z => E C Z)) (hp : PassesOwn (model X.prog X.w) X.A X.env X.xe) : ZSs X (defBody (top 24)) (t__law_wide sp__law_wide sp__law_there sp__law_wide_one E) := by
  subst e
  have nd : (["_law_view_here", "_law_widths_here", "_law_one", "_law_found", "_law_other", "_law_pair"] : List Str).Nodup := sc__law_wide.nd
  exact (zss_cons (zs_if (zt_cmp oz_eq (ze_ix (zv 0) ze_int) ze_str)
   (zss_one (zs_ret (ze_if (zt_chain oz_le oz_lt ze_int (ze_ix (zv 0) ze_int) (ze_callB cz_len (by rfl) M.g_len (by rfl) (za_cons (zv 1) za_nil))) (ze_ix (zv 1) (ze_ix (zv 0) ze_int)) ze_non)))
   zss_nil)
  (zss_cons (zs_if (zt_cmp oz_notIn (ze_ix (zv 0) ze_int) (ze_tup (za_cons ze_str (za_cons ze_str (za_cons ze_str (za_cons ze_str (za_cons ze_str (za_cons ze_str (za_cons ze_str (za_cons ze_str za_nil))))))))))
   (zss_one (zs_ret ze_non))
   zss_nil)
  (zss_cons (zs_set nd rfl (by first | exact .inl rfl | exact .inr rfl | exact .inr (.inl rfl) | exact .inr (.inr rfl)) (ze_call F__law_wide tk hr (za_cons (ze_ix (zv 0) ze_int) (za_cons (zv 1) za_nil))))
  (zss_cons (zs_if (zt_isN (zv 2))
   (zss_one (zs_ret ze_non))
   zss_nil)
  (zss_cons (zs_set nd rfl (by first | exact .inl rfl | exact .inr rfl | exact .inr (.inl rfl) | exact .inr (.inr rfl)) ze_non)
  (zss_cons (zs_if (zt_cmp oz_in (ze_ix (zv 0) ze_int) (ze_tup (za_cons ze_str (za_cons ze_str (za_cons ze_str za_nil)))))
   (zss_cons (zs_set nd rfl (by first | exact .inl rfl | exact .inr rfl | exact .inr (.inl rfl) | exact .inr (.inr rfl)) (ze_call F__law_wide tk hr (za_cons (ze_ix (zv 0) ze_int) (za_cons (zv 1) za_nil))))
   (zss_cons (zs_if (zt_isN (zv 4))
    (zss_one (zs_ret ze_non))
    zss_nil)
   (zss_one (zs_if (zt_cmp oz_ne (ze_ix (zv 0) ze_int) ze_str)
    (zss_one (zs_set nd rfl (by first | exact .inl rfl | exact .inr rfl | exact .inr (.inl rfl) | exact .inr (.inr rfl)) (ze_if (zt_cmp oz_eq (zv 2) (zv 4)) (zv 2) ze_non)))
    (zss_one (zs_if (zw_and (zt_val (ze_call F__law_there tk hr (za_cons (ze_comp rfl nd (zi_seq (ze_ix (zv 0) ze_int)) (blkOk ["_law_view_here", "_law_widths_here", "_law_one", "_law_found", "_law_other", "_law_pair"] (defScope (top 24)) rfl (by decide +kernel) (by decide +kernel) (by decide +kernel) (by decide +kernel)) (fun _ _ _ _ _ => (pg_name nd rfl (by first | exact .inl rfl | exact .inr rfl | exact .inr (.inl rfl) | exact .inr (.inr rfl)) (by first | exact .inl rfl | exact .inr rfl))) (fun s_ H_ C_ cl_ fp_ => (ze_ix (zv 5) ze_int))) (za_cons (zv 2) za_nil)))) (zw_and1 (zt_val (ze_call F__law_there tk hr (za_cons (ze_comp rfl nd (zi_seq (ze_ix (zv 0) ze_int)) (blkOk ["_law_view_here", "_law_widths_here", "_law_one", "_law_found", "_law_other", "_law_pair"] (defScope (top 24)) rfl (by decide +kernel) (by decide +kernel) (by decide +kernel) (by decide +kernel)) (fun _ _ _ _ _ => (pg_name nd rfl (by first | exact .inl rfl | exact .inr rfl | exact .inr (.inl rfl) | exact .inr (.inr rfl)) (by first | exact .inl rfl | exact .inr rfl))) (fun s_ H_ C_ cl_ fp_ => (ze_ix (zv 5) ze_int))) (za_cons (zv 4) za_nil)))))).pt
     (zss_one (zs_set nd rfl (by first | exact .inl rfl | exact .inr rfl | exact .inr (.inl rfl) | exact .inr (.inr rfl)) (ze_op oz_add (zv 2) (zv 4))))
     zss_nil))))))
   (zss_one (zs_set nd rfl (by first | exact .inl rfl | exact .inr rfl | exact .inr (.inl rfl) | exact .inr (.inr rfl)) (ze_call F__law_wide_one tk hr (za_cons (zv 0) (za_cons (zv 2) za_nil))))))
  (zss_one (zs_ret (ze_if (zw_or (zt_isN (zv 3)) (zw_or1 (zt_cmp oz_le (zv 3) ze_int))).pt (zv 3) ze_non)))))))))
def t__law_odd (E : XZ) : TSz :=
  (zSeq (zAsg (zOp bIx (zLst (zCons (zNeg (zC (.int 1))) (zCons (zC (.int 1)) (zCons (zC (.int 2)) (zCons (zC (.int 3)) (zCons (zC (.int 40)) (zCons (zNeg (zC (.int 40))) (zCons (zC (.int 0)) zNil)))))))) (zOp bMod (zOp bDiv (zV 0) (zC (.int 10))) (zC (.int 7)))) (zgName 2))
  (zSeq (zAsg (zOp bIx (zLst (zCons (zOp bAdd (zC (.int 2)) (zV 2)) (zCons (zOp bSub (zOp bSub (zC (.int 0)) (zC (.int 1))) (zOp bMod (zOp bDiv (zV 0) (zC (.int 140))) (zC (.int 9)))) zNil))) (zOp bMod (zOp bDiv (zV 0) (zC (.int 70))) (zC (.int 2)))) (zgName 3))
  (zSeq (zAsg (zLst (zCons (zTup (zCons (zC (.str "table")) (zCons (zV 3) zNil))) (zCons (zTup (zCons (zC (.str "within")) (zCons (zV 1) (zCons (zOp bAdd (zC (.int 1)) (zV 2)) (zCons (zC (.int 0)) (zCons (zC (.int 1)) zNil)))))) (zCons (zTup (zCons (zC (.str "columns")) (zCons (zV 1) (zCons (zTup (zCons (zC (.int 0)) (zCons (zOp bAdd (zC (.int 1)) (zV 2)) zNil))) zNil)))) (zCons (zTup (zCons (zC (.str "columns")) (zCons (zV 1) (zCons (zTup zNil) zNil)))) zNil))))) (zgName 4))
  (zSeq (zAsg (zOp bAdd (zV 4) (zLst (zCons (zTup (zCons (zC (.str "sums")) (zCons (zV 1) (zCons (zTup (zCons (zC (.int 0)) zNil)) (zCons (zOp bAdd (zC (.int 1)) (zV 2)) zNil))))) (zCons (zTup (zCons (zC (.str "sums")) (zCons (zV 1) (zCons (zTup (zCons (zC (.int 0)) (zCons (zOp bAdd (zC (.int 1)) (zV 2)) zNil))) (zCons (zC (.int 0)) zNil))))) (zCons (zTup (zCons (zC (.str "reach")) (zCons (zV 1) zNil))) zNil))))) (zgName 4))
  (zSeq (zAsg (zOp bAdd (zV 4) (zLst (zCons (zTup (zCons (zC (.str "meet")) (zCons (zV 1) (zCons (zV 1) (zCons (zTup (zCons (zTup (zCons (zC (.int 0)) (zCons (zC (.int 0)) zNil))) (zCons (zTup (zCons (zOp bAdd (zC (.int 1)) (zV 2)) (zCons (zC (.int 0)) zNil))) zNil))) zNil))))) zNil))) (zgName 4))
  (zSeq (zAsg (zOp bAdd (zV 4) (zLst (zCons (zTup (zCons (zC (.str "meet")) (zCons (zV 1) (zCons (zTup (zCons (zC (.str "columns")) (zCons (zV 1) (zCons (zTup (zCons (zC (.int 0)) zNil)) zNil)))) (zCons (zTup (zCons (zTup (zCons (zC (.int 0)) (zCons (zOp bAdd (zC (.int 1)) (zV 2)) zNil))) zNil)) zNil))))) zNil))) (zgName 4))
  (zSeq (zAsg (zOp bAdd (zV 4) (zLst (zCons (zTup (zCons (zOp bIx (zLst (zCons (zC (.str "Table")) (zCons (zC (.str "")) (zCons (zC (.str "join")) (zCons (zC (.str "meets")) zNil))))) (zOp bMod (zOp bDiv (zV 0) (zC (.int 70))) (zC (.int 4)))) (zCons (zV 1) (zCons (zV 1) zNil)))) zNil))) (zgName 4))
  (zRet (zOp bIx (zV 4) (zOp bMod (zV 0) (zC (.int 10))))))))))))
theorem sc__law_odd : FnScope ["_law_cell", "_law_view_here", "_law_far", "_law_table", "_law_some_here"] ["_law_cell", "_law_view_here"] (defScope (top 25)) := ⟨rfl, rfl, rfl, by decide +kernel, rfl, by decide +kernel, by decide +kernel⟩
theorem d__law_odd {P : Program} {w : World} {K : PySem.W.Frag} {mg : Str → Option Value} {base : Heap} (M : Mk K mg) {k : Nat} {f : Addr} {X : Cx} {E : XZ} {cdv : Value} {A : Around} {outer : List Env} {s : Shared} {H : Hp} {E1 : XK} (e : X = cxOf (L2.CX P w) P w K mg base ["_law_cell", "_law_view_here", "_law_far", "_law_table", "_law_some_here"] "_law_odd" (defScope (top 25)) f cdv A outer s H E1) (hr : Room k X.A) (tk : TakesZ X (fun C _ Z => E C Z)) (hp : PassesOwn (model X.prog X.w) X.A X.env X.xe) : ZSs X (defBody (top 25)) (t__law_odd E) := by
  subst e
  have nd : (["_law_cell", "_law_view_here", "_law_far", "_law_table", "_law_some_here"] : List Str).Nodup := sc__law_odd.nd
  exact (zss_cons (zs_set nd rfl (by first | exact .inl rfl | exact .inr rfl | exact .inr (.inl rfl) | exact .inr (.inr rfl)) (ze_ix (ze_lst (za_cons (ze_neg ze_int) (za_cons ze_int (za_cons ze_int (za_cons ze_int (za_cons ze_int (za_cons (ze_neg ze_int) (za_cons ze_int za_nil)))))))) (ze_op oz_mod (ze_op oz_div (zv 0) ze_int) ze_int)))
  (zss_cons (zs_set nd rfl (by first | exact .inl rfl | exact .inr rfl | exact .inr (.inl rfl) | exact .inr (.inr rfl)) (ze_ix (ze_lst (za_cons (ze_op oz_add ze_int (zv 2)) (za_cons (ze_op oz_sub (ze_op oz_sub ze_int ze_int) (ze_op oz_mod (ze_op oz_div (zv 0) ze_int) ze_int)) za_nil))) (ze_op oz_mod (ze_op oz_div (zv 0) ze_int) ze_int)))
  (zss_cons (zs_set nd rfl (by first | exact .inl rfl | exact .inr rfl | exact .inr (.inl rfl) | exact .inr (.inr rfl)) (ze_lst (za_cons (ze_tup (za_cons ze_str (za_cons (zv 3) za_nil))) (za_cons (ze_tup (za_cons ze_str (za_cons (zv 1) (za_cons (ze_op oz_add ze_int (zv 2)) (za_cons ze_int (za_cons ze_int za_nil)))))) (za_cons (ze_tup (za_cons ze_str (za_cons (zv 1) (za_cons (ze_tup (za_cons ze_int (za_cons (ze_op oz_add ze_int (zv 2)) za_nil))) za_nil)))) (za_cons (ze_tup (za_cons ze_str (za_cons (zv 1) (za_cons (ze_tup za_nil) za_nil)))) za_nil))))))
  (zss_cons (zs_set nd rfl (by first | exact .inl rfl | exact .inr rfl | exact .inr (.inl rfl) | exact .inr (.inr rfl)) (ze_op oz_add (zv 4) (ze_lst (za_cons (ze_tup (za_cons ze_str (za_cons (zv 1) (za_cons (ze_tup (za_cons ze_int za_nil)) (za_cons (ze_op oz_add ze_int (zv 2)) za_nil))))) (za_cons (ze_tup (za_cons ze_str (za_cons (zv 1) (za_cons (ze_tup (za_cons ze_int (za_cons (ze_op oz_add ze_int (zv 2)) za_nil))) (za_cons ze_int za_nil))))) (za_cons (ze_tup (za_cons ze_str (za_cons (zv 1) za_nil))) za_nil))))))
  (zss_cons (zs_set nd rfl (by first | exact .inl rfl | exact .inr rfl | exact .inr (.inl rfl) | exact .inr (.inr rfl)) (ze_op oz_add (zv 4) (ze_lst (za_cons (ze_tup (za_cons ze_str (za_cons (zv 1) (za_cons (zv 1) (za_cons (ze_tup (za_cons (ze_tup (za_cons ze_int (za_cons ze_int za_nil))) (za_cons (ze_tup (za_cons (ze_op oz_add ze_int (zv 2)) (za_cons ze_int za_nil))) za_nil))) za_nil))))) za_nil))))
  (zss_cons (zs_set nd rfl (by first | exact .inl rfl | exact .inr rfl | exact .inr (.inl rfl) | exact .inr (.inr rfl)) (ze_op oz_add (zv 4) (ze_lst (za_cons (ze_tup (za_cons ze_str (za_cons (zv 1) (za_cons (ze_tup (za_cons ze_str (za_cons (zv 1) (za_cons (ze_tup (za_cons ze_int za_nil)) za_nil)))) (za_cons (ze_tup (za_cons (ze_tup (za_cons ze_int (za_cons (ze_op oz_add ze_int (zv 2)) za_nil))) za_nil)) za_nil))))) za_nil))))
  (zss_cons (zs_set nd rfl (by first | exact .inl rfl | exact .inr rfl | exact .inr (.inl rfl) | exact .inr (.inr rfl)) (ze_op oz_add (zv 4) (ze_lst (za_cons (ze_tup (za_cons (ze_ix (ze_lst (za_cons ze_str (za_cons ze_str (za_cons ze_str (za_cons ze_str za_nil))))) (ze_op oz_mod (ze_op oz_div (zv 0) ze_int) ze_int)) (za_cons (zv 1) (za_cons (zv 1) za_nil)))) za_nil))))
  (zss_one (zs_ret (ze_ix (zv 4) (ze_op oz_mod (zv 0) ze_int)))))))))))
def t__law_wrapped (E : XZ) : TSz :=
  (zSeq (zAsg (zLst (zCons (zV 2) (zCons (zTup (zCons (zC (.str "once")) (zCons (zV 2) zNil))) (zCons (zTup (zCons (zC (.str "both")) (zCons (zV 1) (zCons (zV 2) zNil)))) (zCons (zTup (zCons (zC (.str "less")) (zCons (zV 2) (zCons (zV 1) zNil)))) (zCons (zTup (zCons (zC (.str "meet")) (zCons (zV 1) (zCons (zV 2) (zCons (zTup zNil) zNil))))) (zCons (zTup (zCons (zC (.str "reach")) (zCons (zV 2) zNil))) zNil))))))) (zgName 3))
  (zSeq (zAsg (zOp bAdd (zV 3) (zLst (zCons (zTup (zCons (zC (.str "columns")) (zCons (zV 2) (zCons (zTup (zCons (zC (.int 0)) zNil)) zNil)))) (zCons (zTup (zCons (zC (.str "sums")) (zCons (zV 2) (zCons (zTup zNil) (zCons (zC (.int 0)) zNil))))) (zCons (zTup (zCons (zC (.str "both")) (zCons (zV 2) (zCons (zV 2) zNil)))) zNil))))) (zgName 3))
  (zRet (zOp bIx (zV 3) (zOp bMod (zV 0) (zC (.int 9)))))))
theorem sc__law_wrapped : FnScope ["_law_cell", "_law_view_here", "_law_odd_here", "_law_some_here"] ["_law_cell", "_law_view_here", "_law_odd_here"] (defScope (top 26)) := ⟨rfl, rfl, rfl, by decide +kernel, rfl, by decide +kernel, by decide +kernel⟩
theorem d__law_wrapped {P : Program} {w : World} {K : PySem.W.Frag} {mg : Str → Option Value} {base : Heap} (M : Mk K mg) {k : Nat} {f : Addr} {X : Cx} {E : XZ} {cdv : Value} {A : Around} {outer : List Env} {s : Shared} {H : Hp} {E1 : XK} (e : X = cxOf (L2.CX P w) P w K mg base ["_law_cell", "_law_view_here", "_law_odd_here", "_law_some_here"] "_law_wrapped" (defScope (top 26)) f cdv A outer s H E1) (hr : Room k X.A) (tk : TakesZ X (fun C _ Z => E C Z)) (hp : PassesOwn (model X.prog X.w) X.A X.env X.xe) : ZSs X (defBody (top 26)) (t__law_wrapped E) := by
  subst e
  have nd : (["_law_cell", "_law_view_here", "_law_odd_here", "_law_some_here"] : List Str).Nodup := sc__law_wrapped.nd
  exact (zss_cons (zs_set nd rfl (by first | exact .inl rfl | exact .inr rfl | exact .inr (.inl rfl) | exact .inr (.inr rfl)) (ze_lst (za_cons (zv 2) (za_cons (ze_tup (za_cons ze_str (za_cons (zv 2) za_nil))) (za_cons (ze_tup (za_cons ze_str (za_cons (zv 1) (za_cons (zv 2) za_nil)))) (za_cons (ze_tup (za_cons ze_str (za_cons (zv 2) (za_cons (zv 1) za_nil)))) (za_cons (ze_tup (za_cons ze_str (za_cons (zv 1) (za_cons (zv 2) (za_cons (ze_tup za_nil) za_nil))))) (za_cons (ze_tup (za_cons ze_str (za_cons (zv 2) za_nil))) za_nil))))))))
  (zss_cons (zs_set nd rfl (by first | exact .inl rfl | exact .inr rfl | exact .inr (.inl rfl) | exact .inr (.inr rfl)) (ze_op oz_add (zv 3) (ze_lst (za_cons (ze_tup (za_cons ze_str (za_cons (zv 2) (za_cons (ze_tup (za_cons ze_int za_nil)) za_nil)))) (za_cons (ze_tup (za_cons ze_str (za_cons (zv 2) (za_cons (ze_tup za_nil) (za_cons ze_int za_nil))))) (za_cons (ze_tup (za_cons ze_str (za_cons (zv 2) (za_cons (zv 2) za_nil)))) za_nil))))))
  (zss_one (zs_ret (ze_ix (zv 3) (ze_op oz_mod (zv 0) ze_int))))))
def t__law_many (E : XZ) : TSz :=
  (zSeq (zFor (ziRange (zV 1)) (zgName 2) (zAsg (zTup (zCons (zC (.str "meet")) (zCons (zV 0) (zCons (zV 0) (zCons (zTup zNil) zNil))))) (zgName 0)))
  (zRet (zV 0)))
theorem sc__law_many : FnScope ["_law_view_here", "_law_times", "_law_k"] ["_law_view_here", "_law_times"] (defScope (top 27)) := ⟨rfl, rfl, rfl, by decide +kernel, rfl, by decide +kernel, by decide +kernel⟩
theorem d__law_many {P : Program} {w : World} {K : PySem.W.Frag} {mg : Str → Option Value} {base : Heap} (M : Mk K mg) {k : Nat} {f : Addr} {X : Cx} {E : XZ} {cdv : Value} {A : Around} {outer : List Env} {s : Shared} {H : Hp} {E1 : XK} (e : X = cxOf (L2.CX P w) P w K mg base ["_law_view_here", "_law_times", "_law_k"] "_law_many" (defScope (top 27)) f cdv A outer s H E1) (hr : Room k X.A) (tk : TakesZ X (fun C _ Z => E C Z)) (hp : PassesOwn (model X.prog X.w) X.A X.env X.xe) : ZSs X (defBody (top 27)) (t__law_many E) := by
  subst e
  have nd : (["_law_view_here", "_law_times", "_law_k"] : List Str).Nodup := sc__law_many.nd
  exact (zss_cons (zs_for hp rfl (zi_range (by rfl) M.g_range (zv 1)) (zg_name nd (i := 2) rfl (by first | exact .inl rfl | exact .inr rfl | exact .inr (.inl rfl) | exact .inr (.inr rfl))) (zss_one (zs_set nd rfl (by first | exact .inl rfl | exact .inr rfl | exact .inr (.inl rfl) | exact .inr (.inr rfl)) (ze_tup (za_cons ze_str (za_cons (zv 0) (za_cons (zv 0) (za_cons (ze_tup za_nil) za_nil))))))))
  (zss_one (zs_ret (zv 0))))
def t_law (sp__law_widths : SpZ) (sp__law_view : SpZ) (sp__law_at : SpZ) (sp__law_odd : SpZ) (sp__law_wrapped : SpZ) (sp__law_many : SpZ) (sp__law_wide : SpZ) (sp__law_said : SpZ) (sp__law_whole : SpZ) (E : XZ) : TSz :=
  (zSeq (zAsg (zCall sp__law_widths (wE E) (zCons (zV 0) zNil)) (zgName 1))
  (zSeq (zAsg (zOp bIx (zCall sp__law_view (wE E) (zCons (zV 0) (zCons (zV 1) (zCons (zC (.int 0)) (zCons (zC (.int 0)) (zCons (zC (.int 3)) zNil)))))) (zC (.int 0))) (zgName 2))
  (zSeq (zAsg (zCall sp__law_at (wE E) (zCons (zV 0) (zCons (zC (.int 5)) zNil))) (zgName 3))
  (zSeq (zIf (zTest (zOp bEq (zOp bMod (zV 3) (zC (.int 4))) (zC (.int 1))))
   (zAsg (zCall sp__law_wrapped (wE E) (zCons (zOp bDiv (zV 3) (zC (.int 4))) (zCons (zV 2) (zCons (zCall sp__law_odd (wE E) (zCons (zCall sp__law_at (wE E) (zCons (zV 0) (zCons (zC (.int 6)) zNil))) (zCons (zV 2) zNil))) zNil)))) (zgName 2))
   zNext)
  (zSeq (zIf (zTest (zOp bEq (zOp bMod (zV 3) (zC (.int 4))) (zC (.int 3))))
   (zAsg (zCall sp__law_wrapped (wE E) (zCons (zOp bDiv (zV 3) (zC (.int 4))) (zCons (zV 2) (zCons (zCall sp__law_many (wE E) (zCons (zV 2) (zCons (zOp bAdd (zC (.int 2)) (zOp bMod (zCall sp__law_at (wE E) (zCons (zV 0) (zCons (zC (.int 6)) zNil))) (zC (.int 5)))) zNil))) zNil)))) (zgName 2))
   zNext)
  (zSeq (zAsg (zCB rListZ (zCons (zV 1) zNil)) (zgName 4))
  (zSeq (zAsg (zCall sp__law_wide (wE E) (zCons (zV 2) (zCons (zV 1) zNil))) (zgName 5))
  (zSeq (zAsg (zCall sp__law_said (wE E) (zCons (zV 2) (zCons (zV 4) zNil))) (zgName 6))
  (zSeq (zIf (zTest (zOp bNl (zV 4) (zV 1)))
   (zRet (zC (.bl false)))
   zNext)
  (zSeq (zIf (zTest (zIsN (zV 5)))
   (zRet (zOp bEq (zV 6) (zC (.str "view"))))
   zNext)
  (zRet (zAndV (zCall sp__law_whole (wE E) (zCons (zV 6) zNil)) (zOp bEq (zV 6) (zV 5))))))))))))))
theorem sc_law : FnScope ["_law_script", "_law_widths_here", "_law_view_here", "_law_way", "_law_handed", "_law_due", "_law_found"] ["_law_script"] (defScope (top 30)) := ⟨rfl, rfl, rfl, by decide +kernel, rfl, by decide +kernel, by decide +kernel⟩
theorem d_law {P : Program} {w : World} {K : PySem.W.Frag} {mg : Str → Option Value} {base : Heap} (M : Mk K mg) {k : Nat} {sp__law_widths : SpZ} (F__law_widths : FnZ P w K mg base k "_law_widths" 1 sp__law_widths) {sp__law_view : SpZ} (F__law_view : FnZ P w K mg base k "_law_view" 5 sp__law_view) {sp__law_at : SpZ} (F__law_at : FnZ P w K mg base k "_law_at" 2 sp__law_at) {sp__law_odd : SpZ} (F__law_odd : FnZ P w K mg base k "_law_odd" 2 sp__law_odd) {sp__law_wrapped : SpZ} (F__law_wrapped : FnZ P w K mg base k "_law_wrapped" 3 sp__law_wrapped) {sp__law_many : SpZ} (F__law_many : FnZ P w K mg base k "_law_many" 2 sp__law_many) {sp__law_wide : SpZ} (F__law_wide : FnZ P w K mg base k "_law_wide" 2 sp__law_wide) {sp__law_said : SpZ} (F__law_said : FnZ P w K mg base k "_law_said" 2 sp__law_said) {sp__law_whole : SpZ} (F__law_whole : FnZ P w K mg base k "_law_whole" 1 sp__law_whole) {f : Addr} {X : Cx} {E : XZ} {cdv : Value} {A : Around} {outer : List Env} {s : Shared} {H : Hp} {E1 : XK} (e : X = cxOf (L2.CX P w) P w K mg base ["_law_script", "_law_widths_here", "_law_view_here", "_law_way", "_law_handed", "_law_due", "_law_found"] "law" (defScope (top 30)) f cdv A outer s H E1) (hr : Room k X.A) (tk : TakesZ X (fun C _ Z => E C Z)) (hp : PassesOwn (model X.prog X.w) X.A X.env X.xe) : ZSs X (defBody (top 30)) (t_law sp__law_widths sp__law_view sp__law_at sp__law_odd sp__law_wrapped sp__law_many sp__law_wide sp__law_said sp__law_whole E) := by
  subst e
  have nd : (["_law_script", "_law_widths_here", "_law_view_here", "_law_way", "_law_handed", "_law_due", "_law_found"] : List Str).Nodup := sc_law.nd
  exact (zss_cons (zs_set nd rfl (by first | exact .inl rfl | exact .inr rfl | exact .inr (.inl rfl) | exact .inr (.inr rfl)) (ze_call F__law_widths tk hr (za_cons (zv 0) za_nil)))
  (zss_cons (zs_set nd rfl (by first | exact .inl rfl | exact .inr rfl | exact .inr (.inl rfl) | exact .inr (.inr rfl)) (ze_ix (ze_call F__law_view tk hr (za_cons (zv 0) (za_cons (zv 1) (za_cons ze_int (za_cons ze_int (za_cons ze_int za_nil)))))) ze_int))
  (zss_cons (zs_set nd rfl (by first | exact .inl rfl | exact .inr rfl | exact .inr (.inl rfl) | exact .inr (.inr rfl)) (ze_call F__law_at tk hr (za_cons (zv 0) (za_cons ze_int za_nil))))
  (zss_cons (zs_if (zt_cmp oz_eq (ze_op oz_mod (zv 3) ze_int) ze_int)
   (zss_one (zs_set nd rfl (by first | exact .inl rfl | exact .inr rfl | exact .inr (.inl rfl) | exact .inr (.inr rfl)) (ze_call F__law_wrapped tk hr (za_cons (ze_op oz_div (zv 3) ze_int) (za_cons (zv 2) (za_cons (ze_call F__law_odd tk hr (za_cons (ze_call F__law_at tk hr (za_cons (zv 0) (za_cons ze_int za_nil))) (za_cons (zv 2) za_nil))) za_nil))))))
   zss_nil)
  (zss_cons (zs_if (zt_cmp oz_eq (ze_op oz_mod (zv 3) ze_int) ze_int)
   (zss_one (zs_set nd rfl (by first | exact .inl rfl | exact .inr rfl | exact .inr (.inl rfl) | exact .inr (.inr rfl)) (ze_call F__law_wrapped tk hr (za_cons (ze_op oz_div (zv 3) ze_int) (za_cons (zv 2) (za_cons (ze_call F__law_many tk hr (za_cons (zv 2) (za_cons (ze_op oz_add ze_int (ze_op oz_mod (ze_call F__law_at tk hr (za_cons (zv 0) (za_cons ze_int za_nil))) ze_int)) za_nil))) za_nil))))))
   zss_nil)
  (zss_cons (zs_set nd rfl (by first | exact .inl rfl | exact .inr rfl | exact .inr (.inl rfl) | exact .inr (.inr rfl)) (ze_callTy cz_list (by rfl) M.g_list (by rfl) (za_cons (zv 1) za_nil)))
  (zss_cons (zs_set nd rfl (by first | exact .inl rfl | exact .inr rfl | exact .inr (.inl rfl) | exact .inr (.inr rfl)) (ze_call F__law_wide tk hr (za_cons (zv 2) (za_cons (zv 1) za_nil))))
  (zss_cons (zs_set nd rfl (by first | exact .inl rfl | exact .inr rfl | exact .inr (.inl rfl) | exact .inr (.inr rfl)) (ze_call F__law_said tk hr (za_cons (zv 2) (za_cons (zv 4) za_nil))))
  (zss_cons (zs_if (zt_cmp (oz_neL (by have := hr.un; omega)) (zv 4) (zv 1))
   (zss_one (zs_ret ze_bl))
   zss_nil)
  (zss_cons (zs_if (zt_isN (zv 5))
   (zss_one (zs_ret (ze_cmp oz_eq (zv 6) ze_str)))
   zss_nil)
  (zss_one (zs_ret (ze_and (ze_call F__law_whole tk hr (za_cons (zv 6) za_nil)) (ze_one (ze_cmp oz_eq (zv 6) (zv 5))))))))))))))))
end K06
set_option Elab.async false
set_option linter.all false
set_option maxRecDepth 100000
set_option maxHeartbeats 4000000
namespace K06
open PySem PySem.Spec PyProof.Rows L2 Zy
/-! ### views, their widths -/
inductive Vw where
  | table (t : Int) | within (v : Vw) (c : Int) (lo hi : D) | columns (v : Vw) (cs : List Int) | once (v : Vw) | sums (v : Vw) (ks : List Int) (c : Int) | reach (v : Vw)
  | both (v u : Vw) | less (v u : Vw) | meet (v u : Vw) (ps : List (Int × Int)) | odd0 (v u : Vw) | odd1 (v u : Vw) | odd2 (v u : Vw) | odd3 (v u : Vw)
namespace Vw
def d : Vw → D
  | .table t => .tup [.str "table", .int t]
  | .within v c lo hi => .tup [.str "within", v.d, .int c, lo, hi]
  | .columns v cs => .tup [.str "columns", v.d, row cs]
  | .once v => .tup [.str "once", v.d]
  | .sums v ks c => .tup [.str "sums", v.d, row ks, .int c]
  | .reach v => .tup [.str "reach", v.d]
  | .both v u => .tup [.str "both", v.d, u.d]
  | .less v u => .tup [.str "less", v.d, u.d]
  | .meet v u ps => .tup [.str "meet", v.d, u.d, .tup (ps.map fun p => row [p.1, p.2])]
  | .odd0 v u => .tup [.str "Table", v.d, u.d]
  | .odd1 v u => .tup [.str "", v.d, u.d]
  | .odd2 v u => .tup [.str "join", v.d, u.d]
  | .odd3 v u => .tup [.str "meets", v.d, u.d]
def depth : Vw → Nat
  | .within v _ _ _ => v.depth + 1 | .columns v _ => v.depth + 1 | .once v => v.depth + 1 | .sums v ks _ => v.depth + 1 + ks.length / 10 | .reach v => v.depth + 1
  | .both v u => max v.depth u.depth + 1 | .less v u => max v.depth u.depth + 1 | .meet v u ps => max v.depth u.depth + 1 + ps.length / 10
  | _ => 0
end Vw
def inR (w c : Int) : Bool := decide (0 ≤ c) && decide (c < w)
def wid1 (w : Int) : Vw → Option Int
  | .within _ c _ _ => if inR w c = true then some w else none
  | .columns _ cs => if cs.all (inR w) = true ∧ cs ≠ [] then some cs.length else none
  | .once _ => some w
  | .sums _ ks c => if (ks ++ [c]).all (inR w) = true then some (ks.length + 2) else none
  | .reach _ => if w = 2 then some 2 else none
  | _ => none
def isOne : Vw → Bool
  | .within _ _ _ _ => true | .columns _ _ => true | .once _ => true | .sums _ _ _ => true | .reach _ => true
  | _ => false
def wid2 (w o : Int) : Vw → Option Int
  | .meet _ _ ps => if (ps.map (·.1)).all (inR w) = true ∧ (ps.map (·.2)).all (inR o) = true then some (w + o) else none
  | _ => if w = o then some w else none
def isTwo : Vw → Bool
  | .both _ _ => true | .less _ _ => true | .meet _ _ _ => true
  | _ => false
def cap : Option Int → Option Int
  | some n => if n ≤ 40 then some n else none
  | none => none
def wid (ws : List Int) : Vw → Option Int
  | .table t => if 0 ≤ t then ws[t.toNat]? else none
  | .within v c lo hi => match wid ws v with | some w => cap (wid1 w (.within v c lo hi)) | none => none
  | .columns v cs => match wid ws v with | some w => cap (wid1 w (.columns v cs)) | none => none
  | .once v => match wid ws v with | some w => cap (wid1 w (.once v)) | none => none
  | .sums v ks c => match wid ws v with | some w => cap (wid1 w (.sums v ks c)) | none => none
  | .reach v => match wid ws v with | some w => cap (wid1 w (.reach v)) | none => none
  | .both v u => match wid ws v, wid ws u with | some w, some o => cap (wid2 w o (.both v u)) | _, _ => none
  | .less v u => match wid ws v, wid ws u with | some w, some o => cap (wid2 w o (.less v u)) | _, _ => none
  | .meet v u ps => match wid ws v, wid ws u with | some w, some o => cap (wid2 w o (.meet v u ps)) | _, _ => none
  | _ => none
theorem wid1_within {w : Int} {v : Vw} {c : Int} {lo hi : D} : wid1 w (.within v c lo hi) = if inR w c = true then some w else none := rfl
theorem wid1_columns {w : Int} {v : Vw} {cs : List Int} : wid1 w (.columns v cs) = if cs.all (inR w) = true ∧ cs ≠ [] then some (cs.length : Int) else none := rfl
theorem wid1_sums {w : Int} {v : Vw} {ks : List Int} {c : Int} : wid1 w (.sums v ks c) = if (ks ++ [c]).all (inR w) = true then some ((ks.length : Int) + 2) else none := rfl
theorem wid1_reach {w : Int} {v : Vw} : wid1 w (.reach v) = if w = 2 then some 2 else none := rfl
theorem wid2_meet {w o : Int} {v u : Vw} {ps : List (Int × Int)} : wid2 w o (.meet v u ps) = if (ps.map (·.1)).all (inR w) = true ∧ (ps.map (·.2)).all (inR o) = true then some (w + o) else none := rfl
theorem few_size {n : Nat} (h : n ≤ 1000) : n ≤ sizeLine := Nat.le_trans h (by rw [sizeLine_eq]; decide)
/-! ### promises -/
abbrev EB (E : XZ) (B : Addr) (H : ZH) : Prop := ∀ H', Sub H H' → E B H'
abbrev fin (Q : WP) : Ez := ⟨fun _ H => ∃ H0, Sub H0 H ∧ Q .non H0, fun d H => ∃ H0, Sub H0 H ∧ Q d H0, fun _ _ => False, fun _ _ => False⟩
def oD : Option Int → D
  | some n => .int n
  | none => .non
def sD : Option Int → D
  | some n => .int n
  | none => .str "view"
def sp_need (B : Addr) : SpZ := fun ds H Q E => ∃ (d : D) (w : Int) (ns : List Int), ds = [d, .int w] ∧ seqZ H d = some (ns.map D.int) ∧ (ns.all (inR w) = true → Q .non H) ∧ (ns.all (inR w) = false → EB E B H)
def sp_one (B : Addr) : SpZ := fun ds H Q E => ∃ (v : Vw) (w : Int), ds = [v.d, .int w] ∧ isOne v = true ∧ v.depth < 50 ∧ (∀ n, wid1 w v = some n → Q (.int n) H) ∧ (wid1 w v = none → EB E B H)
def sp_two (B : Addr) : SpZ := fun ds H Q E => ∃ (v : Vw) (w o : Int), ds = [v.d, .int w, .int o] ∧ isTwo v = true ∧ v.depth < 50 ∧ (∀ n, wid2 w o v = some n → Q (.int n) H) ∧ (wid2 w o v = none → EB E B H)
def sp_width (B : Addr) (n : Nat) : SpZ := fun ds H Q E => ∃ (v : Vw) (a : Addr) (ws : List Int), ds = [v.d, .ref a] ∧ H a = some (.lst (ws.map D.int)) ∧ v.depth < n ∧ (∀ n, wid ws v = some n → Q (.int n) H) ∧ (wid ws v = none → EB E B H)
def sp_there : SpZ := fun ds H Q _ => ∃ (d : D) (w : Int) (ns : List Int), ds = [d, .int w] ∧ seqZ H d = some (ns.map D.int) ∧ Q (.bl (ns.all (inR w))) H
def sp_wide_one : SpZ := fun ds H Q _ => ∃ (v : Vw) (w : Int), ds = [v.d, .int w] ∧ isOne v = true ∧ v.depth < 50 ∧ Q (oD (wid1 w v)) H
def sp_wide (n : Nat) : SpZ := fun ds H Q _ => ∃ (v : Vw) (a : Addr) (ws : List Int), ds = [v.d, .ref a] ∧ H a = some (.lst (ws.map D.int)) ∧ v.depth < n ∧ Q (oD (wid ws v)) H
def sp_said (n : Nat) : SpZ := fun ds H Q _ => ∃ (v : Vw) (a : Addr) (ws : List Int), ds = [v.d, .ref a] ∧ H a = some (.lst (ws.map D.int)) ∧ v.depth < n ∧ Q (sD (wid ws v)) H
def sp_whole : SpZ := fun ds H Q _ => ∃ n : Int, ds = [.int n] ∧ Q (.bl true) H
def sp_at : SpZ := fun ds H Q _ => ∃ (ns : List Int) (k : Int), ds = [.scr ns, .int k] ∧ 0 ≤ k ∧ ∀ i : Int, Q (.int i) H
def sp_some : SpZ := fun ds H Q _ => ∃ c m w : Int, ds = [.int c, .int m, .int w] ∧ 0 ≤ m ∧ m ≤ 10 ∧ 0 < w ∧ ∀ r : List Int, (r.length : Int) = m → Q (row r) H
def sp_over_one : SpZ := fun ds H Q _ => ∃ (kind rest : Int) (v : Vw) (w : Int), ds = [.int kind, .int rest, v.d, .int w] ∧ 1 ≤ kind ∧ kind ≤ 5 ∧ 1 ≤ w ∧ w ≤ 48 ∧ ∀ (v' : Vw) (w' : Int), v'.depth ≤ v.depth + 4 → 1 ≤ w' → (w' ≤ w ∨ w' ≤ 6) → Q (.tup [v'.d, .int w']) H
def sp_over_two : SpZ := fun ds H Q _ => ∃ (kind rest : Int) (v : Vw) (w : Int) (u : Vw) (o : Int), ds = [.int kind, .int rest, v.d, .int w, u.d, .int o] ∧ 6 ≤ kind ∧ kind ≤ 8 ∧ 1 ≤ w ∧ w ≤ 48 ∧ 1 ≤ o ∧ o ≤ 48 ∧ ∀ (v' : Vw) (w' : Int), v'.depth ≤ max v.depth u.depth + 2 → 1 ≤ w' → (w' ≤ w + o ∨ w' ≤ 6) → Q (.tup [v'.d, .int w']) H
def sp_view (n : Nat) : SpZ := fun ds H Q _ => ∃ (ns : List Int) (a : Addr) (at_ deep : Int) (ws : List Int), ds = [.scr ns, .ref a, .int 0, .int at_, .int deep] ∧ H a = some (.lst (ws.map D.int)) ∧ ws ≠ [] ∧ ws.length ≤ 10 ∧ (∀ x ∈ ws, 1 ≤ x ∧ x ≤ 6) ∧
  0 ≤ deep ∧ deep ≤ 3 ∧ deep < n ∧ 0 ≤ at_ ∧ ((3 ≤ deep → at_ ≤ 0) ∧ (2 ≤ deep → at_ ≤ 2) ∧ (1 ≤ deep → at_ ≤ 6)) ∧ ∀ (v : Vw) (w : Int), (deep ≤ 0 → v.depth ≤ 0 ∧ w ≤ 6) → (deep ≤ 1 → v.depth ≤ 4 ∧ w ≤ 12) → (deep ≤ 2 → v.depth ≤ 8 ∧ w ≤ 24) → v.depth ≤ 12 → w ≤ 48 → 1 ≤ w → Q (.tup [v.d, .int w]) H
def sp_widths : SpZ := fun ds H Q _ => ∃ ns : List Int, ds = [.scr ns] ∧ ∀ (p : Addr) (ws : List Int), H p = none → ws ≠ [] → ws.length ≤ 10 → (∀ x ∈ ws, 1 ≤ x ∧ x ≤ 6) → Q (.ref p) (set H p (.lst (ws.map D.int)))
def sp_odd : SpZ := fun ds H Q _ => ∃ (c : Int) (v : Vw), ds = [.int c, v.d] ∧ ∀ v' : Vw, v'.depth ≤ v.depth + 2 → Q v'.d H
def sp_wrapped : SpZ := fun ds H Q _ => ∃ (c : Int) (v u : Vw), ds = [.int c, v.d, u.d] ∧ ∀ v' : Vw, v'.depth ≤ max v.depth u.depth + 1 → Q v'.d H
def sp_many : SpZ := fun ds H Q _ => ∃ (m : Int) (v : Vw), ds = [v.d, .int m] ∧ 0 ≤ m ∧ m ≤ 6 ∧ ∀ v' : Vw, v'.depth ≤ v.depth + 6 → Q v'.d H
def sp_law : SpZ := fun ds _ Q _ => ∃ ns : List Int, ds = [.scr ns] ∧ ∀ H', Q (.bl true) H'
/-! ### words, small facts of readings -/
theorem few0 : few [] = True := eq_true rfl
theorem few1 {a : D} : few [a] = True := eq_true rfl
theorem few2 {a b : D} : few [a, b] = True := eq_true rfl
theorem few3 {a b c : D} : few [a, b, c] = True := eq_true rfl
theorem few4 {a b c d : D} : few [a, b, c, d] = True := eq_true rfl
theorem few5 {a b c d e : D} : few [a, b, c, d, e] = True := eq_true rfl
theorem few6 {a b c d e f : D} : few [a, b, c, d, e, f] = True := eq_true rfl
theorem few7 {a b c d e f g : D} : few [a, b, c, d, e, f, g] = True := eq_true rfl
theorem few8 {a b c d e f g h : D} : few [a, b, c, d, e, f, g, h] = True := eq_true rfl
theorem few9 {a b c d e f g h i : D} : few [a, b, c, d, e, f, g, h, i] = True := eq_true rfl
theorem few10 {a b c d e f g h i j : D} : few [a, b, c, d, e, f, g, h, i, j] = True := eq_true rfl
section
variable {α : Type} {a b c d e : α} {r : List α}
theorem atI_ok {xs : List α} {i : Int} (h0 : 0 ≤ i) (h1 : i < xs.length) : atI xs i = xs[i.toNat]? := by
  unfold atI ixN
  have e1 : ¬ i < 0 := by omega
  simp [e1, h0, h1]
theorem at0 : atI (a :: r) 0 = some a := by rw [atI_ok (by omega) (by simp only [List.length_cons]; omega)]; rfl
theorem at1 : atI (a :: b :: r) 1 = some b := by rw [atI_ok (by omega) (by simp only [List.length_cons]; omega)]; rfl
theorem at2 : atI (a :: b :: c :: r) 2 = some c := by rw [atI_ok (by omega) (by simp only [List.length_cons]; omega)]; rfl
theorem at3 : atI (a :: b :: c :: d :: r) 3 = some d := by rw [atI_ok (by omega) (by simp only [List.length_cons]; omega)]; rfl
theorem at4 : atI (a :: b :: c :: d :: e :: r) 4 = some e := by rw [atI_ok (by omega) (by simp only [List.length_cons]; omega)]; rfl
end
section
variable {H : ZH} {a b c d e : D} {r : List D}
theorem it0 : item H (.tup (a :: r)) (.int 0) = some a := at0
theorem it1 : item H (.tup (a :: b :: r)) (.int 1) = some b := at1
theorem it2 : item H (.tup (a :: b :: c :: r)) (.int 2) = some c := at2
theorem it3 : item H (.tup (a :: b :: c :: d :: r)) (.int 3) = some d := at3
theorem it4 : item H (.tup (a :: b :: c :: d :: e :: r)) (.int 4) = some e := at4
end
theorem itL {H : ZH} {p : Addr} {xs : List D} {i : Int} {x : D} (h : H p = some (.lst xs)) (h0 : 0 ≤ i) (h1 : i < xs.length) (hx : xs[i.toNat]? = some x) : item H (.ref p) (.int i) = some x := by
  unfold item; simp only [h]; rw [atI_ok h0 h1, hx]
theorem EB.up {E : XZ} {B : Addr} {H H' : ZH} (e : EB E B H) (s : Sub H H') : EB E B H' := fun H2 s2 => e H2 (s.trans s2)
theorem EB.me {E : XZ} {B : Addr} {H : ZH} (e : EB E B H) : E B H := e H (Sub.refl H)
/-- a list, a tuple, walked -/
theorem seq_go {H : ZH} {s : Sg} {d : D} {i : Nat} {xs : List D} {R : List D → (ZH → Prop) → ZH → Prop} (hi : nth s i = some d) (h : seqZ H d = some xs) (hR : ∀ ok : ZH → Prop, ok H → R xs ok H) : ziSeq (zV i) s H R := by
  unfold ziSeq zV
  rw [hi]
  dsimp only
  cases d with
  | tup ds => cases h; exact hR _ trivial
  | scr ns => cases h; exact hR _ trivial
  | ref a =>
    unfold seqZ at h
    dsimp only at h ⊢
    split at h
    · rename_i ys e
      cases h
      try rw [e]
      exact hR _ e
    · cases h
  | _ => cases h
theorem seq_go' {H : ZH} {s : Sg} {te : TEz} {d : D} {xs : List D} {R : List D → (ZH → Prop) → ZH → Prop} (hi : ∀ Q : WP, Q d H → te s H Q) (h : seqZ H d = some xs) (hR : ∀ ok : ZH → Prop, ok H → R xs ok H) : ziSeq te s H R := by
  unfold ziSeq
  refine hi _ ?_
  cases d with
  | tup ds => cases h; exact hR _ trivial
  | scr ns => cases h; exact hR _ trivial
  | ref a =>
    unfold seqZ at h
    dsimp only at h ⊢
    split at h
    · rename_i ys e
      cases h
      try rw [e]
      exact hR _ e
    · cases h
  | _ => cases h
theorem wq0_1 : (("table" : Str) = "within") = False := eq_false (by decide +kernel)
theorem wq0_2 : (("table" : Str) = "columns") = False := eq_false (by decide +kernel)
theorem wq0_3 : (("table" : Str) = "once") = False := eq_false (by decide +kernel)
theorem wq0_4 : (("table" : Str) = "sums") = False := eq_false (by decide +kernel)
theorem wq0_5 : (("table" : Str) = "reach") = False := eq_false (by decide +kernel)
theorem wq0_6 : (("table" : Str) = "both") = False := eq_false (by decide +kernel)
theorem wq0_7 : (("table" : Str) = "less") = False := eq_false (by decide +kernel)
theorem wq0_8 : (("table" : Str) = "meet") = False := eq_false (by decide +kernel)
theorem wq0_9 : (("table" : Str) = "Table") = False := eq_false (by decide +kernel)
theorem wq0_10 : (("table" : Str) = "") = False := eq_false (by decide +kernel)
theorem wq0_11 : (("table" : Str) = "join") = False := eq_false (by decide +kernel)
theorem wq0_12 : (("table" : Str) = "meets") = False := eq_false (by decide +kernel)
theorem wq1_0 : (("within" : Str) = "table") = False := eq_false (by decide +kernel)
theorem wq1_2 : (("within" : Str) = "columns") = False := eq_false (by decide +kernel)
theorem wq1_3 : (("within" : Str) = "once") = False := eq_false (by decide +kernel)
theorem wq1_4 : (("within" : Str) = "sums") = False := eq_false (by decide +kernel)
theorem wq1_5 : (("within" : Str) = "reach") = False := eq_false (by decide +kernel)
theorem wq1_6 : (("within" : Str) = "both") = False := eq_false (by decide +kernel)
theorem wq1_7 : (("within" : Str) = "less") = False := eq_false (by decide +kernel)
theorem wq1_8 : (("within" : Str) = "meet") = False := eq_false (by decide +kernel)
theorem wq1_9 : (("within" : Str) = "Table") = False := eq_false (by decide +kernel)
theorem wq1_10 : (("within" : Str) = "") = False := eq_false (by decide +kernel)
theorem wq1_11 : (("within" : Str) = "join") = False := eq_false (by decide +kernel)
theorem wq1_12 : (("within" : Str) = "meets") = False := eq_false (by decide +kernel)
theorem wq2_0 : (("columns" : Str) = "table") = False := eq_false (by decide +kernel)
theorem wq2_1 : (("columns" : Str) = "within") = False := eq_false (by decide +kernel)
theorem wq2_3 : (("columns" : Str) = "once") = False := eq_false (by decide +kernel)
theorem wq2_4 : (("columns" : Str) = "sums") = False := eq_false (by decide +kernel)
theorem wq2_5 : (("columns" : Str) = "reach") = False := eq_false (by decide +kernel)
theorem wq2_6 : (("columns" : Str) = "both") = False := eq_false (by decide +kernel)
theorem wq2_7 : (("columns" : Str) = "less") = False := eq_false (by decide +kernel)
theorem wq2_8 : (("columns" : Str) = "meet") = False := eq_false (by decide +kernel)
theorem wq2_9 : (("columns" : Str) = "Table") = False := eq_false (by decide +kernel)
theorem wq2_10 : (("columns" : Str) = "") = False := eq_false (by decide +kernel)
theorem wq2_11 : (("columns" : Str) = "join") = False := eq_false (by decide +kernel)
theorem wq2_12 : (("columns" : Str) = "meets") = False := eq_false (by decide +kernel)
theorem wq3_0 : (("once" : Str) = "table") = False := eq_false (by decide +kernel)
theorem wq3_1 : (("once" : Str) = "within") = False := eq_false (by decide +kernel)
theorem wq3_2 : (("once" : Str) = "columns") = False := eq_false (by decide +kernel)
theorem wq3_4 : (("once" : Str) = "sums") = False := eq_false (by decide +kernel)
theorem wq3_5 : (("once" : Str) = "reach") = False := eq_false (by decide +kernel)
theorem wq3_6 : (("once" : Str) = "both") = False := eq_false (by decide +kernel)
theorem wq3_7 : (("once" : Str) = "less") = False := eq_false (by decide +kernel)
theorem wq3_8 : (("once" : Str) = "meet") = False := eq_false (by decide +kernel)
theorem wq3_9 : (("once" : Str) = "Table") = False := eq_false (by decide +kernel)
theorem wq3_10 : (("once" : Str) = "") = False := eq_false (by decide +kernel)
theorem wq3_11 : (("once" : Str) = "join") = False := eq_false (by decide +kernel)
theorem wq3_12 : (("once" : Str) = "meets") = False := eq_false (by decide +kernel)
theorem wq4_0 : (("sums" : Str) = "table") = False := eq_false (by decide +kernel)
theorem wq4_1 : (("sums" : Str) = "within") = False := eq_false (by decide +kernel)
theorem wq4_2 : (("sums" : Str) = "columns") = False := eq_false (by decide +kernel)
theorem wq4_3 : (("sums" : Str) = "once") = False := eq_false (by decide +kernel)
theorem wq4_5 : (("sums" : Str) = "reach") = False := eq_false (by decide +kernel)
theorem wq4_6 : (("sums" : Str) = "both") = False := eq_false (by decide +kernel)
theorem wq4_7 : (("sums" : Str) = "less") = False := eq_false (by decide +kernel)
theorem wq4_8 : (("sums" : Str) = "meet") = False := eq_false (by decide +kernel)
theorem wq4_9 : (("sums" : Str) = "Table") = False := eq_false (by decide +kernel)
theorem wq4_10 : (("sums" : Str) = "") = False := eq_false (by decide +kernel)
theorem wq4_11 : (("sums" : Str) = "join") = False := eq_false (by decide +kernel)
theorem wq4_12 : (("sums" : Str) = "meets") = False := eq_false (by decide +kernel)
theorem wq5_0 : (("reach" : Str) = "table") = False := eq_false (by decide +kernel)
theorem wq5_1 : (("reach" : Str) = "within") = False := eq_false (by decide +kernel)
theorem wq5_2 : (("reach" : Str) = "columns") = False := eq_false (by decide +kernel)
theorem wq5_3 : (("reach" : Str) = "once") = False := eq_false (by decide +kernel)
theorem wq5_4 : (("reach" : Str) = "sums") = False := eq_false (by decide +kernel)
theorem wq5_6 : (("reach" : Str) = "both") = False := eq_false (by decide +kernel)
theorem wq5_7 : (("reach" : Str) = "less") = False := eq_false (by decide +kernel)
theorem wq5_8 : (("reach" : Str) = "meet") = False := eq_false (by decide +kernel)
theorem wq5_9 : (("reach" : Str) = "Table") = False := eq_false (by decide +kernel)
theorem wq5_10 : (("reach" : Str) = "") = False := eq_false (by decide +kernel)
theorem wq5_11 : (("reach" : Str) = "join") = False := eq_false (by decide +kernel)
theorem wq5_12 : (("reach" : Str) = "meets") = False := eq_false (by decide +kernel)
theorem wq6_0 : (("both" : Str) = "table") = False := eq_false (by decide +kernel)
theorem wq6_1 : (("both" : Str) = "within") = False := eq_false (by decide +kernel)
theorem wq6_2 : (("both" : Str) = "columns") = False := eq_false (by decide +kernel)
theorem wq6_3 : (("both" : Str) = "once") = False := eq_false (by decide +kernel)
theorem wq6_4 : (("both" : Str) = "sums") = False := eq_false (by decide +kernel)
theorem wq6_5 : (("both" : Str) = "reach") = False := eq_false (by decide +kernel)
theorem wq6_7 : (("both" : Str) = "less") = False := eq_false (by decide +kernel)
theorem wq6_8 : (("both" : Str) = "meet") = False := eq_false (by decide +kernel)
theorem wq6_9 : (("both" : Str) = "Table") = False := eq_false (by decide +kernel)
theorem wq6_10 : (("both" : Str) = "") = False := eq_false (by decide +kernel)
theorem wq6_11 : (("both" : Str) = "join") = False := eq_false (by decide +kernel)
theorem wq6_12 : (("both" : Str) = "meets") = False := eq_false (by decide +kernel)
theorem wq7_0 : (("less" : Str) = "table") = False := eq_false (by decide +kernel)
theorem wq7_1 : (("less" : Str) = "within") = False := eq_false (by decide +kernel)
theorem wq7_2 : (("less" : Str) = "columns") = False := eq_false (by decide +kernel)
theorem wq7_3 : (("less" : Str) = "once") = False := eq_false (by decide +kernel)
theorem wq7_4 : (("less" : Str) = "sums") = False := eq_false (by decide +kernel)
theorem wq7_5 : (("less" : Str) = "reach") = False := eq_false (by decide +kernel)
theorem wq7_6 : (("less" : Str) = "both") = False := eq_false (by decide +kernel)
theorem wq7_8 : (("less" : Str) = "meet") = False := eq_false (by decide +kernel)
theorem wq7_9 : (("less" : Str) = "Table") = False := eq_false (by decide +kernel)
theorem wq7_10 : (("less" : Str) = "") = False := eq_false (by decide +kernel)
theorem wq7_11 : (("less" : Str) = "join") = False := eq_false (by decide +kernel)
theorem wq7_12 : (("less" : Str) = "meets") = False := eq_false (by decide +kernel)
theorem wq8_0 : (("meet" : Str) = "table") = False := eq_false (by decide +kernel)
theorem wq8_1 : (("meet" : Str) = "within") = False := eq_false (by decide +kernel)
theorem wq8_2 : (("meet" : Str) = "columns") = False := eq_false (by decide +kernel)
theorem wq8_3 : (("meet" : Str) = "once") = False := eq_false (by decide +kernel)
theorem wq8_4 : (("meet" : Str) = "sums") = False := eq_false (by decide +kernel)
theorem wq8_5 : (("meet" : Str) = "reach") = False := eq_false (by decide +kernel)
theorem wq8_6 : (("meet" : Str) = "both") = False := eq_false (by decide +kernel)
theorem wq8_7 : (("meet" : Str) = "less") = False := eq_false (by decide +kernel)
theorem wq8_9 : (("meet" : Str) = "Table") = False := eq_false (by decide +kernel)
theorem wq8_10 : (("meet" : Str) = "") = False := eq_false (by decide +kernel)
theorem wq8_11 : (("meet" : Str) = "join") = False := eq_false (by decide +kernel)
theorem wq8_12 : (("meet" : Str) = "meets") = False := eq_false (by decide +kernel)
theorem wq9_0 : (("Table" : Str) = "table") = False := eq_false (by decide +kernel)
theorem wq9_1 : (("Table" : Str) = "within") = False := eq_false (by decide +kernel)
theorem wq9_2 : (("Table" : Str) = "columns") = False := eq_false (by decide +kernel)
theorem wq9_3 : (("Table" : Str) = "once") = False := eq_false (by decide +kernel)
theorem wq9_4 : (("Table" : Str) = "sums") = False := eq_false (by decide +kernel)
theorem wq9_5 : (("Table" : Str) = "reach") = False := eq_false (by decide +kernel)
theorem wq9_6 : (("Table" : Str) = "both") = False := eq_false (by decide +kernel)
theorem wq9_7 : (("Table" : Str) = "less") = False := eq_false (by decide +kernel)
theorem wq9_8 : (("Table" : Str) = "meet") = False := eq_false (by decide +kernel)
theorem wq10_0 : (("" : Str) = "table") = False := eq_false (by decide +kernel)
theorem wq10_1 : (("" : Str) = "within") = False := eq_false (by decide +kernel)
theorem wq10_2 : (("" : Str) = "columns") = False := eq_false (by decide +kernel)
theorem wq10_3 : (("" : Str) = "once") = False := eq_false (by decide +kernel)
theorem wq10_4 : (("" : Str) = "sums") = False := eq_false (by decide +kernel)
theorem wq10_5 : (("" : Str) = "reach") = False := eq_false (by decide +kernel)
theorem wq10_6 : (("" : Str) = "both") = False := eq_false (by decide +kernel)
theorem wq10_7 : (("" : Str) = "less") = False := eq_false (by decide +kernel)
theorem wq10_8 : (("" : Str) = "meet") = False := eq_false (by decide +kernel)
theorem wq11_0 : (("join" : Str) = "table") = False := eq_false (by decide +kernel)
theorem wq11_1 : (("join" : Str) = "within") = False := eq_false (by decide +kernel)
theorem wq11_2 : (("join" : Str) = "columns") = False := eq_false (by decide +kernel)
theorem wq11_3 : (("join" : Str) = "once") = False := eq_false (by decide +kernel)
theorem wq11_4 : (("join" : Str) = "sums") = False := eq_false (by decide +kernel)
theorem wq11_5 : (("join" : Str) = "reach") = False := eq_false (by decide +kernel)
theorem wq11_6 : (("join" : Str) = "both") = False := eq_false (by decide +kernel)
theorem wq11_7 : (("join" : Str) = "less") = False := eq_false (by decide +kernel)
theorem wq11_8 : (("join" : Str) = "meet") = False := eq_false (by decide +kernel)
theorem wq12_0 : (("meets" : Str) = "table") = False := eq_false (by decide +kernel)
theorem wq12_1 : (("meets" : Str) = "within") = False := eq_false (by decide +kernel)
theorem wq12_2 : (("meets" : Str) = "columns") = False := eq_false (by decide +kernel)
theorem wq12_3 : (("meets" : Str) = "once") = False := eq_false (by decide +kernel)
theorem wq12_4 : (("meets" : Str) = "sums") = False := eq_false (by decide +kernel)
theorem wq12_5 : (("meets" : Str) = "reach") = False := eq_false (by decide +kernel)
theorem wq12_6 : (("meets" : Str) = "both") = False := eq_false (by decide +kernel)
theorem wq12_7 : (("meets" : Str) = "less") = False := eq_false (by decide +kernel)
theorem wq12_8 : (("meets" : Str) = "meet") = False := eq_false (by decide +kernel)
end K06
set_option Elab.async false
set_option linter.all false
set_option maxRecDepth 100000
set_option maxHeartbeats 4000000
namespace K06
open PySem PySem.Spec PyProof.Rows L2 Zy
theorem inR_t {w c : Int} (h : inR w c = true) : 0 ≤ c ∧ c < w := by
  unfold inR at h
  simpa using h
theorem inR_f {w c : Int} (h : inR w c = false) : ¬ (0 ≤ c ∧ c < w) := by
  intro z
  unfold inR at h
  simp [z.1, z.2] at h
theorem r_need {B : Addr} (ds : List D) (H : ZH) (Q : WP) (E : XZ) (h : sp_need B ds H Q E) : t_need_columns B E (fin Q) (startZ 3 ds) H := by
  obtain ⟨d, w, ns, rfl, hd, h1, h2⟩ := h
  unfold t_need_columns zFor
  refine seq_go (d := d) rfl hd fun ok hok => ?_
  refine ⟨fun rest s' H' => H' = H ∧ (∃ x, s' = [some d, some (.int w), x]) ∧ ∃ rs : List Int, rest = rs.map D.int ∧ (rs.all (inR w) = true → Q .non H) ∧ (rs.all (inR w) = false → EB E B H), ⟨rfl, ⟨none, rfl⟩, ns, rfl, h1, h2⟩, ?_, ?_⟩
  · rintro s' H' ⟨rfl, -, rs, e, a, b⟩
    have e' : rs = [] := by cases rs with
      | nil => rfl
      | cons _ _ => cases e
    subst e'
    exact ⟨hok, _, Sub.refl _, a rfl⟩
  · rintro x r s' H' ⟨rfl, ⟨y, rfl⟩, rs, e, a, b⟩
    cases rs with
    | nil => cases e
    | cons c cs =>
      cases e
      refine ⟨hok, ?_⟩
      rw [List.all_cons] at a b
      simp only [zSeq, zNext, zIf, zTest, zNot, zAnd, zOr, zIfE, zIsN, isN, zOp, zV, zC, nth, put, zgName, zAsg, zRet, zDrop, zCall, zCons, zNil, zTup, zLst, bEq, bNe, bIx, bCmp, bLt, bLe, bGt, bGe, zChain, zCB, rLenZ, size, bAdd, bSub, bMod, bDiv, scalD, eqD, few0, few1, few2, few3, few4, few5, few6, few7, few8, few9, few10, it0, it1, it2, it3, it4, wE, zRz, true_and, and_true, decide_true, decide_false, Bool.not_true, Bool.not_false, Bool.true_and, Bool.false_and, Bool.true_or, Bool.false_or, Zy.strs?, bIn, List.any_cons, List.any_nil]
      by_cases hc : 0 ≤ c
      · simp only [hc, decide_true]
        by_cases hw : c < w
        · have hi : inR w c = true := by unfold inR; simp [hc, hw]
          rw [hi, Bool.true_and] at a b
          simp only [hw, decide_true, Bool.not_true]
          exact ⟨⟨_, rfl⟩, cs, rfl, a, b⟩
        · have hi : inR w c = false := by unfold inR; simp [hc, hw]
          rw [hi, Bool.false_and] at b
          simp only [hw, decide_false, Bool.not_false]
          exact (b rfl).me
      · have hi : inR w c = false := by unfold inR; simp [hc]
        rw [hi, Bool.false_and] at b
        simp only [hc, decide_false, Bool.not_false]
        exact (b rfl).me
theorem r_there (ds : List D) (H : ZH) (Q : WP) (E : XZ) (h : sp_there ds H Q E) : t__law_there E (fin Q) (startZ 3 ds) H := by
  obtain ⟨d, w, ns, rfl, hd, h1⟩ := h
  unfold t__law_there zSeq zFor
  refine seq_go (d := d) rfl hd fun ok hok => ?_
  refine ⟨fun rest s' H' => H' = H ∧ (∃ x, s' = [some d, some (.int w), x]) ∧ ∃ rs : List Int, rest = rs.map D.int ∧ Q (.bl (rs.all (inR w))) H, ⟨rfl, ⟨none, rfl⟩, ns, rfl, h1⟩, ?_, ?_⟩
  · rintro s' H' ⟨rfl, -, rs, e, a⟩
    have e' : rs = [] := by cases rs with
      | nil => rfl
      | cons _ _ => cases e
    subst e'
    exact ⟨hok, _, Sub.refl _, a⟩
  · rintro x r s' H' ⟨rfl, ⟨y, rfl⟩, rs, e, a⟩
    cases rs with
    | nil => cases e
    | cons c cs =>
      cases e
      refine ⟨hok, ?_⟩
      rw [List.all_cons] at a
      simp only [zSeq, zNext, zIf, zTest, zNot, zAnd, zOr, zIfE, zIsN, isN, zOp, zV, zC, nth, put, zgName, zAsg, zRet, zDrop, zCall, zCons, zNil, zTup, zLst, bEq, bNe, bIx, bCmp, bLt, bLe, bGt, bGe, zChain, zCB, rLenZ, size, bAdd, bSub, bMod, bDiv, scalD, eqD, few0, few1, few2, few3, few4, few5, few6, few7, few8, few9, few10, it0, it1, it2, it3, it4, wE, zRz, true_and, and_true, decide_true, decide_false, Bool.not_true, Bool.not_false, Bool.true_and, Bool.false_and, Bool.true_or, Bool.false_or, Zy.strs?, bIn, List.any_cons, List.any_nil]
      by_cases hc : 0 ≤ c
      · simp only [hc, decide_true]
        by_cases hw : c < w
        · have hi : inR w c = true := by unfold inR; simp [hc, hw]
          rw [hi, Bool.true_and] at a
          simp only [hw, decide_true, Bool.not_true]
          exact ⟨⟨_, rfl⟩, cs, rfl, a⟩
        · have hi : inR w c = false := by unfold inR; simp [hc, hw]
          rw [hi, Bool.false_and] at a
          simp only [hw, decide_false, Bool.not_false]
          exact ⟨_, Sub.refl _, a⟩
      · have hi : inR w c = false := by unfold inR; simp [hc]
        rw [hi, Bool.false_and] at a
        simp only [hc, decide_false, Bool.not_false]
        exact ⟨_, Sub.refl _, a⟩
theorem map_snoc {ks : List Int} {c : Int} : ks.map D.int ++ [D.int c] = (ks ++ [c]).map D.int := by simp
theorem r_one {B : Addr} (ds : List D) (H : ZH) (Q : WP) (E : XZ) (h : sp_one B ds H Q E) : t_width_of_one B (sp_need B) E (fin Q) (startZ 2 ds) H := by
  obtain ⟨v, w, rfl, h0, hd, h1, h2⟩ := h
  have fq : ∀ {x : D}, Q x H → ∃ H0, Sub H0 H ∧ Q x H0 := fun q => ⟨_, Sub.refl _, q⟩
  cases v with
  | within v c lo hi =>
    unfold t_width_of_one startZ Vw.d
    simp only [zSeq, zNext, zIf, zTest, zNot, zAnd, zOr, zIfE, zIsN, isN, zOp, zV, zC, nth, put, zgName, zAsg, zRet, zDrop, zCall, zCons, zNil, zTup, zLst, bEq, bNe, bIx, bCmp, bLt, bLe, bGt, bGe, zChain, zCB, rLenZ, size, bAdd, bSub, bMod, bDiv, scalD, eqD, few0, few1, few2, few3, few4, few5, few6, few7, few8, few9, few10, it0, it1, it2, it3, it4, wE, zRz, true_and, and_true, decide_true, decide_false, Bool.not_true, Bool.not_false, Bool.true_and, Bool.false_and, Bool.true_or, Bool.false_or, Zy.strs?, bIn, List.any_cons, List.any_nil, wq0_1, wq0_2, wq0_3, wq0_4, wq0_5, wq0_6, wq0_7, wq0_8, wq0_9, wq0_10, wq0_11, wq0_12, wq1_0, wq1_2, wq1_3, wq1_4, wq1_5, wq1_6, wq1_7, wq1_8, wq1_9, wq1_10, wq1_11, wq1_12, wq2_0, wq2_1, wq2_3, wq2_4, wq2_5, wq2_6, wq2_7, wq2_8, wq2_9, wq2_10, wq2_11, wq2_12, wq3_0, wq3_1, wq3_2, wq3_4, wq3_5, wq3_6, wq3_7, wq3_8, wq3_9, wq3_10, wq3_11, wq3_12, wq4_0, wq4_1, wq4_2, wq4_3, wq4_5, wq4_6, wq4_7, wq4_8, wq4_9, wq4_10, wq4_11, wq4_12, wq5_0, wq5_1, wq5_2, wq5_3, wq5_4, wq5_6, wq5_7, wq5_8, wq5_9, wq5_10, wq5_11, wq5_12, wq6_0, wq6_1, wq6_2, wq6_3, wq6_4, wq6_5, wq6_7, wq6_8, wq6_9, wq6_10, wq6_11, wq6_12, wq7_0, wq7_1, wq7_2, wq7_3, wq7_4, wq7_5, wq7_6, wq7_8, wq7_9, wq7_10, wq7_11, wq7_12, wq8_0, wq8_1, wq8_2, wq8_3, wq8_4, wq8_5, wq8_6, wq8_7, wq8_9, wq8_10, wq8_11, wq8_12, wq9_0, wq9_1, wq9_2, wq9_3, wq9_4, wq9_5, wq9_6, wq9_7, wq9_8, wq10_0, wq10_1, wq10_2, wq10_3, wq10_4, wq10_5, wq10_6, wq10_7, wq10_8, wq11_0, wq11_1, wq11_2, wq11_3, wq11_4, wq11_5, wq11_6, wq11_7, wq11_8, wq12_0, wq12_1, wq12_2, wq12_3, wq12_4, wq12_5, wq12_6, wq12_7, wq12_8, List.map_cons, List.map_nil, List.cons_append, List.nil_append]
    rw [wid1_within] at h1 h2
    refine ⟨_, w, [c], rfl, rfl, fun e => ?_, fun e => h2 ?_⟩
    · exact fq (h1 _ (if_pos (by simpa using e)))
    · exact if_neg (by simpa using e)
  | columns v cs =>
    unfold t_width_of_one startZ Vw.d
    simp only [zSeq, zNext, zIf, zTest, zNot, zAnd, zOr, zIfE, zIsN, isN, zOp, zV, zC, nth, put, zgName, zAsg, zRet, zDrop, zCall, zCons, zNil, zTup, zLst, bEq, bNe, bIx, bCmp, bLt, bLe, bGt, bGe, zChain, zCB, rLenZ, size, bAdd, bSub, bMod, bDiv, scalD, eqD, few0, few1, few2, few3, few4, few5, few6, few7, few8, few9, few10, it0, it1, it2, it3, it4, wE, zRz, true_and, and_true, decide_true, decide_false, Bool.not_true, Bool.not_false, Bool.true_and, Bool.false_and, Bool.true_or, Bool.false_or, Zy.strs?, bIn, List.any_cons, List.any_nil, wq0_1, wq0_2, wq0_3, wq0_4, wq0_5, wq0_6, wq0_7, wq0_8, wq0_9, wq0_10, wq0_11, wq0_12, wq1_0, wq1_2, wq1_3, wq1_4, wq1_5, wq1_6, wq1_7, wq1_8, wq1_9, wq1_10, wq1_11, wq1_12, wq2_0, wq2_1, wq2_3, wq2_4, wq2_5, wq2_6, wq2_7, wq2_8, wq2_9, wq2_10, wq2_11, wq2_12, wq3_0, wq3_1, wq3_2, wq3_4, wq3_5, wq3_6, wq3_7, wq3_8, wq3_9, wq3_10, wq3_11, wq3_12, wq4_0, wq4_1, wq4_2, wq4_3, wq4_5, wq4_6, wq4_7, wq4_8, wq4_9, wq4_10, wq4_11, wq4_12, wq5_0, wq5_1, wq5_2, wq5_3, wq5_4, wq5_6, wq5_7, wq5_8, wq5_9, wq5_10, wq5_11, wq5_12, wq6_0, wq6_1, wq6_2, wq6_3, wq6_4, wq6_5, wq6_7, wq6_8, wq6_9, wq6_10, wq6_11, wq6_12, wq7_0, wq7_1, wq7_2, wq7_3, wq7_4, wq7_5, wq7_6, wq7_8, wq7_9, wq7_10, wq7_11, wq7_12, wq8_0, wq8_1, wq8_2, wq8_3, wq8_4, wq8_5, wq8_6, wq8_7, wq8_9, wq8_10, wq8_11, wq8_12, wq9_0, wq9_1, wq9_2, wq9_3, wq9_4, wq9_5, wq9_6, wq9_7, wq9_8, wq10_0, wq10_1, wq10_2, wq10_3, wq10_4, wq10_5, wq10_6, wq10_7, wq10_8, wq11_0, wq11_1, wq11_2, wq11_3, wq11_4, wq11_5, wq11_6, wq11_7, wq11_8, wq12_0, wq12_1, wq12_2, wq12_3, wq12_4, wq12_5, wq12_6, wq12_7, wq12_8, List.map_cons, List.map_nil, List.cons_append, List.nil_append]
    rw [wid1_columns] at h1 h2
    refine ⟨_, w, cs, rfl, rfl, fun e => ?_, fun e => h2 (if_neg (by simp [e]))⟩
    cases cs with
    | nil => exact (h2 (if_neg (by simp))).me
    | cons x r =>
      have : ¬ ((((x :: r).map D.int).length : Int) = 0) := by simp only [List.length_map, List.length_cons]; omega
      simp only [this, decide_false]
      have := h1 _ (if_pos ⟨e, by simp⟩)
      simp only [List.length_map]
      exact fq this
  | once v =>
    unfold t_width_of_one startZ Vw.d
    simp only [zSeq, zNext, zIf, zTest, zNot, zAnd, zOr, zIfE, zIsN, isN, zOp, zV, zC, nth, put, zgName, zAsg, zRet, zDrop, zCall, zCons, zNil, zTup, zLst, bEq, bNe, bIx, bCmp, bLt, bLe, bGt, bGe, zChain, zCB, rLenZ, size, bAdd, bSub, bMod, bDiv, scalD, eqD, few0, few1, few2, few3, few4, few5, few6, few7, few8, few9, few10, it0, it1, it2, it3, it4, wE, zRz, true_and, and_true, decide_true, decide_false, Bool.not_true, Bool.not_false, Bool.true_and, Bool.false_and, Bool.true_or, Bool.false_or, Zy.strs?, bIn, List.any_cons, List.any_nil, wq0_1, wq0_2, wq0_3, wq0_4, wq0_5, wq0_6, wq0_7, wq0_8, wq0_9, wq0_10, wq0_11, wq0_12, wq1_0, wq1_2, wq1_3, wq1_4, wq1_5, wq1_6, wq1_7, wq1_8, wq1_9, wq1_10, wq1_11, wq1_12, wq2_0, wq2_1, wq2_3, wq2_4, wq2_5, wq2_6, wq2_7, wq2_8, wq2_9, wq2_10, wq2_11, wq2_12, wq3_0, wq3_1, wq3_2, wq3_4, wq3_5, wq3_6, wq3_7, wq3_8, wq3_9, wq3_10, wq3_11, wq3_12, wq4_0, wq4_1, wq4_2, wq4_3, wq4_5, wq4_6, wq4_7, wq4_8, wq4_9, wq4_10, wq4_11, wq4_12, wq5_0, wq5_1, wq5_2, wq5_3, wq5_4, wq5_6, wq5_7, wq5_8, wq5_9, wq5_10, wq5_11, wq5_12, wq6_0, wq6_1, wq6_2, wq6_3, wq6_4, wq6_5, wq6_7, wq6_8, wq6_9, wq6_10, wq6_11, wq6_12, wq7_0, wq7_1, wq7_2, wq7_3, wq7_4, wq7_5, wq7_6, wq7_8, wq7_9, wq7_10, wq7_11, wq7_12, wq8_0, wq8_1, wq8_2, wq8_3, wq8_4, wq8_5, wq8_6, wq8_7, wq8_9, wq8_10, wq8_11, wq8_12, wq9_0, wq9_1, wq9_2, wq9_3, wq9_4, wq9_5, wq9_6, wq9_7, wq9_8, wq10_0, wq10_1, wq10_2, wq10_3, wq10_4, wq10_5, wq10_6, wq10_7, wq10_8, wq11_0, wq11_1, wq11_2, wq11_3, wq11_4, wq11_5, wq11_6, wq11_7, wq11_8, wq12_0, wq12_1, wq12_2, wq12_3, wq12_4, wq12_5, wq12_6, wq12_7, wq12_8, List.map_cons, List.map_nil, List.cons_append, List.nil_append]
    exact fq (h1 _ rfl)
  | sums v ks c =>
    unfold t_width_of_one startZ Vw.d
    simp only [zSeq, zNext, zIf, zTest, zNot, zAnd, zOr, zIfE, zIsN, isN, zOp, zV, zC, nth, put, zgName, zAsg, zRet, zDrop, zCall, zCons, zNil, zTup, zLst, bEq, bNe, bIx, bCmp, bLt, bLe, bGt, bGe, zChain, zCB, rLenZ, size, bAdd, bSub, bMod, bDiv, scalD, eqD, few0, few1, few2, few3, few4, few5, few6, few7, few8, few9, few10, it0, it1, it2, it3, it4, wE, zRz, true_and, and_true, decide_true, decide_false, Bool.not_true, Bool.not_false, Bool.true_and, Bool.false_and, Bool.true_or, Bool.false_or, Zy.strs?, bIn, List.any_cons, List.any_nil, wq0_1, wq0_2, wq0_3, wq0_4, wq0_5, wq0_6, wq0_7, wq0_8, wq0_9, wq0_10, wq0_11, wq0_12, wq1_0, wq1_2, wq1_3, wq1_4, wq1_5, wq1_6, wq1_7, wq1_8, wq1_9, wq1_10, wq1_11, wq1_12, wq2_0, wq2_1, wq2_3, wq2_4, wq2_5, wq2_6, wq2_7, wq2_8, wq2_9, wq2_10, wq2_11, wq2_12, wq3_0, wq3_1, wq3_2, wq3_4, wq3_5, wq3_6, wq3_7, wq3_8, wq3_9, wq3_10, wq3_11, wq3_12, wq4_0, wq4_1, wq4_2, wq4_3, wq4_5, wq4_6, wq4_7, wq4_8, wq4_9, wq4_10, wq4_11, wq4_12, wq5_0, wq5_1, wq5_2, wq5_3, wq5_4, wq5_6, wq5_7, wq5_8, wq5_9, wq5_10, wq5_11, wq5_12, wq6_0, wq6_1, wq6_2, wq6_3, wq6_4, wq6_5, wq6_7, wq6_8, wq6_9, wq6_10, wq6_11, wq6_12, wq7_0, wq7_1, wq7_2, wq7_3, wq7_4, wq7_5, wq7_6, wq7_8, wq7_9, wq7_10, wq7_11, wq7_12, wq8_0, wq8_1, wq8_2, wq8_3, wq8_4, wq8_5, wq8_6, wq8_7, wq8_9, wq8_10, wq8_11, wq8_12, wq9_0, wq9_1, wq9_2, wq9_3, wq9_4, wq9_5, wq9_6, wq9_7, wq9_8, wq10_0, wq10_1, wq10_2, wq10_3, wq10_4, wq10_5, wq10_6, wq10_7, wq10_8, wq11_0, wq11_1, wq11_2, wq11_3, wq11_4, wq11_5, wq11_6, wq11_7, wq11_8, wq12_0, wq12_1, wq12_2, wq12_3, wq12_4, wq12_5, wq12_6, wq12_7, wq12_8, List.map_cons, List.map_nil, List.cons_append, List.nil_append]
    rw [wid1_sums] at h1 h2
    unfold Vw.depth at hd
    refine ⟨few_size (by simp only [List.length_map, List.length_cons, List.length_nil]; omega), _, w, ks ++ [c], rfl, by rw [← map_snoc]; rfl, fun e => ?_, fun e => h2 (if_neg (by simp [e]))⟩
    simp only [List.length_map]
    exact fq (h1 _ (if_pos e))
  | reach v =>
    unfold t_width_of_one startZ Vw.d
    simp only [zSeq, zNext, zIf, zTest, zNot, zAnd, zOr, zIfE, zIsN, isN, zOp, zV, zC, nth, put, zgName, zAsg, zRet, zDrop, zCall, zCons, zNil, zTup, zLst, bEq, bNe, bIx, bCmp, bLt, bLe, bGt, bGe, zChain, zCB, rLenZ, size, bAdd, bSub, bMod, bDiv, scalD, eqD, few0, few1, few2, few3, few4, few5, few6, few7, few8, few9, few10, it0, it1, it2, it3, it4, wE, zRz, true_and, and_true, decide_true, decide_false, Bool.not_true, Bool.not_false, Bool.true_and, Bool.false_and, Bool.true_or, Bool.false_or, Zy.strs?, bIn, List.any_cons, List.any_nil, wq0_1, wq0_2, wq0_3, wq0_4, wq0_5, wq0_6, wq0_7, wq0_8, wq0_9, wq0_10, wq0_11, wq0_12, wq1_0, wq1_2, wq1_3, wq1_4, wq1_5, wq1_6, wq1_7, wq1_8, wq1_9, wq1_10, wq1_11, wq1_12, wq2_0, wq2_1, wq2_3, wq2_4, wq2_5, wq2_6, wq2_7, wq2_8, wq2_9, wq2_10, wq2_11, wq2_12, wq3_0, wq3_1, wq3_2, wq3_4, wq3_5, wq3_6, wq3_7, wq3_8, wq3_9, wq3_10, wq3_11, wq3_12, wq4_0, wq4_1, wq4_2, wq4_3, wq4_5, wq4_6, wq4_7, wq4_8, wq4_9, wq4_10, wq4_11, wq4_12, wq5_0, wq5_1, wq5_2, wq5_3, wq5_4, wq5_6, wq5_7, wq5_8, wq5_9, wq5_10, wq5_11, wq5_12, wq6_0, wq6_1, wq6_2, wq6_3, wq6_4, wq6_5, wq6_7, wq6_8, wq6_9, wq6_10, wq6_11, wq6_12, wq7_0, wq7_1, wq7_2, wq7_3, wq7_4, wq7_5, wq7_6, wq7_8, wq7_9, wq7_10, wq7_11, wq7_12, wq8_0, wq8_1, wq8_2, wq8_3, wq8_4, wq8_5, wq8_6, wq8_7, wq8_9, wq8_10, wq8_11, wq8_12, wq9_0, wq9_1, wq9_2, wq9_3, wq9_4, wq9_5, wq9_6, wq9_7, wq9_8, wq10_0, wq10_1, wq10_2, wq10_3, wq10_4, wq10_5, wq10_6, wq10_7, wq10_8, wq11_0, wq11_1, wq11_2, wq11_3, wq11_4, wq11_5, wq11_6, wq11_7, wq11_8, wq12_0, wq12_1, wq12_2, wq12_3, wq12_4, wq12_5, wq12_6, wq12_7, wq12_8, List.map_cons, List.map_nil, List.cons_append, List.nil_append]
    rw [wid1_reach] at h1 h2
    by_cases e : w = 2
    · simp only [e, decide_true, Bool.not_true]
      exact fq (h1 _ (if_pos e))
    · simp only [e, decide_false, Bool.not_false]
      exact (h2 (if_neg e)).me
  | _ => cases h0
theorem r_wide_one (ds : List D) (H : ZH) (Q : WP) (E : XZ) (h : sp_wide_one ds H Q E) : t__law_wide_one sp_there E (fin Q) (startZ 2 ds) H := by
  obtain ⟨v, w, rfl, h0, hd, h1⟩ := h
  have fq : ∀ {x : D} {H' : ZH}, Sub H H' → Q x H → ∃ H0, Sub H0 H' ∧ Q x H0 := fun s q => ⟨_, s, q⟩
  cases v with
  | within v c lo hi =>
    unfold t__law_wide_one startZ Vw.d
    simp only [zSeq, zNext, zIf, zTest, zNot, zAnd, zOr, zIfE, zIsN, isN, zOp, zV, zC, nth, put, zgName, zAsg, zRet, zDrop, zCall, zCons, zNil, zTup, zLst, bEq, bNe, bIx, bCmp, bLt, bLe, bGt, bGe, zChain, zCB, rLenZ, size, bAdd, bSub, bMod, bDiv, scalD, eqD, few0, few1, few2, few3, few4, few5, few6, few7, few8, few9, few10, it0, it1, it2, it3, it4, wE, zRz, true_and, and_true, decide_true, decide_false, Bool.not_true, Bool.not_false, Bool.true_and, Bool.false_and, Bool.true_or, Bool.false_or, Zy.strs?, bIn, List.any_cons, List.any_nil, wq0_1, wq0_2, wq0_3, wq0_4, wq0_5, wq0_6, wq0_7, wq0_8, wq0_9, wq0_10, wq0_11, wq0_12, wq1_0, wq1_2, wq1_3, wq1_4, wq1_5, wq1_6, wq1_7, wq1_8, wq1_9, wq1_10, wq1_11, wq1_12, wq2_0, wq2_1, wq2_3, wq2_4, wq2_5, wq2_6, wq2_7, wq2_8, wq2_9, wq2_10, wq2_11, wq2_12, wq3_0, wq3_1, wq3_2, wq3_4, wq3_5, wq3_6, wq3_7, wq3_8, wq3_9, wq3_10, wq3_11, wq3_12, wq4_0, wq4_1, wq4_2, wq4_3, wq4_5, wq4_6, wq4_7, wq4_8, wq4_9, wq4_10, wq4_11, wq4_12, wq5_0, wq5_1, wq5_2, wq5_3, wq5_4, wq5_6, wq5_7, wq5_8, wq5_9, wq5_10, wq5_11, wq5_12, wq6_0, wq6_1, wq6_2, wq6_3, wq6_4, wq6_5, wq6_7, wq6_8, wq6_9, wq6_10, wq6_11, wq6_12, wq7_0, wq7_1, wq7_2, wq7_3, wq7_4, wq7_5, wq7_6, wq7_8, wq7_9, wq7_10, wq7_11, wq7_12, wq8_0, wq8_1, wq8_2, wq8_3, wq8_4, wq8_5, wq8_6, wq8_7, wq8_9, wq8_10, wq8_11, wq8_12, wq9_0, wq9_1, wq9_2, wq9_3, wq9_4, wq9_5, wq9_6, wq9_7, wq9_8, wq10_0, wq10_1, wq10_2, wq10_3, wq10_4, wq10_5, wq10_6, wq10_7, wq10_8, wq11_0, wq11_1, wq11_2, wq11_3, wq11_4, wq11_5, wq11_6, wq11_7, wq11_8, wq12_0, wq12_1, wq12_2, wq12_3, wq12_4, wq12_5, wq12_6, wq12_7, wq12_8, List.map_cons, List.map_nil, List.cons_append, List.nil_append]
    rw [wid1_within] at h1
    intro p hp
    refine ⟨_, w, [c], rfl, by unfold seqZ; simp only [set_same, List.map_cons, List.map_nil], ?_⟩
    cases e : inR w c with
    | true =>
      rw [if_pos e] at h1
      simp only [List.all_cons, List.all_nil, e, Bool.and_true]
      exact fq (Sub.new hp) h1
    | false =>
      rw [if_neg (by simp [e])] at h1
      simp only [List.all_cons, List.all_nil, e, Bool.and_true]
      exact fq (Sub.new hp) h1
  | columns v cs =>
    unfold t__law_wide_one startZ Vw.d
    simp only [zSeq, zNext, zIf, zTest, zNot, zAnd, zOr, zIfE, zIsN, isN, zOp, zV, zC, nth, put, zgName, zAsg, zRet, zDrop, zCall, zCons, zNil, zTup, zLst, bEq, bNe, bIx, bCmp, bLt, bLe, bGt, bGe, zChain, zCB, rLenZ, size, bAdd, bSub, bMod, bDiv, scalD, eqD, few0, few1, few2, few3, few4, few5, few6, few7, few8, few9, few10, it0, it1, it2, it3, it4, wE, zRz, true_and, and_true, decide_true, decide_false, Bool.not_true, Bool.not_false, Bool.true_and, Bool.false_and, Bool.true_or, Bool.false_or, Zy.strs?, bIn, List.any_cons, List.any_nil, wq0_1, wq0_2, wq0_3, wq0_4, wq0_5, wq0_6, wq0_7, wq0_8, wq0_9, wq0_10, wq0_11, wq0_12, wq1_0, wq1_2, wq1_3, wq1_4, wq1_5, wq1_6, wq1_7, wq1_8, wq1_9, wq1_10, wq1_11, wq1_12, wq2_0, wq2_1, wq2_3, wq2_4, wq2_5, wq2_6, wq2_7, wq2_8, wq2_9, wq2_10, wq2_11, wq2_12, wq3_0, wq3_1, wq3_2, wq3_4, wq3_5, wq3_6, wq3_7, wq3_8, wq3_9, wq3_10, wq3_11, wq3_12, wq4_0, wq4_1, wq4_2, wq4_3, wq4_5, wq4_6, wq4_7, wq4_8, wq4_9, wq4_10, wq4_11, wq4_12, wq5_0, wq5_1, wq5_2, wq5_3, wq5_4, wq5_6, wq5_7, wq5_8, wq5_9, wq5_10, wq5_11, wq5_12, wq6_0, wq6_1, wq6_2, wq6_3, wq6_4, wq6_5, wq6_7, wq6_8, wq6_9, wq6_10, wq6_11, wq6_12, wq7_0, wq7_1, wq7_2, wq7_3, wq7_4, wq7_5, wq7_6, wq7_8, wq7_9, wq7_10, wq7_11, wq7_12, wq8_0, wq8_1, wq8_2, wq8_3, wq8_4, wq8_5, wq8_6, wq8_7, wq8_9, wq8_10, wq8_11, wq8_12, wq9_0, wq9_1, wq9_2, wq9_3, wq9_4, wq9_5, wq9_6, wq9_7, wq9_8, wq10_0, wq10_1, wq10_2, wq10_3, wq10_4, wq10_5, wq10_6, wq10_7, wq10_8, wq11_0, wq11_1, wq11_2, wq11_3, wq11_4, wq11_5, wq11_6, wq11_7, wq11_8, wq12_0, wq12_1, wq12_2, wq12_3, wq12_4, wq12_5, wq12_6, wq12_7, wq12_8, List.map_cons, List.map_nil, List.cons_append, List.nil_append]
    rw [wid1_columns] at h1
    cases cs with
    | nil =>
      rw [if_neg (by simp)] at h1
      exact fq (Sub.refl _) h1
    | cons x r =>
      have : (0 : Int) < (((x :: r).map D.int).length : Int) := by simp only [List.length_map, List.length_cons]; omega
      simp only [this, decide_true]
      refine ⟨_, w, x :: r, rfl, rfl, ?_⟩
      cases e : (x :: r).all (inR w) with
      | true =>
        rw [if_pos ⟨e, by simp⟩] at h1
        simp only [List.length_map]
        exact fq (Sub.refl _) h1
      | false =>
        rw [if_neg (by simp [e])] at h1
        exact fq (Sub.refl _) h1
  | once v =>
    unfold t__law_wide_one startZ Vw.d
    simp only [zSeq, zNext, zIf, zTest, zNot, zAnd, zOr, zIfE, zIsN, isN, zOp, zV, zC, nth, put, zgName, zAsg, zRet, zDrop, zCall, zCons, zNil, zTup, zLst, bEq, bNe, bIx, bCmp, bLt, bLe, bGt, bGe, zChain, zCB, rLenZ, size, bAdd, bSub, bMod, bDiv, scalD, eqD, few0, few1, few2, few3, few4, few5, few6, few7, few8, few9, few10, it0, it1, it2, it3, it4, wE, zRz, true_and, and_true, decide_true, decide_false, Bool.not_true, Bool.not_false, Bool.true_and, Bool.false_and, Bool.true_or, Bool.false_or, Zy.strs?, bIn, List.any_cons, List.any_nil, wq0_1, wq0_2, wq0_3, wq0_4, wq0_5, wq0_6, wq0_7, wq0_8, wq0_9, wq0_10, wq0_11, wq0_12, wq1_0, wq1_2, wq1_3, wq1_4, wq1_5, wq1_6, wq1_7, wq1_8, wq1_9, wq1_10, wq1_11, wq1_12, wq2_0, wq2_1, wq2_3, wq2_4, wq2_5, wq2_6, wq2_7, wq2_8, wq2_9, wq2_10, wq2_11, wq2_12, wq3_0, wq3_1, wq3_2, wq3_4, wq3_5, wq3_6, wq3_7, wq3_8, wq3_9, wq3_10, wq3_11, wq3_12, wq4_0, wq4_1, wq4_2, wq4_3, wq4_5, wq4_6, wq4_7, wq4_8, wq4_9, wq4_10, wq4_11, wq4_12, wq5_0, wq5_1, wq5_2, wq5_3, wq5_4, wq5_6, wq5_7, wq5_8, wq5_9, wq5_10, wq5_11, wq5_12, wq6_0, wq6_1, wq6_2, wq6_3, wq6_4, wq6_5, wq6_7, wq6_8, wq6_9, wq6_10, wq6_11, wq6_12, wq7_0, wq7_1, wq7_2, wq7_3, wq7_4, wq7_5, wq7_6, wq7_8, wq7_9, wq7_10, wq7_11, wq7_12, wq8_0, wq8_1, wq8_2, wq8_3, wq8_4, wq8_5, wq8_6, wq8_7, wq8_9, wq8_10, wq8_11, wq8_12, wq9_0, wq9_1, wq9_2, wq9_3, wq9_4, wq9_5, wq9_6, wq9_7, wq9_8, wq10_0, wq10_1, wq10_2, wq10_3, wq10_4, wq10_5, wq10_6, wq10_7, wq10_8, wq11_0, wq11_1, wq11_2, wq11_3, wq11_4, wq11_5, wq11_6, wq11_7, wq11_8, wq12_0, wq12_1, wq12_2, wq12_3, wq12_4, wq12_5, wq12_6, wq12_7, wq12_8, List.map_cons, List.map_nil, List.cons_append, List.nil_append]
    exact ⟨_, Sub.refl _, h1⟩
  | sums v ks c =>
    unfold t__law_wide_one startZ Vw.d
    simp only [zSeq, zNext, zIf, zTest, zNot, zAnd, zOr, zIfE, zIsN, isN, zOp, zV, zC, nth, put, zgName, zAsg, zRet, zDrop, zCall, zCons, zNil, zTup, zLst, bEq, bNe, bIx, bCmp, bLt, bLe, bGt, bGe, zChain, zCB, rLenZ, size, bAdd, bSub, bMod, bDiv, scalD, eqD, few0, few1, few2, few3, few4, few5, few6, few7, few8, few9, few10, it0, it1, it2, it3, it4, wE, zRz, true_and, and_true, decide_true, decide_false, Bool.not_true, Bool.not_false, Bool.true_and, Bool.false_and, Bool.true_or, Bool.false_or, Zy.strs?, bIn, List.any_cons, List.any_nil, wq0_1, wq0_2, wq0_3, wq0_4, wq0_5, wq0_6, wq0_7, wq0_8, wq0_9, wq0_10, wq0_11, wq0_12, wq1_0, wq1_2, wq1_3, wq1_4, wq1_5, wq1_6, wq1_7, wq1_8, wq1_9, wq1_10, wq1_11, wq1_12, wq2_0, wq2_1, wq2_3, wq2_4, wq2_5, wq2_6, wq2_7, wq2_8, wq2_9, wq2_10, wq2_11, wq2_12, wq3_0, wq3_1, wq3_2, wq3_4, wq3_5, wq3_6, wq3_7, wq3_8, wq3_9, wq3_10, wq3_11, wq3_12, wq4_0, wq4_1, wq4_2, wq4_3, wq4_5, wq4_6, wq4_7, wq4_8, wq4_9, wq4_10, wq4_11, wq4_12, wq5_0, wq5_1, wq5_2, wq5_3, wq5_4, wq5_6, wq5_7, wq5_8, wq5_9, wq5_10, wq5_11, wq5_12, wq6_0, wq6_1, wq6_2, wq6_3, wq6_4, wq6_5, wq6_7, wq6_8, wq6_9, wq6_10, wq6_11, wq6_12, wq7_0, wq7_1, wq7_2, wq7_3, wq7_4, wq7_5, wq7_6, wq7_8, wq7_9, wq7_10, wq7_11, wq7_12, wq8_0, wq8_1, wq8_2, wq8_3, wq8_4, wq8_5, wq8_6, wq8_7, wq8_9, wq8_10, wq8_11, wq8_12, wq9_0, wq9_1, wq9_2, wq9_3, wq9_4, wq9_5, wq9_6, wq9_7, wq9_8, wq10_0, wq10_1, wq10_2, wq10_3, wq10_4, wq10_5, wq10_6, wq10_7, wq10_8, wq11_0, wq11_1, wq11_2, wq11_3, wq11_4, wq11_5, wq11_6, wq11_7, wq11_8, wq12_0, wq12_1, wq12_2, wq12_3, wq12_4, wq12_5, wq12_6, wq12_7, wq12_8, List.map_cons, List.map_nil, List.cons_append, List.nil_append]
    rw [wid1_sums] at h1
    unfold Vw.depth at hd
    unfold rListZ seqZ
    dsimp only
    intro p hp p2 hp2
    have ne : p ≠ p2 := ne_new set_same hp2
    simp only [set_same, set_ne ne]
    refine ⟨few_size (by simp only [List.length_map, List.length_cons, List.length_nil]; omega), fun p3 hp3 => ⟨_, w, ks ++ [c], rfl, by unfold seqZ; simp only [set_same]; rw [map_snoc], ?_⟩⟩
    have sb : Sub H (set (set (set H p (.lst (ks.map D.int))) p2 (.lst [.int c])) p3 (.lst (ks.map D.int ++ [.int c]))) := ((Sub.new hp).trans (Sub.new hp2)).trans (Sub.new hp3)
    simp only [List.length_map]
    cases e : (ks ++ [c]).all (inR w) with
    | true =>
      rw [if_pos e] at h1
      exact fq sb h1
    | false =>
      rw [if_neg (by simp [e])] at h1
      exact fq sb h1
  | reach v =>
    unfold t__law_wide_one startZ Vw.d
    simp only [zSeq, zNext, zIf, zTest, zNot, zAnd, zOr, zIfE, zIsN, isN, zOp, zV, zC, nth, put, zgName, zAsg, zRet, zDrop, zCall, zCons, zNil, zTup, zLst, bEq, bNe, bIx, bCmp, bLt, bLe, bGt, bGe, zChain, zCB, rLenZ, size, bAdd, bSub, bMod, bDiv, scalD, eqD, few0, few1, few2, few3, few4, few5, few6, few7, few8, few9, few10, it0, it1, it2, it3, it4, wE, zRz, true_and, and_true, decide_true, decide_false, Bool.not_true, Bool.not_false, Bool.true_and, Bool.false_and, Bool.true_or, Bool.false_or, Zy.strs?, bIn, List.any_cons, List.any_nil, wq0_1, wq0_2, wq0_3, wq0_4, wq0_5, wq0_6, wq0_7, wq0_8, wq0_9, wq0_10, wq0_11, wq0_12, wq1_0, wq1_2, wq1_3, wq1_4, wq1_5, wq1_6, wq1_7, wq1_8, wq1_9, wq1_10, wq1_11, wq1_12, wq2_0, wq2_1, wq2_3, wq2_4, wq2_5, wq2_6, wq2_7, wq2_8, wq2_9, wq2_10, wq2_11, wq2_12, wq3_0, wq3_1, wq3_2, wq3_4, wq3_5, wq3_6, wq3_7, wq3_8, wq3_9, wq3_10, wq3_11, wq3_12, wq4_0, wq4_1, wq4_2, wq4_3, wq4_5, wq4_6, wq4_7, wq4_8, wq4_9, wq4_10, wq4_11, wq4_12, wq5_0, wq5_1, wq5_2, wq5_3, wq5_4, wq5_6, wq5_7, wq5_8, wq5_9, wq5_10, wq5_11, wq5_12, wq6_0, wq6_1, wq6_2, wq6_3, wq6_4, wq6_5, wq6_7, wq6_8, wq6_9, wq6_10, wq6_11, wq6_12, wq7_0, wq7_1, wq7_2, wq7_3, wq7_4, wq7_5, wq7_6, wq7_8, wq7_9, wq7_10, wq7_11, wq7_12, wq8_0, wq8_1, wq8_2, wq8_3, wq8_4, wq8_5, wq8_6, wq8_7, wq8_9, wq8_10, wq8_11, wq8_12, wq9_0, wq9_1, wq9_2, wq9_3, wq9_4, wq9_5, wq9_6, wq9_7, wq9_8, wq10_0, wq10_1, wq10_2, wq10_3, wq10_4, wq10_5, wq10_6, wq10_7, wq10_8, wq11_0, wq11_1, wq11_2, wq11_3, wq11_4, wq11_5, wq11_6, wq11_7, wq11_8, wq12_0, wq12_1, wq12_2, wq12_3, wq12_4, wq12_5, wq12_6, wq12_7, wq12_8, List.map_cons, List.map_nil, List.cons_append, List.nil_append]
    rw [wid1_reach] at h1
    by_cases e : w = 2
    · rw [if_pos e] at h1
      simp only [e, decide_true]
      exact ⟨_, Sub.refl _, h1⟩
    · rw [if_neg e] at h1
      simp only [e, decide_false]
      exact ⟨_, Sub.refl _, h1⟩
  | _ => cases h0
end K06
set_option Elab.async false
set_option linter.all false
set_option maxRecDepth 100000
set_option maxHeartbeats 4000000
namespace K06
open PySem PySem.Spec PyProof.Rows L2 Zy
def pk1 : D → D
  | .tup (a :: _) => a
  | _ => .non
def pk2 : D → D
  | .tup (_ :: b :: _) => b
  | _ => .non
theorem seq_goT {te : TEz} {s : Sg} {H : ZH} {ds : List D} {R : List D → (ZH → Prop) → ZH → Prop} (hi : ∀ Q : WP, Q (.tup ds) H → te s H Q) (hR : R ds (fun _ => True) H) : ziSeq te s H R := hi _ hR
theorem comp_pairs {s : Sg} {H : ZH} {Q : WP} {v u : Vw} {ps : List (Int × Int)} {i : Nat} {k : Int} {f : Int × Int → Int} {g : D → D} (h0 : nth s 0 = some (Vw.meet v u ps).d) (hn : ∀ x, nth (put (put s i none) i (some x)) i = some x) (hl : ps.length ≤ 1000)
    (hf : ∀ (p : Int × Int) H, item H (row [p.1, p.2]) (.int k) = some (.int (f p))) (hg : ∀ p : Int × Int, g (row [p.1, p.2]) = .int (f p))
    (hq : ∀ p, H p = none → Q (.ref p) (set H p (.lst ((ps.map f).map D.int)))) : zComp (ziSeq (zOp bIx (zV 0) (zC (.int 3)))) i (zOp bIx (zV i) (zC (.int k))) s H Q := by
  unfold zComp
  refine seq_goT (ds := ps.map fun p => row [p.1, p.2]) (fun Q hq => ?_) fun p hp => ?_
  · unfold zOp zV zC bIx
    rw [h0]
    unfold Vw.d
    simp only [it3]
    exact hq
  · refine comp_pure (w := ziSeq (zV 0)) (H := H) g hp (by rw [List.length_map]; exact few_size hl) (fun _ => trivial) (fun x hx xs Q hq => ?_) ?_
    · obtain ⟨q, hq1, rfl⟩ := List.mem_map.mp hx
      unfold zOp zV zC bIx
      rw [hn]
      simp only [hf]
      rw [hg] at hq
      exact hq
    · have e : (ps.map fun p => row [p.1, p.2]).map g = (ps.map f).map D.int := by
        rw [List.map_map, List.map_map]
        exact List.map_congr_left fun p _ => hg p
      rw [e]
      exact hq p hp
theorem r_two {B : Addr} (ds : List D) (H : ZH) (Q : WP) (E : XZ) (h : sp_two B ds H Q E) : t_width_of_two B (sp_need B) E (fin Q) (startZ 4 ds) H := by
  obtain ⟨v, w, o, rfl, h0, hd, h1, h2⟩ := h
  have fq : ∀ {x : D} {H' : ZH}, Sub H H' → Q x H → ∃ H0, Sub H0 H' ∧ Q x H0 := fun s q => ⟨_, s, q⟩
  cases v with
  | meet v u ps =>
    unfold Vw.depth at hd
    rw [wid2_meet] at h1 h2
    have hl : ps.length ≤ 1000 := by omega
    unfold t_width_of_two startZ Vw.d
    simp only [zSeq, zNext, zIf, zTest, zNot, zAnd, zOr, zIfE, zIsN, isN, zOp, zV, zC, nth, put, zgName, zAsg, zRet, zDrop, zCall, zCons, zNil, zTup, zLst, bEq, bNe, bIx, bCmp, bLt, bLe, bGt, bGe, zChain, zCB, rLenZ, size, bAdd, bSub, bMod, bDiv, scalD, eqD, few0, few1, few2, few3, few4, few5, few6, few7, few8, few9, few10, it0, it1, it2, it3, it4, wE, zRz, true_and, and_true, decide_true, decide_false, Bool.not_true, Bool.not_false, Bool.true_and, Bool.false_and, Bool.true_or, Bool.false_or, Zy.strs?, bIn, List.any_cons, List.any_nil, wq0_1, wq0_2, wq0_3, wq0_4, wq0_5, wq0_6, wq0_7, wq0_8, wq0_9, wq0_10, wq0_11, wq0_12, wq1_0, wq1_2, wq1_3, wq1_4, wq1_5, wq1_6, wq1_7, wq1_8, wq1_9, wq1_10, wq1_11, wq1_12, wq2_0, wq2_1, wq2_3, wq2_4, wq2_5, wq2_6, wq2_7, wq2_8, wq2_9, wq2_10, wq2_11, wq2_12, wq3_0, wq3_1, wq3_2, wq3_4, wq3_5, wq3_6, wq3_7, wq3_8, wq3_9, wq3_10, wq3_11, wq3_12, wq4_0, wq4_1, wq4_2, wq4_3, wq4_5, wq4_6, wq4_7, wq4_8, wq4_9, wq4_10, wq4_11, wq4_12, wq5_0, wq5_1, wq5_2, wq5_3, wq5_4, wq5_6, wq5_7, wq5_8, wq5_9, wq5_10, wq5_11, wq5_12, wq6_0, wq6_1, wq6_2, wq6_3, wq6_4, wq6_5, wq6_7, wq6_8, wq6_9, wq6_10, wq6_11, wq6_12, wq7_0, wq7_1, wq7_2, wq7_3, wq7_4, wq7_5, wq7_6, wq7_8, wq7_9, wq7_10, wq7_11, wq7_12, wq8_0, wq8_1, wq8_2, wq8_3, wq8_4, wq8_5, wq8_6, wq8_7, wq8_9, wq8_10, wq8_11, wq8_12, wq9_0, wq9_1, wq9_2, wq9_3, wq9_4, wq9_5, wq9_6, wq9_7, wq9_8, wq10_0, wq10_1, wq10_2, wq10_3, wq10_4, wq10_5, wq10_6, wq10_7, wq10_8, wq11_0, wq11_1, wq11_2, wq11_3, wq11_4, wq11_5, wq11_6, wq11_7, wq11_8, wq12_0, wq12_1, wq12_2, wq12_3, wq12_4, wq12_5, wq12_6, wq12_7, wq12_8, List.map_cons, List.map_nil, List.cons_append, List.nil_append]
    refine comp_pairs (v := v) (u := u) (ps := ps) (f := (·.1)) (g := pk1) rfl (fun _ => rfl) hl (fun _ _ => it0) (fun _ => rfl) fun p hp => ?_
    refine ⟨_, w, ps.map (·.1), rfl, by unfold seqZ; simp only [set_same], fun e => ?_, fun e => ?_⟩
    · refine comp_pairs (v := v) (u := u) (ps := ps) (f := (·.2)) (g := pk2) rfl (fun _ => rfl) hl (fun _ _ => it1) (fun _ => rfl) fun p2 hp2 => ?_
      refine ⟨_, o, ps.map (·.2), rfl, by unfold seqZ; simp only [set_same], fun e2 => ?_, fun e2 => ?_⟩
      · exact fq ((Sub.new hp).trans (Sub.new hp2)) (h1 _ (if_pos ⟨e, e2⟩))
      · exact (h2 (if_neg (by simp [e2]))).up ((Sub.new hp).trans (Sub.new hp2))
    · exact (h2 (if_neg (by simp [e]))).up (Sub.new hp)
  | both v u =>
    unfold t_width_of_two startZ Vw.d
    simp only [zSeq, zNext, zIf, zTest, zNot, zAnd, zOr, zIfE, zIsN, isN, zOp, zV, zC, nth, put, zgName, zAsg, zRet, zDrop, zCall, zCons, zNil, zTup, zLst, bEq, bNe, bIx, bCmp, bLt, bLe, bGt, bGe, zChain, zCB, rLenZ, size, bAdd, bSub, bMod, bDiv, scalD, eqD, few0, few1, few2, few3, few4, few5, few6, few7, few8, few9, few10, it0, it1, it2, it3, it4, wE, zRz, true_and, and_true, decide_true, decide_false, Bool.not_true, Bool.not_false, Bool.true_and, Bool.false_and, Bool.true_or, Bool.false_or, Zy.strs?, bIn, List.any_cons, List.any_nil, wq0_1, wq0_2, wq0_3, wq0_4, wq0_5, wq0_6, wq0_7, wq0_8, wq0_9, wq0_10, wq0_11, wq0_12, wq1_0, wq1_2, wq1_3, wq1_4, wq1_5, wq1_6, wq1_7, wq1_8, wq1_9, wq1_10, wq1_11, wq1_12, wq2_0, wq2_1, wq2_3, wq2_4, wq2_5, wq2_6, wq2_7, wq2_8, wq2_9, wq2_10, wq2_11, wq2_12, wq3_0, wq3_1, wq3_2, wq3_4, wq3_5, wq3_6, wq3_7, wq3_8, wq3_9, wq3_10, wq3_11, wq3_12, wq4_0, wq4_1, wq4_2, wq4_3, wq4_5, wq4_6, wq4_7, wq4_8, wq4_9, wq4_10, wq4_11, wq4_12, wq5_0, wq5_1, wq5_2, wq5_3, wq5_4, wq5_6, wq5_7, wq5_8, wq5_9, wq5_10, wq5_11, wq5_12, wq6_0, wq6_1, wq6_2, wq6_3, wq6_4, wq6_5, wq6_7, wq6_8, wq6_9, wq6_10, wq6_11, wq6_12, wq7_0, wq7_1, wq7_2, wq7_3, wq7_4, wq7_5, wq7_6, wq7_8, wq7_9, wq7_10, wq7_11, wq7_12, wq8_0, wq8_1, wq8_2, wq8_3, wq8_4, wq8_5, wq8_6, wq8_7, wq8_9, wq8_10, wq8_11, wq8_12, wq9_0, wq9_1, wq9_2, wq9_3, wq9_4, wq9_5, wq9_6, wq9_7, wq9_8, wq10_0, wq10_1, wq10_2, wq10_3, wq10_4, wq10_5, wq10_6, wq10_7, wq10_8, wq11_0, wq11_1, wq11_2, wq11_3, wq11_4, wq11_5, wq11_6, wq11_7, wq11_8, wq12_0, wq12_1, wq12_2, wq12_3, wq12_4, wq12_5, wq12_6, wq12_7, wq12_8, List.map_cons, List.map_nil, List.cons_append, List.nil_append]
    by_cases e : w = o
    · simp only [e, decide_true, Bool.not_true]
      exact fq (Sub.refl _) (h1 _ (by unfold wid2; exact (if_pos e).trans (by rw [e])))
    · simp only [e, decide_false, Bool.not_false]
      exact (h2 (by unfold wid2; exact if_neg e)).me
  | less v u =>
    unfold t_width_of_two startZ Vw.d
    simp only [zSeq, zNext, zIf, zTest, zNot, zAnd, zOr, zIfE, zIsN, isN, zOp, zV, zC, nth, put, zgName, zAsg, zRet, zDrop, zCall, zCons, zNil, zTup, zLst, bEq, bNe, bIx, bCmp, bLt, bLe, bGt, bGe, zChain, zCB, rLenZ, size, bAdd, bSub, bMod, bDiv, scalD, eqD, few0, few1, few2, few3, few4, few5, few6, few7, few8, few9, few10, it0, it1, it2, it3, it4, wE, zRz, true_and, and_true, decide_true, decide_false, Bool.not_true, Bool.not_false, Bool.true_and, Bool.false_and, Bool.true_or, Bool.false_or, Zy.strs?, bIn, List.any_cons, List.any_nil, wq0_1, wq0_2, wq0_3, wq0_4, wq0_5, wq0_6, wq0_7, wq0_8, wq0_9, wq0_10, wq0_11, wq0_12, wq1_0, wq1_2, wq1_3, wq1_4, wq1_5, wq1_6, wq1_7, wq1_8, wq1_9, wq1_10, wq1_11, wq1_12, wq2_0, wq2_1, wq2_3, wq2_4, wq2_5, wq2_6, wq2_7, wq2_8, wq2_9, wq2_10, wq2_11, wq2_12, wq3_0, wq3_1, wq3_2, wq3_4, wq3_5, wq3_6, wq3_7, wq3_8, wq3_9, wq3_10, wq3_11, wq3_12, wq4_0, wq4_1, wq4_2, wq4_3, wq4_5, wq4_6, wq4_7, wq4_8, wq4_9, wq4_10, wq4_11, wq4_12, wq5_0, wq5_1, wq5_2, wq5_3, wq5_4, wq5_6, wq5_7, wq5_8, wq5_9, wq5_10, wq5_11, wq5_12, wq6_0, wq6_1, wq6_2, wq6_3, wq6_4, wq6_5, wq6_7, wq6_8, wq6_9, wq6_10, wq6_11, wq6_12, wq7_0, wq7_1, wq7_2, wq7_3, wq7_4, wq7_5, wq7_6, wq7_8, wq7_9, wq7_10, wq7_11, wq7_12, wq8_0, wq8_1, wq8_2, wq8_3, wq8_4, wq8_5, wq8_6, wq8_7, wq8_9, wq8_10, wq8_11, wq8_12, wq9_0, wq9_1, wq9_2, wq9_3, wq9_4, wq9_5, wq9_6, wq9_7, wq9_8, wq10_0, wq10_1, wq10_2, wq10_3, wq10_4, wq10_5, wq10_6, wq10_7, wq10_8, wq11_0, wq11_1, wq11_2, wq11_3, wq11_4, wq11_5, wq11_6, wq11_7, wq11_8, wq12_0, wq12_1, wq12_2, wq12_3, wq12_4, wq12_5, wq12_6, wq12_7, wq12_8, List.map_cons, List.map_nil, List.cons_append, List.nil_append]
    by_cases e : w = o
    · simp only [e, decide_true, Bool.not_true]
      exact fq (Sub.refl _) (h1 _ (by unfold wid2; exact (if_pos e).trans (by rw [e])))
    · simp only [e, decide_false, Bool.not_false]
      exact (h2 (by unfold wid2; exact if_neg e)).me
  | _ => cases h0
theorem cap_end {B : Addr} {E : XZ} {H : ZH} {Q : WP} {o : Option Int} {ws : List Int} {V : Vw} (e : wid ws V = cap o) (h1 : ∀ n, wid ws V = some n → Q (.int n) H) (h2 : wid ws V = none → EB E B H) :
    (∀ k, o = some k → match decide (40 < k) with | true => E B H | false => ∃ H0, Sub H0 H ∧ Q (.int k) H0) ∧ (o = none → EB E B H) := by
  refine ⟨fun k hk => ?_, fun ho => h2 (by rw [e, ho]; rfl)⟩
  subst hk
  by_cases hc : k ≤ 40
  · have h40 : ¬ 40 < k := by omega
    simp only [h40, decide_false]
    exact ⟨_, Sub.refl _, h1 k (by rw [e]; unfold cap; exact if_pos hc)⟩
  · have h40 : 40 < k := by omega
    simp only [h40, decide_true]
    exact (h2 (by rw [e]; unfold cap; exact if_neg hc)).me
theorem at_ws {ws : List Int} {H : ZH} {a : Addr} {t : Int} {n : Int} (ha : H a = some (.lst (ws.map D.int))) (h0 : 0 ≤ t) (h1 : t < ws.length) (hn : ws[t.toNat]? = some n) : item H (.ref a) (.int t) = some (.int n) :=
  itL ha h0 (by simpa using h1) (by rw [List.getElem?_map, hn]; rfl)
theorem ws_get {ws : List Int} {t : Int} (h0 : 0 ≤ t) (h1 : t < ws.length) : ∃ n, ws[t.toNat]? = some n := ⟨_, List.getElem?_eq_getElem (by omega)⟩
theorem r_width {B : Addr} {n : Nat} (hn : n ≤ 49) (ds : List D) (H : ZH) (Q : WP) (E : XZ) (h : sp_width B (n + 1) ds H Q E) : t_width_of B (sp_width B n) (sp_two B) (sp_one B) E (fin Q) (startZ 3 ds) H := by
  obtain ⟨V, a, ws, rfl, ha, hd, h1, h2⟩ := h
  cases V with
  | table t =>
    unfold t_width_of startZ Vw.d
    simp only [zSeq, zNext, zIf, zTest, zNot, zAnd, zOr, zIfE, zIsN, isN, zOp, zV, zC, nth, put, zgName, zAsg, zRet, zDrop, zCall, zCons, zNil, zTup, zLst, bEq, bNe, bIx, bCmp, bLt, bLe, bGt, bGe, zChain, zCB, rLenZ, size, bAdd, bSub, bMod, bDiv, scalD, eqD, few0, few1, few2, few3, few4, few5, few6, few7, few8, few9, few10, it0, it1, it2, it3, it4, wE, zRz, true_and, and_true, decide_true, decide_false, Bool.not_true, Bool.not_false, Bool.true_and, Bool.false_and, Bool.true_or, Bool.false_or, Zy.strs?, bIn, List.any_cons, List.any_nil, wq0_1, wq0_2, wq0_3, wq0_4, wq0_5, wq0_6, wq0_7, wq0_8, wq0_9, wq0_10, wq0_11, wq0_12, wq1_0, wq1_2, wq1_3, wq1_4, wq1_5, wq1_6, wq1_7, wq1_8, wq1_9, wq1_10, wq1_11, wq1_12, wq2_0, wq2_1, wq2_3, wq2_4, wq2_5, wq2_6, wq2_7, wq2_8, wq2_9, wq2_10, wq2_11, wq2_12, wq3_0, wq3_1, wq3_2, wq3_4, wq3_5, wq3_6, wq3_7, wq3_8, wq3_9, wq3_10, wq3_11, wq3_12, wq4_0, wq4_1, wq4_2, wq4_3, wq4_5, wq4_6, wq4_7, wq4_8, wq4_9, wq4_10, wq4_11, wq4_12, wq5_0, wq5_1, wq5_2, wq5_3, wq5_4, wq5_6, wq5_7, wq5_8, wq5_9, wq5_10, wq5_11, wq5_12, wq6_0, wq6_1, wq6_2, wq6_3, wq6_4, wq6_5, wq6_7, wq6_8, wq6_9, wq6_10, wq6_11, wq6_12, wq7_0, wq7_1, wq7_2, wq7_3, wq7_4, wq7_5, wq7_6, wq7_8, wq7_9, wq7_10, wq7_11, wq7_12, wq8_0, wq8_1, wq8_2, wq8_3, wq8_4, wq8_5, wq8_6, wq8_7, wq8_9, wq8_10, wq8_11, wq8_12, wq9_0, wq9_1, wq9_2, wq9_3, wq9_4, wq9_5, wq9_6, wq9_7, wq9_8, wq10_0, wq10_1, wq10_2, wq10_3, wq10_4, wq10_5, wq10_6, wq10_7, wq10_8, wq11_0, wq11_1, wq11_2, wq11_3, wq11_4, wq11_5, wq11_6, wq11_7, wq11_8, wq12_0, wq12_1, wq12_2, wq12_3, wq12_4, wq12_5, wq12_6, wq12_7, wq12_8, ha, List.length_map, List.map_cons, List.map_nil, List.cons_append, List.nil_append]
    by_cases h0 : 0 ≤ t
    · simp only [h0, decide_true]
      by_cases hl : t < ws.length
      · obtain ⟨m, hm⟩ := ws_get h0 hl
        simp only [hl, decide_true, Bool.not_true, at_ws ha h0 hl hm]
        exact ⟨_, Sub.refl _, h1 _ (by unfold wid; rw [if_pos h0, hm])⟩
      · simp only [hl, decide_false, Bool.not_false]
        exact (h2 (by unfold wid; rw [if_pos h0]; exact List.getElem?_eq_none (by omega))).me
    · simp only [h0, decide_false, Bool.not_false]
      exact (h2 (by unfold wid; exact if_neg h0)).me
  | within v c lo hi =>
    have e : wid ws (.within v c lo hi) = match wid ws v with | some w => cap (wid1 w (.within v c lo hi)) | none => none := rfl
    unfold t_width_of startZ Vw.d
    simp only [zSeq, zNext, zIf, zTest, zNot, zAnd, zOr, zIfE, zIsN, isN, zOp, zV, zC, nth, put, zgName, zAsg, zRet, zDrop, zCall, zCons, zNil, zTup, zLst, bEq, bNe, bIx, bCmp, bLt, bLe, bGt, bGe, zChain, zCB, rLenZ, size, bAdd, bSub, bMod, bDiv, scalD, eqD, few0, few1, few2, few3, few4, few5, few6, few7, few8, few9, few10, it0, it1, it2, it3, it4, wE, zRz, true_and, and_true, decide_true, decide_false, Bool.not_true, Bool.not_false, Bool.true_and, Bool.false_and, Bool.true_or, Bool.false_or, Zy.strs?, bIn, List.any_cons, List.any_nil, wq0_1, wq0_2, wq0_3, wq0_4, wq0_5, wq0_6, wq0_7, wq0_8, wq0_9, wq0_10, wq0_11, wq0_12, wq1_0, wq1_2, wq1_3, wq1_4, wq1_5, wq1_6, wq1_7, wq1_8, wq1_9, wq1_10, wq1_11, wq1_12, wq2_0, wq2_1, wq2_3, wq2_4, wq2_5, wq2_6, wq2_7, wq2_8, wq2_9, wq2_10, wq2_11, wq2_12, wq3_0, wq3_1, wq3_2, wq3_4, wq3_5, wq3_6, wq3_7, wq3_8, wq3_9, wq3_10, wq3_11, wq3_12, wq4_0, wq4_1, wq4_2, wq4_3, wq4_5, wq4_6, wq4_7, wq4_8, wq4_9, wq4_10, wq4_11, wq4_12, wq5_0, wq5_1, wq5_2, wq5_3, wq5_4, wq5_6, wq5_7, wq5_8, wq5_9, wq5_10, wq5_11, wq5_12, wq6_0, wq6_1, wq6_2, wq6_3, wq6_4, wq6_5, wq6_7, wq6_8, wq6_9, wq6_10, wq6_11, wq6_12, wq7_0, wq7_1, wq7_2, wq7_3, wq7_4, wq7_5, wq7_6, wq7_8, wq7_9, wq7_10, wq7_11, wq7_12, wq8_0, wq8_1, wq8_2, wq8_3, wq8_4, wq8_5, wq8_6, wq8_7, wq8_9, wq8_10, wq8_11, wq8_12, wq9_0, wq9_1, wq9_2, wq9_3, wq9_4, wq9_5, wq9_6, wq9_7, wq9_8, wq10_0, wq10_1, wq10_2, wq10_3, wq10_4, wq10_5, wq10_6, wq10_7, wq10_8, wq11_0, wq11_1, wq11_2, wq11_3, wq11_4, wq11_5, wq11_6, wq11_7, wq11_8, wq12_0, wq12_1, wq12_2, wq12_3, wq12_4, wq12_5, wq12_6, wq12_7, wq12_8, List.map_cons, List.map_nil, List.cons_append, List.nil_append]
    have hd2 := hd
    unfold Vw.depth at hd2
    refine ⟨v, a, ws, rfl, ha, by omega, fun m hm => ?_, fun hm => h2 (by rw [e, hm])⟩
    rw [hm] at e
    exact ⟨.within v c lo hi, m, rfl, rfl, by omega, (cap_end e h1 h2).1, (cap_end e h1 h2).2⟩
  | columns v cs =>
    have e : wid ws (.columns v cs) = match wid ws v with | some w => cap (wid1 w (.columns v cs)) | none => none := rfl
    unfold t_width_of startZ Vw.d
    simp only [zSeq, zNext, zIf, zTest, zNot, zAnd, zOr, zIfE, zIsN, isN, zOp, zV, zC, nth, put, zgName, zAsg, zRet, zDrop, zCall, zCons, zNil, zTup, zLst, bEq, bNe, bIx, bCmp, bLt, bLe, bGt, bGe, zChain, zCB, rLenZ, size, bAdd, bSub, bMod, bDiv, scalD, eqD, few0, few1, few2, few3, few4, few5, few6, few7, few8, few9, few10, it0, it1, it2, it3, it4, wE, zRz, true_and, and_true, decide_true, decide_false, Bool.not_true, Bool.not_false, Bool.true_and, Bool.false_and, Bool.true_or, Bool.false_or, Zy.strs?, bIn, List.any_cons, List.any_nil, wq0_1, wq0_2, wq0_3, wq0_4, wq0_5, wq0_6, wq0_7, wq0_8, wq0_9, wq0_10, wq0_11, wq0_12, wq1_0, wq1_2, wq1_3, wq1_4, wq1_5, wq1_6, wq1_7, wq1_8, wq1_9, wq1_10, wq1_11, wq1_12, wq2_0, wq2_1, wq2_3, wq2_4, wq2_5, wq2_6, wq2_7, wq2_8, wq2_9, wq2_10, wq2_11, wq2_12, wq3_0, wq3_1, wq3_2, wq3_4, wq3_5, wq3_6, wq3_7, wq3_8, wq3_9, wq3_10, wq3_11, wq3_12, wq4_0, wq4_1, wq4_2, wq4_3, wq4_5, wq4_6, wq4_7, wq4_8, wq4_9, wq4_10, wq4_11, wq4_12, wq5_0, wq5_1, wq5_2, wq5_3, wq5_4, wq5_6, wq5_7, wq5_8, wq5_9, wq5_10, wq5_11, wq5_12, wq6_0, wq6_1, wq6_2, wq6_3, wq6_4, wq6_5, wq6_7, wq6_8, wq6_9, wq6_10, wq6_11, wq6_12, wq7_0, wq7_1, wq7_2, wq7_3, wq7_4, wq7_5, wq7_6, wq7_8, wq7_9, wq7_10, wq7_11, wq7_12, wq8_0, wq8_1, wq8_2, wq8_3, wq8_4, wq8_5, wq8_6, wq8_7, wq8_9, wq8_10, wq8_11, wq8_12, wq9_0, wq9_1, wq9_2, wq9_3, wq9_4, wq9_5, wq9_6, wq9_7, wq9_8, wq10_0, wq10_1, wq10_2, wq10_3, wq10_4, wq10_5, wq10_6, wq10_7, wq10_8, wq11_0, wq11_1, wq11_2, wq11_3, wq11_4, wq11_5, wq11_6, wq11_7, wq11_8, wq12_0, wq12_1, wq12_2, wq12_3, wq12_4, wq12_5, wq12_6, wq12_7, wq12_8, List.map_cons, List.map_nil, List.cons_append, List.nil_append]
    have hd2 := hd
    unfold Vw.depth at hd2
    refine ⟨v, a, ws, rfl, ha, by omega, fun m hm => ?_, fun hm => h2 (by rw [e, hm])⟩
    rw [hm] at e
    exact ⟨.columns v cs, m, rfl, rfl, by omega, (cap_end e h1 h2).1, (cap_end e h1 h2).2⟩
  | once v =>
    have e : wid ws (.once v) = match wid ws v with | some w => cap (wid1 w (.once v)) | none => none := rfl
    unfold t_width_of startZ Vw.d
    simp only [zSeq, zNext, zIf, zTest, zNot, zAnd, zOr, zIfE, zIsN, isN, zOp, zV, zC, nth, put, zgName, zAsg, zRet, zDrop, zCall, zCons, zNil, zTup, zLst, bEq, bNe, bIx, bCmp, bLt, bLe, bGt, bGe, zChain, zCB, rLenZ, size, bAdd, bSub, bMod, bDiv, scalD, eqD, few0, few1, few2, few3, few4, few5, few6, few7, few8, few9, few10, it0, it1, it2, it3, it4, wE, zRz, true_and, and_true, decide_true, decide_false, Bool.not_true, Bool.not_false, Bool.true_and, Bool.false_and, Bool.true_or, Bool.false_or, Zy.strs?, bIn, List.any_cons, List.any_nil, wq0_1, wq0_2, wq0_3, wq0_4, wq0_5, wq0_6, wq0_7, wq0_8, wq0_9, wq0_10, wq0_11, wq0_12, wq1_0, wq1_2, wq1_3, wq1_4, wq1_5, wq1_6, wq1_7, wq1_8, wq1_9, wq1_10, wq1_11, wq1_12, wq2_0, wq2_1, wq2_3, wq2_4, wq2_5, wq2_6, wq2_7, wq2_8, wq2_9, wq2_10, wq2_11, wq2_12, wq3_0, wq3_1, wq3_2, wq3_4, wq3_5, wq3_6, wq3_7, wq3_8, wq3_9, wq3_10, wq3_11, wq3_12, wq4_0, wq4_1, wq4_2, wq4_3, wq4_5, wq4_6, wq4_7, wq4_8, wq4_9, wq4_10, wq4_11, wq4_12, wq5_0, wq5_1, wq5_2, wq5_3, wq5_4, wq5_6, wq5_7, wq5_8, wq5_9, wq5_10, wq5_11, wq5_12, wq6_0, wq6_1, wq6_2, wq6_3, wq6_4, wq6_5, wq6_7, wq6_8, wq6_9, wq6_10, wq6_11, wq6_12, wq7_0, wq7_1, wq7_2, wq7_3, wq7_4, wq7_5, wq7_6, wq7_8, wq7_9, wq7_10, wq7_11, wq7_12, wq8_0, wq8_1, wq8_2, wq8_3, wq8_4, wq8_5, wq8_6, wq8_7, wq8_9, wq8_10, wq8_11, wq8_12, wq9_0, wq9_1, wq9_2, wq9_3, wq9_4, wq9_5, wq9_6, wq9_7, wq9_8, wq10_0, wq10_1, wq10_2, wq10_3, wq10_4, wq10_5, wq10_6, wq10_7, wq10_8, wq11_0, wq11_1, wq11_2, wq11_3, wq11_4, wq11_5, wq11_6, wq11_7, wq11_8, wq12_0, wq12_1, wq12_2, wq12_3, wq12_4, wq12_5, wq12_6, wq12_7, wq12_8, List.map_cons, List.map_nil, List.cons_append, List.nil_append]
    have hd2 := hd
    unfold Vw.depth at hd2
    refine ⟨v, a, ws, rfl, ha, by omega, fun m hm => ?_, fun hm => h2 (by rw [e, hm])⟩
    rw [hm] at e
    exact ⟨.once v, m, rfl, rfl, by omega, (cap_end e h1 h2).1, (cap_end e h1 h2).2⟩
  | sums v ks c =>
    have e : wid ws (.sums v ks c) = match wid ws v with | some w => cap (wid1 w (.sums v ks c)) | none => none := rfl
    unfold t_width_of startZ Vw.d
    simp only [zSeq, zNext, zIf, zTest, zNot, zAnd, zOr, zIfE, zIsN, isN, zOp, zV, zC, nth, put, zgName, zAsg, zRet, zDrop, zCall, zCons, zNil, zTup, zLst, bEq, bNe, bIx, bCmp, bLt, bLe, bGt, bGe, zChain, zCB, rLenZ, size, bAdd, bSub, bMod, bDiv, scalD, eqD, few0, few1, few2, few3, few4, few5, few6, few7, few8, few9, few10, it0, it1, it2, it3, it4, wE, zRz, true_and, and_true, decide_true, decide_false, Bool.not_true, Bool.not_false, Bool.true_and, Bool.false_and, Bool.true_or, Bool.false_or, Zy.strs?, bIn, List.any_cons, List.any_nil, wq0_1, wq0_2, wq0_3, wq0_4, wq0_5, wq0_6, wq0_7, wq0_8, wq0_9, wq0_10, wq0_11, wq0_12, wq1_0, wq1_2, wq1_3, wq1_4, wq1_5, wq1_6, wq1_7, wq1_8, wq1_9, wq1_10, wq1_11, wq1_12, wq2_0, wq2_1, wq2_3, wq2_4, wq2_5, wq2_6, wq2_7, wq2_8, wq2_9, wq2_10, wq2_11, wq2_12, wq3_0, wq3_1, wq3_2, wq3_4, wq3_5, wq3_6, wq3_7, wq3_8, wq3_9, wq3_10, wq3_11, wq3_12, wq4_0, wq4_1, wq4_2, wq4_3, wq4_5, wq4_6, wq4_7, wq4_8, wq4_9, wq4_10, wq4_11, wq4_12, wq5_0, wq5_1, wq5_2, wq5_3, wq5_4, wq5_6, wq5_7, wq5_8, wq5_9, wq5_10, wq5_11, wq5_12, wq6_0, wq6_1, wq6_2, wq6_3, wq6_4, wq6_5, wq6_7, wq6_8, wq6_9, wq6_10, wq6_11, wq6_12, wq7_0, wq7_1, wq7_2, wq7_3, wq7_4, wq7_5, wq7_6, wq7_8, wq7_9, wq7_10, wq7_11, wq7_12, wq8_0, wq8_1, wq8_2, wq8_3, wq8_4, wq8_5, wq8_6, wq8_7, wq8_9, wq8_10, wq8_11, wq8_12, wq9_0, wq9_1, wq9_2, wq9_3, wq9_4, wq9_5, wq9_6, wq9_7, wq9_8, wq10_0, wq10_1, wq10_2, wq10_3, wq10_4, wq10_5, wq10_6, wq10_7, wq10_8, wq11_0, wq11_1, wq11_2, wq11_3, wq11_4, wq11_5, wq11_6, wq11_7, wq11_8, wq12_0, wq12_1, wq12_2, wq12_3, wq12_4, wq12_5, wq12_6, wq12_7, wq12_8, List.map_cons, List.map_nil, List.cons_append, List.nil_append]
    have hd2 := hd
    unfold Vw.depth at hd2
    refine ⟨v, a, ws, rfl, ha, by omega, fun m hm => ?_, fun hm => h2 (by rw [e, hm])⟩
    rw [hm] at e
    exact ⟨.sums v ks c, m, rfl, rfl, by omega, (cap_end e h1 h2).1, (cap_end e h1 h2).2⟩
  | reach v =>
    have e : wid ws (.reach v) = match wid ws v with | some w => cap (wid1 w (.reach v)) | none => none := rfl
    unfold t_width_of startZ Vw.d
    simp only [zSeq, zNext, zIf, zTest, zNot, zAnd, zOr, zIfE, zIsN, isN, zOp, zV, zC, nth, put, zgName, zAsg, zRet, zDrop, zCall, zCons, zNil, zTup, zLst, bEq, bNe, bIx, bCmp, bLt, bLe, bGt, bGe, zChain, zCB, rLenZ, size, bAdd, bSub, bMod, bDiv, scalD, eqD, few0, few1, few2, few3, few4, few5, few6, few7, few8, few9, few10, it0, it1, it2, it3, it4, wE, zRz, true_and, and_true, decide_true, decide_false, Bool.not_true, Bool.not_false, Bool.true_and, Bool.false_and, Bool.true_or, Bool.false_or, Zy.strs?, bIn, List.any_cons, List.any_nil, wq0_1, wq0_2, wq0_3, wq0_4, wq0_5, wq0_6, wq0_7, wq0_8, wq0_9, wq0_10, wq0_11, wq0_12, wq1_0, wq1_2, wq1_3, wq1_4, wq1_5, wq1_6, wq1_7, wq1_8, wq1_9, wq1_10, wq1_11, wq1_12, wq2_0, wq2_1, wq2_3, wq2_4, wq2_5, wq2_6, wq2_7, wq2_8, wq2_9, wq2_10, wq2_11, wq2_12, wq3_0, wq3_1, wq3_2, wq3_4, wq3_5, wq3_6, wq3_7, wq3_8, wq3_9, wq3_10, wq3_11, wq3_12, wq4_0, wq4_1, wq4_2, wq4_3, wq4_5, wq4_6, wq4_7, wq4_8, wq4_9, wq4_10, wq4_11, wq4_12, wq5_0, wq5_1, wq5_2, wq5_3, wq5_4, wq5_6, wq5_7, wq5_8, wq5_9, wq5_10, wq5_11, wq5_12, wq6_0, wq6_1, wq6_2, wq6_3, wq6_4, wq6_5, wq6_7, wq6_8, wq6_9, wq6_10, wq6_11, wq6_12, wq7_0, wq7_1, wq7_2, wq7_3, wq7_4, wq7_5, wq7_6, wq7_8, wq7_9, wq7_10, wq7_11, wq7_12, wq8_0, wq8_1, wq8_2, wq8_3, wq8_4, wq8_5, wq8_6, wq8_7, wq8_9, wq8_10, wq8_11, wq8_12, wq9_0, wq9_1, wq9_2, wq9_3, wq9_4, wq9_5, wq9_6, wq9_7, wq9_8, wq10_0, wq10_1, wq10_2, wq10_3, wq10_4, wq10_5, wq10_6, wq10_7, wq10_8, wq11_0, wq11_1, wq11_2, wq11_3, wq11_4, wq11_5, wq11_6, wq11_7, wq11_8, wq12_0, wq12_1, wq12_2, wq12_3, wq12_4, wq12_5, wq12_6, wq12_7, wq12_8, List.map_cons, List.map_nil, List.cons_append, List.nil_append]
    have hd2 := hd
    unfold Vw.depth at hd2
    refine ⟨v, a, ws, rfl, ha, by omega, fun m hm => ?_, fun hm => h2 (by rw [e, hm])⟩
    rw [hm] at e
    exact ⟨.reach v, m, rfl, rfl, by omega, (cap_end e h1 h2).1, (cap_end e h1 h2).2⟩
  | both v u =>
    have e : wid ws (.both v u) = match wid ws v, wid ws u with | some w, some o => cap (wid2 w o (.both v u)) | _, _ => none := rfl
    unfold t_width_of startZ Vw.d
    simp only [zSeq, zNext, zIf, zTest, zNot, zAnd, zOr, zIfE, zIsN, isN, zOp, zV, zC, nth, put, zgName, zAsg, zRet, zDrop, zCall, zCons, zNil, zTup, zLst, bEq, bNe, bIx, bCmp, bLt, bLe, bGt, bGe, zChain, zCB, rLenZ, size, bAdd, bSub, bMod, bDiv, scalD, eqD, few0, few1, few2, few3, few4, few5, few6, few7, few8, few9, few10, it0, it1, it2, it3, it4, wE, zRz, true_and, and_true, decide_true, decide_false, Bool.not_true, Bool.not_false, Bool.true_and, Bool.false_and, Bool.true_or, Bool.false_or, Zy.strs?, bIn, List.any_cons, List.any_nil, wq0_1, wq0_2, wq0_3, wq0_4, wq0_5, wq0_6, wq0_7, wq0_8, wq0_9, wq0_10, wq0_11, wq0_12, wq1_0, wq1_2, wq1_3, wq1_4, wq1_5, wq1_6, wq1_7, wq1_8, wq1_9, wq1_10, wq1_11, wq1_12, wq2_0, wq2_1, wq2_3, wq2_4, wq2_5, wq2_6, wq2_7, wq2_8, wq2_9, wq2_10, wq2_11, wq2_12, wq3_0, wq3_1, wq3_2, wq3_4, wq3_5, wq3_6, wq3_7, wq3_8, wq3_9, wq3_10, wq3_11, wq3_12, wq4_0, wq4_1, wq4_2, wq4_3, wq4_5, wq4_6, wq4_7, wq4_8, wq4_9, wq4_10, wq4_11, wq4_12, wq5_0, wq5_1, wq5_2, wq5_3, wq5_4, wq5_6, wq5_7, wq5_8, wq5_9, wq5_10, wq5_11, wq5_12, wq6_0, wq6_1, wq6_2, wq6_3, wq6_4, wq6_5, wq6_7, wq6_8, wq6_9, wq6_10, wq6_11, wq6_12, wq7_0, wq7_1, wq7_2, wq7_3, wq7_4, wq7_5, wq7_6, wq7_8, wq7_9, wq7_10, wq7_11, wq7_12, wq8_0, wq8_1, wq8_2, wq8_3, wq8_4, wq8_5, wq8_6, wq8_7, wq8_9, wq8_10, wq8_11, wq8_12, wq9_0, wq9_1, wq9_2, wq9_3, wq9_4, wq9_5, wq9_6, wq9_7, wq9_8, wq10_0, wq10_1, wq10_2, wq10_3, wq10_4, wq10_5, wq10_6, wq10_7, wq10_8, wq11_0, wq11_1, wq11_2, wq11_3, wq11_4, wq11_5, wq11_6, wq11_7, wq11_8, wq12_0, wq12_1, wq12_2, wq12_3, wq12_4, wq12_5, wq12_6, wq12_7, wq12_8, List.map_cons, List.map_nil, List.cons_append, List.nil_append]
    have hd2 := hd
    unfold Vw.depth at hd2
    refine ⟨v, a, ws, rfl, ha, by omega, fun m hm => ?_, fun hm => h2 (by rw [e, hm])⟩
    refine ⟨u, a, ws, rfl, ha, by omega, fun m2 hm2 => ?_, fun hm2 => h2 (by rw [e, hm, hm2])⟩
    rw [hm, hm2] at e
    exact ⟨.both v u, m, m2, rfl, rfl, by omega, (cap_end e h1 h2).1, (cap_end e h1 h2).2⟩
  | less v u =>
    have e : wid ws (.less v u) = match wid ws v, wid ws u with | some w, some o => cap (wid2 w o (.less v u)) | _, _ => none := rfl
    unfold t_width_of startZ Vw.d
    simp only [zSeq, zNext, zIf, zTest, zNot, zAnd, zOr, zIfE, zIsN, isN, zOp, zV, zC, nth, put, zgName, zAsg, zRet, zDrop, zCall, zCons, zNil, zTup, zLst, bEq, bNe, bIx, bCmp, bLt, bLe, bGt, bGe, zChain, zCB, rLenZ, size, bAdd, bSub, bMod, bDiv, scalD, eqD, few0, few1, few2, few3, few4, few5, few6, few7, few8, few9, few10, it0, it1, it2, it3, it4, wE, zRz, true_and, and_true, decide_true, decide_false, Bool.not_true, Bool.not_false, Bool.true_and, Bool.false_and, Bool.true_or, Bool.false_or, Zy.strs?, bIn, List.any_cons, List.any_nil, wq0_1, wq0_2, wq0_3, wq0_4, wq0_5, wq0_6, wq0_7, wq0_8, wq0_9, wq0_10, wq0_11, wq0_12, wq1_0, wq1_2, wq1_3, wq1_4, wq1_5, wq1_6, wq1_7, wq1_8, wq1_9, wq1_10, wq1_11, wq1_12, wq2_0, wq2_1, wq2_3, wq2_4, wq2_5, wq2_6, wq2_7, wq2_8, wq2_9, wq2_10, wq2_11, wq2_12, wq3_0, wq3_1, wq3_2, wq3_4, wq3_5, wq3_6, wq3_7, wq3_8, wq3_9, wq3_10, wq3_11, wq3_12, wq4_0, wq4_1, wq4_2, wq4_3, wq4_5, wq4_6, wq4_7, wq4_8, wq4_9, wq4_10, wq4_11, wq4_12, wq5_0, wq5_1, wq5_2, wq5_3, wq5_4, wq5_6, wq5_7, wq5_8, wq5_9, wq5_10, wq5_11, wq5_12, wq6_0, wq6_1, wq6_2, wq6_3, wq6_4, wq6_5, wq6_7, wq6_8, wq6_9, wq6_10, wq6_11, wq6_12, wq7_0, wq7_1, wq7_2, wq7_3, wq7_4, wq7_5, wq7_6, wq7_8, wq7_9, wq7_10, wq7_11, wq7_12, wq8_0, wq8_1, wq8_2, wq8_3, wq8_4, wq8_5, wq8_6, wq8_7, wq8_9, wq8_10, wq8_11, wq8_12, wq9_0, wq9_1, wq9_2, wq9_3, wq9_4, wq9_5, wq9_6, wq9_7, wq9_8, wq10_0, wq10_1, wq10_2, wq10_3, wq10_4, wq10_5, wq10_6, wq10_7, wq10_8, wq11_0, wq11_1, wq11_2, wq11_3, wq11_4, wq11_5, wq11_6, wq11_7, wq11_8, wq12_0, wq12_1, wq12_2, wq12_3, wq12_4, wq12_5, wq12_6, wq12_7, wq12_8, List.map_cons, List.map_nil, List.cons_append, List.nil_append]
    have hd2 := hd
    unfold Vw.depth at hd2
    refine ⟨v, a, ws, rfl, ha, by omega, fun m hm => ?_, fun hm => h2 (by rw [e, hm])⟩
    refine ⟨u, a, ws, rfl, ha, by omega, fun m2 hm2 => ?_, fun hm2 => h2 (by rw [e, hm, hm2])⟩
    rw [hm, hm2] at e
    exact ⟨.less v u, m, m2, rfl, rfl, by omega, (cap_end e h1 h2).1, (cap_end e h1 h2).2⟩
  | meet v u ps =>
    have e : wid ws (.meet v u ps) = match wid ws v, wid ws u with | some w, some o => cap (wid2 w o (.meet v u ps)) | _, _ => none := rfl
    unfold t_width_of startZ Vw.d
    simp only [zSeq, zNext, zIf, zTest, zNot, zAnd, zOr, zIfE, zIsN, isN, zOp, zV, zC, nth, put, zgName, zAsg, zRet, zDrop, zCall, zCons, zNil, zTup, zLst, bEq, bNe, bIx, bCmp, bLt, bLe, bGt, bGe, zChain, zCB, rLenZ, size, bAdd, bSub, bMod, bDiv, scalD, eqD, few0, few1, few2, few3, few4, few5, few6, few7, few8, few9, few10, it0, it1, it2, it3, it4, wE, zRz, true_and, and_true, decide_true, decide_false, Bool.not_true, Bool.not_false, Bool.true_and, Bool.false_and, Bool.true_or, Bool.false_or, Zy.strs?, bIn, List.any_cons, List.any_nil, wq0_1, wq0_2, wq0_3, wq0_4, wq0_5, wq0_6, wq0_7, wq0_8, wq0_9, wq0_10, wq0_11, wq0_12, wq1_0, wq1_2, wq1_3, wq1_4, wq1_5, wq1_6, wq1_7, wq1_8, wq1_9, wq1_10, wq1_11, wq1_12, wq2_0, wq2_1, wq2_3, wq2_4, wq2_5, wq2_6, wq2_7, wq2_8, wq2_9, wq2_10, wq2_11, wq2_12, wq3_0, wq3_1, wq3_2, wq3_4, wq3_5, wq3_6, wq3_7, wq3_8, wq3_9, wq3_10, wq3_11, wq3_12, wq4_0, wq4_1, wq4_2, wq4_3, wq4_5, wq4_6, wq4_7, wq4_8, wq4_9, wq4_10, wq4_11, wq4_12, wq5_0, wq5_1, wq5_2, wq5_3, wq5_4, wq5_6, wq5_7, wq5_8, wq5_9, wq5_10, wq5_11, wq5_12, wq6_0, wq6_1, wq6_2, wq6_3, wq6_4, wq6_5, wq6_7, wq6_8, wq6_9, wq6_10, wq6_11, wq6_12, wq7_0, wq7_1, wq7_2, wq7_3, wq7_4, wq7_5, wq7_6, wq7_8, wq7_9, wq7_10, wq7_11, wq7_12, wq8_0, wq8_1, wq8_2, wq8_3, wq8_4, wq8_5, wq8_6, wq8_7, wq8_9, wq8_10, wq8_11, wq8_12, wq9_0, wq9_1, wq9_2, wq9_3, wq9_4, wq9_5, wq9_6, wq9_7, wq9_8, wq10_0, wq10_1, wq10_2, wq10_3, wq10_4, wq10_5, wq10_6, wq10_7, wq10_8, wq11_0, wq11_1, wq11_2, wq11_3, wq11_4, wq11_5, wq11_6, wq11_7, wq11_8, wq12_0, wq12_1, wq12_2, wq12_3, wq12_4, wq12_5, wq12_6, wq12_7, wq12_8, List.map_cons, List.map_nil, List.cons_append, List.nil_append]
    have hd2 := hd
    unfold Vw.depth at hd2
    refine ⟨v, a, ws, rfl, ha, by omega, fun m hm => ?_, fun hm => h2 (by rw [e, hm])⟩
    refine ⟨u, a, ws, rfl, ha, by omega, fun m2 hm2 => ?_, fun hm2 => h2 (by rw [e, hm, hm2])⟩
    rw [hm, hm2] at e
    exact ⟨.meet v u ps, m, m2, rfl, rfl, by omega, (cap_end e h1 h2).1, (cap_end e h1 h2).2⟩
  | odd0 v u =>
    unfold t_width_of startZ Vw.d
    simp only [zSeq, zNext, zIf, zTest, zNot, zAnd, zOr, zIfE, zIsN, isN, zOp, zV, zC, nth, put, zgName, zAsg, zRet, zDrop, zCall, zCons, zNil, zTup, zLst, bEq, bNe, bIx, bCmp, bLt, bLe, bGt, bGe, zChain, zCB, rLenZ, size, bAdd, bSub, bMod, bDiv, scalD, eqD, few0, few1, few2, few3, few4, few5, few6, few7, few8, few9, few10, it0, it1, it2, it3, it4, wE, zRz, true_and, and_true, decide_true, decide_false, Bool.not_true, Bool.not_false, Bool.true_and, Bool.false_and, Bool.true_or, Bool.false_or, Zy.strs?, bIn, List.any_cons, List.any_nil, wq0_1, wq0_2, wq0_3, wq0_4, wq0_5, wq0_6, wq0_7, wq0_8, wq0_9, wq0_10, wq0_11, wq0_12, wq1_0, wq1_2, wq1_3, wq1_4, wq1_5, wq1_6, wq1_7, wq1_8, wq1_9, wq1_10, wq1_11, wq1_12, wq2_0, wq2_1, wq2_3, wq2_4, wq2_5, wq2_6, wq2_7, wq2_8, wq2_9, wq2_10, wq2_11, wq2_12, wq3_0, wq3_1, wq3_2, wq3_4, wq3_5, wq3_6, wq3_7, wq3_8, wq3_9, wq3_10, wq3_11, wq3_12, wq4_0, wq4_1, wq4_2, wq4_3, wq4_5, wq4_6, wq4_7, wq4_8, wq4_9, wq4_10, wq4_11, wq4_12, wq5_0, wq5_1, wq5_2, wq5_3, wq5_4, wq5_6, wq5_7, wq5_8, wq5_9, wq5_10, wq5_11, wq5_12, wq6_0, wq6_1, wq6_2, wq6_3, wq6_4, wq6_5, wq6_7, wq6_8, wq6_9, wq6_10, wq6_11, wq6_12, wq7_0, wq7_1, wq7_2, wq7_3, wq7_4, wq7_5, wq7_6, wq7_8, wq7_9, wq7_10, wq7_11, wq7_12, wq8_0, wq8_1, wq8_2, wq8_3, wq8_4, wq8_5, wq8_6, wq8_7, wq8_9, wq8_10, wq8_11, wq8_12, wq9_0, wq9_1, wq9_2, wq9_3, wq9_4, wq9_5, wq9_6, wq9_7, wq9_8, wq10_0, wq10_1, wq10_2, wq10_3, wq10_4, wq10_5, wq10_6, wq10_7, wq10_8, wq11_0, wq11_1, wq11_2, wq11_3, wq11_4, wq11_5, wq11_6, wq11_7, wq11_8, wq12_0, wq12_1, wq12_2, wq12_3, wq12_4, wq12_5, wq12_6, wq12_7, wq12_8, List.map_cons, List.map_nil, List.cons_append, List.nil_append]
    exact (h2 rfl).me
  | odd1 v u =>
    unfold t_width_of startZ Vw.d
    simp only [zSeq, zNext, zIf, zTest, zNot, zAnd, zOr, zIfE, zIsN, isN, zOp, zV, zC, nth, put, zgName, zAsg, zRet, zDrop, zCall, zCons, zNil, zTup, zLst, bEq, bNe, bIx, bCmp, bLt, bLe, bGt, bGe, zChain, zCB, rLenZ, size, bAdd, bSub, bMod, bDiv, scalD, eqD, few0, few1, few2, few3, few4, few5, few6, few7, few8, few9, few10, it0, it1, it2, it3, it4, wE, zRz, true_and, and_true, decide_true, decide_false, Bool.not_true, Bool.not_false, Bool.true_and, Bool.false_and, Bool.true_or, Bool.false_or, Zy.strs?, bIn, List.any_cons, List.any_nil, wq0_1, wq0_2, wq0_3, wq0_4, wq0_5, wq0_6, wq0_7, wq0_8, wq0_9, wq0_10, wq0_11, wq0_12, wq1_0, wq1_2, wq1_3, wq1_4, wq1_5, wq1_6, wq1_7, wq1_8, wq1_9, wq1_10, wq1_11, wq1_12, wq2_0, wq2_1, wq2_3, wq2_4, wq2_5, wq2_6, wq2_7, wq2_8, wq2_9, wq2_10, wq2_11, wq2_12, wq3_0, wq3_1, wq3_2, wq3_4, wq3_5, wq3_6, wq3_7, wq3_8, wq3_9, wq3_10, wq3_11, wq3_12, wq4_0, wq4_1, wq4_2, wq4_3, wq4_5, wq4_6, wq4_7, wq4_8, wq4_9, wq4_10, wq4_11, wq4_12, wq5_0, wq5_1, wq5_2, wq5_3, wq5_4, wq5_6, wq5_7, wq5_8, wq5_9, wq5_10, wq5_11, wq5_12, wq6_0, wq6_1, wq6_2, wq6_3, wq6_4, wq6_5, wq6_7, wq6_8, wq6_9, wq6_10, wq6_11, wq6_12, wq7_0, wq7_1, wq7_2, wq7_3, wq7_4, wq7_5, wq7_6, wq7_8, wq7_9, wq7_10, wq7_11, wq7_12, wq8_0, wq8_1, wq8_2, wq8_3, wq8_4, wq8_5, wq8_6, wq8_7, wq8_9, wq8_10, wq8_11, wq8_12, wq9_0, wq9_1, wq9_2, wq9_3, wq9_4, wq9_5, wq9_6, wq9_7, wq9_8, wq10_0, wq10_1, wq10_2, wq10_3, wq10_4, wq10_5, wq10_6, wq10_7, wq10_8, wq11_0, wq11_1, wq11_2, wq11_3, wq11_4, wq11_5, wq11_6, wq11_7, wq11_8, wq12_0, wq12_1, wq12_2, wq12_3, wq12_4, wq12_5, wq12_6, wq12_7, wq12_8, List.map_cons, List.map_nil, List.cons_append, List.nil_append]
    exact (h2 rfl).me
  | odd2 v u =>
    unfold t_width_of startZ Vw.d
    simp only [zSeq, zNext, zIf, zTest, zNot, zAnd, zOr, zIfE, zIsN, isN, zOp, zV, zC, nth, put, zgName, zAsg, zRet, zDrop, zCall, zCons, zNil, zTup, zLst, bEq, bNe, bIx, bCmp, bLt, bLe, bGt, bGe, zChain, zCB, rLenZ, size, bAdd, bSub, bMod, bDiv, scalD, eqD, few0, few1, few2, few3, few4, few5, few6, few7, few8, few9, few10, it0, it1, it2, it3, it4, wE, zRz, true_and, and_true, decide_true, decide_false, Bool.not_true, Bool.not_false, Bool.true_and, Bool.false_and, Bool.true_or, Bool.false_or, Zy.strs?, bIn, List.any_cons, List.any_nil, wq0_1, wq0_2, wq0_3, wq0_4, wq0_5, wq0_6, wq0_7, wq0_8, wq0_9, wq0_10, wq0_11, wq0_12, wq1_0, wq1_2, wq1_3, wq1_4, wq1_5, wq1_6, wq1_7, wq1_8, wq1_9, wq1_10, wq1_11, wq1_12, wq2_0, wq2_1, wq2_3, wq2_4, wq2_5, wq2_6, wq2_7, wq2_8, wq2_9, wq2_10, wq2_11, wq2_12, wq3_0, wq3_1, wq3_2, wq3_4, wq3_5, wq3_6, wq3_7, wq3_8, wq3_9, wq3_10, wq3_11, wq3_12, wq4_0, wq4_1, wq4_2, wq4_3, wq4_5, wq4_6, wq4_7, wq4_8, wq4_9, wq4_10, wq4_11, wq4_12, wq5_0, wq5_1, wq5_2, wq5_3, wq5_4, wq5_6, wq5_7, wq5_8, wq5_9, wq5_10, wq5_11, wq5_12, wq6_0, wq6_1, wq6_2, wq6_3, wq6_4, wq6_5, wq6_7, wq6_8, wq6_9, wq6_10, wq6_11, wq6_12, wq7_0, wq7_1, wq7_2, wq7_3, wq7_4, wq7_5, wq7_6, wq7_8, wq7_9, wq7_10, wq7_11, wq7_12, wq8_0, wq8_1, wq8_2, wq8_3, wq8_4, wq8_5, wq8_6, wq8_7, wq8_9, wq8_10, wq8_11, wq8_12, wq9_0, wq9_1, wq9_2, wq9_3, wq9_4, wq9_5, wq9_6, wq9_7, wq9_8, wq10_0, wq10_1, wq10_2, wq10_3, wq10_4, wq10_5, wq10_6, wq10_7, wq10_8, wq11_0, wq11_1, wq11_2, wq11_3, wq11_4, wq11_5, wq11_6, wq11_7, wq11_8, wq12_0, wq12_1, wq12_2, wq12_3, wq12_4, wq12_5, wq12_6, wq12_7, wq12_8, List.map_cons, List.map_nil, List.cons_append, List.nil_append]
    exact (h2 rfl).me
  | odd3 v u =>
    unfold t_width_of startZ Vw.d
    simp only [zSeq, zNext, zIf, zTest, zNot, zAnd, zOr, zIfE, zIsN, isN, zOp, zV, zC, nth, put, zgName, zAsg, zRet, zDrop, zCall, zCons, zNil, zTup, zLst, bEq, bNe, bIx, bCmp, bLt, bLe, bGt, bGe, zChain, zCB, rLenZ, size, bAdd, bSub, bMod, bDiv, scalD, eqD, few0, few1, few2, few3, few4, few5, few6, few7, few8, few9, few10, it0, it1, it2, it3, it4, wE, zRz, true_and, and_true, decide_true, decide_false, Bool.not_true, Bool.not_false, Bool.true_and, Bool.false_and, Bool.true_or, Bool.false_or, Zy.strs?, bIn, List.any_cons, List.any_nil, wq0_1, wq0_2, wq0_3, wq0_4, wq0_5, wq0_6, wq0_7, wq0_8, wq0_9, wq0_10, wq0_11, wq0_12, wq1_0, wq1_2, wq1_3, wq1_4, wq1_5, wq1_6, wq1_7, wq1_8, wq1_9, wq1_10, wq1_11, wq1_12, wq2_0, wq2_1, wq2_3, wq2_4, wq2_5, wq2_6, wq2_7, wq2_8, wq2_9, wq2_10, wq2_11, wq2_12, wq3_0, wq3_1, wq3_2, wq3_4, wq3_5, wq3_6, wq3_7, wq3_8, wq3_9, wq3_10, wq3_11, wq3_12, wq4_0, wq4_1, wq4_2, wq4_3, wq4_5, wq4_6, wq4_7, wq4_8, wq4_9, wq4_10, wq4_11, wq4_12, wq5_0, wq5_1, wq5_2, wq5_3, wq5_4, wq5_6, wq5_7, wq5_8, wq5_9, wq5_10, wq5_11, wq5_12, wq6_0, wq6_1, wq6_2, wq6_3, wq6_4, wq6_5, wq6_7, wq6_8, wq6_9, wq6_10, wq6_11, wq6_12, wq7_0, wq7_1, wq7_2, wq7_3, wq7_4, wq7_5, wq7_6, wq7_8, wq7_9, wq7_10, wq7_11, wq7_12, wq8_0, wq8_1, wq8_2, wq8_3, wq8_4, wq8_5, wq8_6, wq8_7, wq8_9, wq8_10, wq8_11, wq8_12, wq9_0, wq9_1, wq9_2, wq9_3, wq9_4, wq9_5, wq9_6, wq9_7, wq9_8, wq10_0, wq10_1, wq10_2, wq10_3, wq10_4, wq10_5, wq10_6, wq10_7, wq10_8, wq11_0, wq11_1, wq11_2, wq11_3, wq11_4, wq11_5, wq11_6, wq11_7, wq11_8, wq12_0, wq12_1, wq12_2, wq12_3, wq12_4, wq12_5, wq12_6, wq12_7, wq12_8, List.map_cons, List.map_nil, List.cons_append, List.nil_append]
    exact (h2 rfl).me
end K06
set_option Elab.async false
set_option linter.all false
set_option maxRecDepth 100000
set_option maxHeartbeats 4000000
namespace K06
open PySem PySem.Spec PyProof.Rows L2 Zy
theorem cap_some {k : Int} (h : k ≤ 40) : cap (some k) = some k := if_pos h
theorem cap_big {k : Int} (h : ¬ k ≤ 40) : cap (some k) = none := if_neg h
theorem oD_some {k : Int} : oD (some k) = .int k := rfl
theorem oD_none : oD none = .non := rfl
theorem isN_int {k : Int} : isN (.int k) = false := rfl
theorem isN_non : isN .non = true := rfl
theorem r_wide {n : Nat} (hn : n ≤ 49) (ds : List D) (H : ZH) (Q : WP) (E : XZ) (h : sp_wide (n + 1) ds H Q E) : t__law_wide (sp_wide n) sp_there sp_wide_one E (fin Q) (startZ 6 ds) H := by
  obtain ⟨V, a, ws, rfl, ha, hd, h1⟩ := h
  have fq : ∀ {x : D} {H' : ZH}, Sub H H' → Q x H → ∃ H0, Sub H0 H' ∧ Q x H0 := fun s q => ⟨_, s, q⟩
  cases V with
  | table t =>
    show t__law_wide _ _ _ _ _ [some (Vw.d (.table t)), some (.ref a), none, none, none, none] H
    unfold t__law_wide Vw.d
    simp only [zSeq, zNext, zIf, zTest, zNot, zAnd, zOr, zIfE, zIsN, isN, zOp, zV, zC, nth, put, zgName, zAsg, zRet, zDrop, zCall, zCons, zNil, zTup, zLst, bEq, bNe, bIx, bCmp, bLt, bLe, bGt, bGe, zChain, zCB, rLenZ, size, bAdd, bSub, bMod, bDiv, scalD, eqD, few0, few1, few2, few3, few4, few5, few6, few7, few8, few9, few10, it0, it1, it2, it3, it4, wE, zRz, true_and, and_true, decide_true, decide_false, Bool.not_true, Bool.not_false, Bool.true_and, Bool.false_and, Bool.true_or, Bool.false_or, Zy.strs?, bIn, List.any_cons, List.any_nil, wq0_1, wq0_2, wq0_3, wq0_4, wq0_5, wq0_6, wq0_7, wq0_8, wq0_9, wq0_10, wq0_11, wq0_12, wq1_0, wq1_2, wq1_3, wq1_4, wq1_5, wq1_6, wq1_7, wq1_8, wq1_9, wq1_10, wq1_11, wq1_12, wq2_0, wq2_1, wq2_3, wq2_4, wq2_5, wq2_6, wq2_7, wq2_8, wq2_9, wq2_10, wq2_11, wq2_12, wq3_0, wq3_1, wq3_2, wq3_4, wq3_5, wq3_6, wq3_7, wq3_8, wq3_9, wq3_10, wq3_11, wq3_12, wq4_0, wq4_1, wq4_2, wq4_3, wq4_5, wq4_6, wq4_7, wq4_8, wq4_9, wq4_10, wq4_11, wq4_12, wq5_0, wq5_1, wq5_2, wq5_3, wq5_4, wq5_6, wq5_7, wq5_8, wq5_9, wq5_10, wq5_11, wq5_12, wq6_0, wq6_1, wq6_2, wq6_3, wq6_4, wq6_5, wq6_7, wq6_8, wq6_9, wq6_10, wq6_11, wq6_12, wq7_0, wq7_1, wq7_2, wq7_3, wq7_4, wq7_5, wq7_6, wq7_8, wq7_9, wq7_10, wq7_11, wq7_12, wq8_0, wq8_1, wq8_2, wq8_3, wq8_4, wq8_5, wq8_6, wq8_7, wq8_9, wq8_10, wq8_11, wq8_12, wq9_0, wq9_1, wq9_2, wq9_3, wq9_4, wq9_5, wq9_6, wq9_7, wq9_8, wq10_0, wq10_1, wq10_2, wq10_3, wq10_4, wq10_5, wq10_6, wq10_7, wq10_8, wq11_0, wq11_1, wq11_2, wq11_3, wq11_4, wq11_5, wq11_6, wq11_7, wq11_8, wq12_0, wq12_1, wq12_2, wq12_3, wq12_4, wq12_5, wq12_6, wq12_7, wq12_8, ha, List.length_map, List.map_cons, List.map_nil, List.cons_append, List.nil_append]
    by_cases h0 : 0 ≤ t
    · simp only [h0, decide_true]
      by_cases hl : t < ws.length
      · obtain ⟨m, hm⟩ := ws_get h0 hl
        simp only [hl, decide_true, at_ws ha h0 hl hm]
        have e : wid ws (.table t) = some m := by unfold wid; rw [if_pos h0, hm]
        rw [e] at h1
        exact fq (Sub.refl _) h1
      · simp only [hl, decide_false]
        have e : wid ws (.table t) = none := by unfold wid; rw [if_pos h0]; exact List.getElem?_eq_none (by omega)
        rw [e] at h1
        exact fq (Sub.refl _) h1
    · simp only [h0, decide_false]
      have e : wid ws (.table t) = none := by unfold wid; exact if_neg h0
      rw [e] at h1
      exact fq (Sub.refl _) h1
  | within v c lo hi =>
    have e : wid ws (.within v c lo hi) = match wid ws v with | some w => cap (wid1 w (.within v c lo hi)) | none => none := rfl
    show t__law_wide _ _ _ _ _ [some (Vw.d (.within v c lo hi)), some (.ref a), none, none, none, none] H
    unfold t__law_wide Vw.d
    simp only [zSeq, zNext, zIf, zTest, zNot, zAnd, zOr, zIfE, zIsN, isN, zOp, zV, zC, nth, put, zgName, zAsg, zRet, zDrop, zCall, zCons, zNil, zTup, zLst, bEq, bNe, bIx, bCmp, bLt, bLe, bGt, bGe, zChain, zCB, rLenZ, size, bAdd, bSub, bMod, bDiv, scalD, eqD, few0, few1, few2, few3, few4, few5, few6, few7, few8, few9, few10, it0, it1, it2, it3, it4, wE, zRz, true_and, and_true, decide_true, decide_false, Bool.not_true, Bool.not_false, Bool.true_and, Bool.false_and, Bool.true_or, Bool.false_or, Zy.strs?, bIn, List.any_cons, List.any_nil, wq0_1, wq0_2, wq0_3, wq0_4, wq0_5, wq0_6, wq0_7, wq0_8, wq0_9, wq0_10, wq0_11, wq0_12, wq1_0, wq1_2, wq1_3, wq1_4, wq1_5, wq1_6, wq1_7, wq1_8, wq1_9, wq1_10, wq1_11, wq1_12, wq2_0, wq2_1, wq2_3, wq2_4, wq2_5, wq2_6, wq2_7, wq2_8, wq2_9, wq2_10, wq2_11, wq2_12, wq3_0, wq3_1, wq3_2, wq3_4, wq3_5, wq3_6, wq3_7, wq3_8, wq3_9, wq3_10, wq3_11, wq3_12, wq4_0, wq4_1, wq4_2, wq4_3, wq4_5, wq4_6, wq4_7, wq4_8, wq4_9, wq4_10, wq4_11, wq4_12, wq5_0, wq5_1, wq5_2, wq5_3, wq5_4, wq5_6, wq5_7, wq5_8, wq5_9, wq5_10, wq5_11, wq5_12, wq6_0, wq6_1, wq6_2, wq6_3, wq6_4, wq6_5, wq6_7, wq6_8, wq6_9, wq6_10, wq6_11, wq6_12, wq7_0, wq7_1, wq7_2, wq7_3, wq7_4, wq7_5, wq7_6, wq7_8, wq7_9, wq7_10, wq7_11, wq7_12, wq8_0, wq8_1, wq8_2, wq8_3, wq8_4, wq8_5, wq8_6, wq8_7, wq8_9, wq8_10, wq8_11, wq8_12, wq9_0, wq9_1, wq9_2, wq9_3, wq9_4, wq9_5, wq9_6, wq9_7, wq9_8, wq10_0, wq10_1, wq10_2, wq10_3, wq10_4, wq10_5, wq10_6, wq10_7, wq10_8, wq11_0, wq11_1, wq11_2, wq11_3, wq11_4, wq11_5, wq11_6, wq11_7, wq11_8, wq12_0, wq12_1, wq12_2, wq12_3, wq12_4, wq12_5, wq12_6, wq12_7, wq12_8, List.map_cons, List.map_nil, List.cons_append, List.nil_append]
    have hd2 := hd
    unfold Vw.depth at hd2
    refine ⟨v, a, ws, rfl, ha, by omega, ?_⟩
    cases hm : wid ws v with
    | none =>
      rw [hm] at e
      rw [e] at h1
      simp only [oD_none, isN_non]
      exact fq (Sub.refl _) h1
    | some m =>
    replace e : wid ws (.within v c lo hi) = cap (wid1 m (.within v c lo hi)) := by rw [e, hm]
    simp only [oD_some, isN_int]
    refine ⟨.within v c lo hi, m, rfl, rfl, by omega, ?_⟩
    cases h3 : wid1 m (.within v c lo hi) with
    | none =>
      rw [h3] at e
      rw [e] at h1
      simp only [oD_none, isN_non]
      exact fq (Sub.refl _) h1
    | some k =>
      rw [h3] at e
      simp only [oD_some, isN_int]
      by_cases hk : k ≤ 40
      · rw [cap_some hk] at e
        rw [e] at h1
        simp only [hk, decide_true]
        exact fq (Sub.refl _) h1
      · rw [cap_big hk] at e
        rw [e] at h1
        simp only [hk, decide_false]
        exact fq (Sub.refl _) h1
  | columns v cs =>
    have e : wid ws (.columns v cs) = match wid ws v with | some w => cap (wid1 w (.columns v cs)) | none => none := rfl
    show t__law_wide _ _ _ _ _ [some (Vw.d (.columns v cs)), some (.ref a), none, none, none, none] H
    unfold t__law_wide Vw.d
    simp only [zSeq, zNext, zIf, zTest, zNot, zAnd, zOr, zIfE, zIsN, isN, zOp, zV, zC, nth, put, zgName, zAsg, zRet, zDrop, zCall, zCons, zNil, zTup, zLst, bEq, bNe, bIx, bCmp, bLt, bLe, bGt, bGe, zChain, zCB, rLenZ, size, bAdd, bSub, bMod, bDiv, scalD, eqD, few0, few1, few2, few3, few4, few5, few6, few7, few8, few9, few10, it0, it1, it2, it3, it4, wE, zRz, true_and, and_true, decide_true, decide_false, Bool.not_true, Bool.not_false, Bool.true_and, Bool.false_and, Bool.true_or, Bool.false_or, Zy.strs?, bIn, List.any_cons, List.any_nil, wq0_1, wq0_2, wq0_3, wq0_4, wq0_5, wq0_6, wq0_7, wq0_8, wq0_9, wq0_10, wq0_11, wq0_12, wq1_0, wq1_2, wq1_3, wq1_4, wq1_5, wq1_6, wq1_7, wq1_8, wq1_9, wq1_10, wq1_11, wq1_12, wq2_0, wq2_1, wq2_3, wq2_4, wq2_5, wq2_6, wq2_7, wq2_8, wq2_9, wq2_10, wq2_11, wq2_12, wq3_0, wq3_1, wq3_2, wq3_4, wq3_5, wq3_6, wq3_7, wq3_8, wq3_9, wq3_10, wq3_11, wq3_12, wq4_0, wq4_1, wq4_2, wq4_3, wq4_5, wq4_6, wq4_7, wq4_8, wq4_9, wq4_10, wq4_11, wq4_12, wq5_0, wq5_1, wq5_2, wq5_3, wq5_4, wq5_6, wq5_7, wq5_8, wq5_9, wq5_10, wq5_11, wq5_12, wq6_0, wq6_1, wq6_2, wq6_3, wq6_4, wq6_5, wq6_7, wq6_8, wq6_9, wq6_10, wq6_11, wq6_12, wq7_0, wq7_1, wq7_2, wq7_3, wq7_4, wq7_5, wq7_6, wq7_8, wq7_9, wq7_10, wq7_11, wq7_12, wq8_0, wq8_1, wq8_2, wq8_3, wq8_4, wq8_5, wq8_6, wq8_7, wq8_9, wq8_10, wq8_11, wq8_12, wq9_0, wq9_1, wq9_2, wq9_3, wq9_4, wq9_5, wq9_6, wq9_7, wq9_8, wq10_0, wq10_1, wq10_2, wq10_3, wq10_4, wq10_5, wq10_6, wq10_7, wq10_8, wq11_0, wq11_1, wq11_2, wq11_3, wq11_4, wq11_5, wq11_6, wq11_7, wq11_8, wq12_0, wq12_1, wq12_2, wq12_3, wq12_4, wq12_5, wq12_6, wq12_7, wq12_8, List.map_cons, List.map_nil, List.cons_append, List.nil_append]
    have hd2 := hd
    unfold Vw.depth at hd2
    refine ⟨v, a, ws, rfl, ha, by omega, ?_⟩
    cases hm : wid ws v with
    | none =>
      rw [hm] at e
      rw [e] at h1
      simp only [oD_none, isN_non]
      exact fq (Sub.refl _) h1
    | some m =>
    replace e : wid ws (.columns v cs) = cap (wid1 m (.columns v cs)) := by rw [e, hm]
    simp only [oD_some, isN_int]
    refine ⟨.columns v cs, m, rfl, rfl, by omega, ?_⟩
    cases h3 : wid1 m (.columns v cs) with
    | none =>
      rw [h3] at e
      rw [e] at h1
      simp only [oD_none, isN_non]
      exact fq (Sub.refl _) h1
    | some k =>
      rw [h3] at e
      simp only [oD_some, isN_int]
      by_cases hk : k ≤ 40
      · rw [cap_some hk] at e
        rw [e] at h1
        simp only [hk, decide_true]
        exact fq (Sub.refl _) h1
      · rw [cap_big hk] at e
        rw [e] at h1
        simp only [hk, decide_false]
        exact fq (Sub.refl _) h1
  | once v =>
    have e : wid ws (.once v) = match wid ws v with | some w => cap (wid1 w (.once v)) | none => none := rfl
    show t__law_wide _ _ _ _ _ [some (Vw.d (.once v)), some (.ref a), none, none, none, none] H
    unfold t__law_wide Vw.d
    simp only [zSeq, zNext, zIf, zTest, zNot, zAnd, zOr, zIfE, zIsN, isN, zOp, zV, zC, nth, put, zgName, zAsg, zRet, zDrop, zCall, zCons, zNil, zTup, zLst, bEq, bNe, bIx, bCmp, bLt, bLe, bGt, bGe, zChain, zCB, rLenZ, size, bAdd, bSub, bMod, bDiv, scalD, eqD, few0, few1, few2, few3, few4, few5, few6, few7, few8, few9, few10, it0, it1, it2, it3, it4, wE, zRz, true_and, and_true, decide_true, decide_false, Bool.not_true, Bool.not_false, Bool.true_and, Bool.false_and, Bool.true_or, Bool.false_or, Zy.strs?, bIn, List.any_cons, List.any_nil, wq0_1, wq0_2, wq0_3, wq0_4, wq0_5, wq0_6, wq0_7, wq0_8, wq0_9, wq0_10, wq0_11, wq0_12, wq1_0, wq1_2, wq1_3, wq1_4, wq1_5, wq1_6, wq1_7, wq1_8, wq1_9, wq1_10, wq1_11, wq1_12, wq2_0, wq2_1, wq2_3, wq2_4, wq2_5, wq2_6, wq2_7, wq2_8, wq2_9, wq2_10, wq2_11, wq2_12, wq3_0, wq3_1, wq3_2, wq3_4, wq3_5, wq3_6, wq3_7, wq3_8, wq3_9, wq3_10, wq3_11, wq3_12, wq4_0, wq4_1, wq4_2, wq4_3, wq4_5, wq4_6, wq4_7, wq4_8, wq4_9, wq4_10, wq4_11, wq4_12, wq5_0, wq5_1, wq5_2, wq5_3, wq5_4, wq5_6, wq5_7, wq5_8, wq5_9, wq5_10, wq5_11, wq5_12, wq6_0, wq6_1, wq6_2, wq6_3, wq6_4, wq6_5, wq6_7, wq6_8, wq6_9, wq6_10, wq6_11, wq6_12, wq7_0, wq7_1, wq7_2, wq7_3, wq7_4, wq7_5, wq7_6, wq7_8, wq7_9, wq7_10, wq7_11, wq7_12, wq8_0, wq8_1, wq8_2, wq8_3, wq8_4, wq8_5, wq8_6, wq8_7, wq8_9, wq8_10, wq8_11, wq8_12, wq9_0, wq9_1, wq9_2, wq9_3, wq9_4, wq9_5, wq9_6, wq9_7, wq9_8, wq10_0, wq10_1, wq10_2, wq10_3, wq10_4, wq10_5, wq10_6, wq10_7, wq10_8, wq11_0, wq11_1, wq11_2, wq11_3, wq11_4, wq11_5, wq11_6, wq11_7, wq11_8, wq12_0, wq12_1, wq12_2, wq12_3, wq12_4, wq12_5, wq12_6, wq12_7, wq12_8, List.map_cons, List.map_nil, List.cons_append, List.nil_append]
    have hd2 := hd
    unfold Vw.depth at hd2
    refine ⟨v, a, ws, rfl, ha, by omega, ?_⟩
    cases hm : wid ws v with
    | none =>
      rw [hm] at e
      rw [e] at h1
      simp only [oD_none, isN_non]
      exact fq (Sub.refl _) h1
    | some m =>
    replace e : wid ws (.once v) = cap (wid1 m (.once v)) := by rw [e, hm]
    simp only [oD_some, isN_int]
    refine ⟨.once v, m, rfl, rfl, by omega, ?_⟩
    cases h3 : wid1 m (.once v) with
    | none =>
      rw [h3] at e
      rw [e] at h1
      simp only [oD_none, isN_non]
      exact fq (Sub.refl _) h1
    | some k =>
      rw [h3] at e
      simp only [oD_some, isN_int]
      by_cases hk : k ≤ 40
      · rw [cap_some hk] at e
        rw [e] at h1
        simp only [hk, decide_true]
        exact fq (Sub.refl _) h1
      · rw [cap_big hk] at e
        rw [e] at h1
        simp only [hk, decide_false]
        exact fq (Sub.refl _) h1
  | sums v ks c =>
    have e : wid ws (.sums v ks c) = match wid ws v with | some w => cap (wid1 w (.sums v ks c)) | none => none := rfl
    show t__law_wide _ _ _ _ _ [some (Vw.d (.sums v ks c)), some (.ref a), none, none, none, none] H
    unfold t__law_wide Vw.d
    simp only [zSeq, zNext, zIf, zTest, zNot, zAnd, zOr, zIfE, zIsN, isN, zOp, zV, zC, nth, put, zgName, zAsg, zRet, zDrop, zCall, zCons, zNil, zTup, zLst, bEq, bNe, bIx, bCmp, bLt, bLe, bGt, bGe, zChain, zCB, rLenZ, size, bAdd, bSub, bMod, bDiv, scalD, eqD, few0, few1, few2, few3, few4, few5, few6, few7, few8, few9, few10, it0, it1, it2, it3, it4, wE, zRz, true_and, and_true, decide_true, decide_false, Bool.not_true, Bool.not_false, Bool.true_and, Bool.false_and, Bool.true_or, Bool.false_or, Zy.strs?, bIn, List.any_cons, List.any_nil, wq0_1, wq0_2, wq0_3, wq0_4, wq0_5, wq0_6, wq0_7, wq0_8, wq0_9, wq0_10, wq0_11, wq0_12, wq1_0, wq1_2, wq1_3, wq1_4, wq1_5, wq1_6, wq1_7, wq1_8, wq1_9, wq1_10, wq1_11, wq1_12, wq2_0, wq2_1, wq2_3, wq2_4, wq2_5, wq2_6, wq2_7, wq2_8, wq2_9, wq2_10, wq2_11, wq2_12, wq3_0, wq3_1, wq3_2, wq3_4, wq3_5, wq3_6, wq3_7, wq3_8, wq3_9, wq3_10, wq3_11, wq3_12, wq4_0, wq4_1, wq4_2, wq4_3, wq4_5, wq4_6, wq4_7, wq4_8, wq4_9, wq4_10, wq4_11, wq4_12, wq5_0, wq5_1, wq5_2, wq5_3, wq5_4, wq5_6, wq5_7, wq5_8, wq5_9, wq5_10, wq5_11, wq5_12, wq6_0, wq6_1, wq6_2, wq6_3, wq6_4, wq6_5, wq6_7, wq6_8, wq6_9, wq6_10, wq6_11, wq6_12, wq7_0, wq7_1, wq7_2, wq7_3, wq7_4, wq7_5, wq7_6, wq7_8, wq7_9, wq7_10, wq7_11, wq7_12, wq8_0, wq8_1, wq8_2, wq8_3, wq8_4, wq8_5, wq8_6, wq8_7, wq8_9, wq8_10, wq8_11, wq8_12, wq9_0, wq9_1, wq9_2, wq9_3, wq9_4, wq9_5, wq9_6, wq9_7, wq9_8, wq10_0, wq10_1, wq10_2, wq10_3, wq10_4, wq10_5, wq10_6, wq10_7, wq10_8, wq11_0, wq11_1, wq11_2, wq11_3, wq11_4, wq11_5, wq11_6, wq11_7, wq11_8, wq12_0, wq12_1, wq12_2, wq12_3, wq12_4, wq12_5, wq12_6, wq12_7, wq12_8, List.map_cons, List.map_nil, List.cons_append, List.nil_append]
    have hd2 := hd
    unfold Vw.depth at hd2
    refine ⟨v, a, ws, rfl, ha, by omega, ?_⟩
    cases hm : wid ws v with
    | none =>
      rw [hm] at e
      rw [e] at h1
      simp only [oD_none, isN_non]
      exact fq (Sub.refl _) h1
    | some m =>
    replace e : wid ws (.sums v ks c) = cap (wid1 m (.sums v ks c)) := by rw [e, hm]
    simp only [oD_some, isN_int]
    refine ⟨.sums v ks c, m, rfl, rfl, by omega, ?_⟩
    cases h3 : wid1 m (.sums v ks c) with
    | none =>
      rw [h3] at e
      rw [e] at h1
      simp only [oD_none, isN_non]
      exact fq (Sub.refl _) h1
    | some k =>
      rw [h3] at e
      simp only [oD_some, isN_int]
      by_cases hk : k ≤ 40
      · rw [cap_some hk] at e
        rw [e] at h1
        simp only [hk, decide_true]
        exact fq (Sub.refl _) h1
      · rw [cap_big hk] at e
        rw [e] at h1
        simp only [hk, decide_false]
        exact fq (Sub.refl _) h1
  | reach v =>
    have e : wid ws (.reach v) = match wid ws v with | some w => cap (wid1 w (.reach v)) | none => none := rfl
    show t__law_wide _ _ _ _ _ [some (Vw.d (.reach v)), some (.ref a), none, none, none, none] H
    unfold t__law_wide Vw.d
    simp only [zSeq, zNext, zIf, zTest, zNot, zAnd, zOr, zIfE, zIsN, isN, zOp, zV, zC, nth, put, zgName, zAsg, zRet, zDrop, zCall, zCons, zNil, zTup, zLst, bEq, bNe, bIx, bCmp, bLt, bLe, bGt, bGe, zChain, zCB, rLenZ, size, bAdd, bSub, bMod, bDiv, scalD, eqD, few0, few1, few2, few3, few4, few5, few6, few7, few8, few9, few10, it0, it1, it2, it3, it4, wE, zRz, true_and, and_true, decide_true, decide_false, Bool.not_true, Bool.not_false, Bool.true_and, Bool.false_and, Bool.true_or, Bool.false_or, Zy.strs?, bIn, List.any_cons, List.any_nil, wq0_1, wq0_2, wq0_3, wq0_4, wq0_5, wq0_6, wq0_7, wq0_8, wq0_9, wq0_10, wq0_11, wq0_12, wq1_0, wq1_2, wq1_3, wq1_4, wq1_5, wq1_6, wq1_7, wq1_8, wq1_9, wq1_10, wq1_11, wq1_12, wq2_0, wq2_1, wq2_3, wq2_4, wq2_5, wq2_6, wq2_7, wq2_8, wq2_9, wq2_10, wq2_11, wq2_12, wq3_0, wq3_1, wq3_2, wq3_4, wq3_5, wq3_6, wq3_7, wq3_8, wq3_9, wq3_10, wq3_11, wq3_12, wq4_0, wq4_1, wq4_2, wq4_3, wq4_5, wq4_6, wq4_7, wq4_8, wq4_9, wq4_10, wq4_11, wq4_12, wq5_0, wq5_1, wq5_2, wq5_3, wq5_4, wq5_6, wq5_7, wq5_8, wq5_9, wq5_10, wq5_11, wq5_12, wq6_0, wq6_1, wq6_2, wq6_3, wq6_4, wq6_5, wq6_7, wq6_8, wq6_9, wq6_10, wq6_11, wq6_12, wq7_0, wq7_1, wq7_2, wq7_3, wq7_4, wq7_5, wq7_6, wq7_8, wq7_9, wq7_10, wq7_11, wq7_12, wq8_0, wq8_1, wq8_2, wq8_3, wq8_4, wq8_5, wq8_6, wq8_7, wq8_9, wq8_10, wq8_11, wq8_12, wq9_0, wq9_1, wq9_2, wq9_3, wq9_4, wq9_5, wq9_6, wq9_7, wq9_8, wq10_0, wq10_1, wq10_2, wq10_3, wq10_4, wq10_5, wq10_6, wq10_7, wq10_8, wq11_0, wq11_1, wq11_2, wq11_3, wq11_4, wq11_5, wq11_6, wq11_7, wq11_8, wq12_0, wq12_1, wq12_2, wq12_3, wq12_4, wq12_5, wq12_6, wq12_7, wq12_8, List.map_cons, List.map_nil, List.cons_append, List.nil_append]
    have hd2 := hd
    unfold Vw.depth at hd2
    refine ⟨v, a, ws, rfl, ha, by omega, ?_⟩
    cases hm : wid ws v with
    | none =>
      rw [hm] at e
      rw [e] at h1
      simp only [oD_none, isN_non]
      exact fq (Sub.refl _) h1
    | some m =>
    replace e : wid ws (.reach v) = cap (wid1 m (.reach v)) := by rw [e, hm]
    simp only [oD_some, isN_int]
    refine ⟨.reach v, m, rfl, rfl, by omega, ?_⟩
    cases h3 : wid1 m (.reach v) with
    | none =>
      rw [h3] at e
      rw [e] at h1
      simp only [oD_none, isN_non]
      exact fq (Sub.refl _) h1
    | some k =>
      rw [h3] at e
      simp only [oD_some, isN_int]
      by_cases hk : k ≤ 40
      · rw [cap_some hk] at e
        rw [e] at h1
        simp only [hk, decide_true]
        exact fq (Sub.refl _) h1
      · rw [cap_big hk] at e
        rw [e] at h1
        simp only [hk, decide_false]
        exact fq (Sub.refl _) h1
  | both v u =>
    have e : wid ws (.both v u) = match wid ws v, wid ws u with | some w, some o => cap (wid2 w o (.both v u)) | _, _ => none := rfl
    show t__law_wide _ _ _ _ _ [some (Vw.d (.both v u)), some (.ref a), none, none, none, none] H
    unfold t__law_wide Vw.d
    simp only [zSeq, zNext, zIf, zTest, zNot, zAnd, zOr, zIfE, zIsN, isN, zOp, zV, zC, nth, put, zgName, zAsg, zRet, zDrop, zCall, zCons, zNil, zTup, zLst, bEq, bNe, bIx, bCmp, bLt, bLe, bGt, bGe, zChain, zCB, rLenZ, size, bAdd, bSub, bMod, bDiv, scalD, eqD, few0, few1, few2, few3, few4, few5, few6, few7, few8, few9, few10, it0, it1, it2, it3, it4, wE, zRz, true_and, and_true, decide_true, decide_false, Bool.not_true, Bool.not_false, Bool.true_and, Bool.false_and, Bool.true_or, Bool.false_or, Zy.strs?, bIn, List.any_cons, List.any_nil, wq0_1, wq0_2, wq0_3, wq0_4, wq0_5, wq0_6, wq0_7, wq0_8, wq0_9, wq0_10, wq0_11, wq0_12, wq1_0, wq1_2, wq1_3, wq1_4, wq1_5, wq1_6, wq1_7, wq1_8, wq1_9, wq1_10, wq1_11, wq1_12, wq2_0, wq2_1, wq2_3, wq2_4, wq2_5, wq2_6, wq2_7, wq2_8, wq2_9, wq2_10, wq2_11, wq2_12, wq3_0, wq3_1, wq3_2, wq3_4, wq3_5, wq3_6, wq3_7, wq3_8, wq3_9, wq3_10, wq3_11, wq3_12, wq4_0, wq4_1, wq4_2, wq4_3, wq4_5, wq4_6, wq4_7, wq4_8, wq4_9, wq4_10, wq4_11, wq4_12, wq5_0, wq5_1, wq5_2, wq5_3, wq5_4, wq5_6, wq5_7, wq5_8, wq5_9, wq5_10, wq5_11, wq5_12, wq6_0, wq6_1, wq6_2, wq6_3, wq6_4, wq6_5, wq6_7, wq6_8, wq6_9, wq6_10, wq6_11, wq6_12, wq7_0, wq7_1, wq7_2, wq7_3, wq7_4, wq7_5, wq7_6, wq7_8, wq7_9, wq7_10, wq7_11, wq7_12, wq8_0, wq8_1, wq8_2, wq8_3, wq8_4, wq8_5, wq8_6, wq8_7, wq8_9, wq8_10, wq8_11, wq8_12, wq9_0, wq9_1, wq9_2, wq9_3, wq9_4, wq9_5, wq9_6, wq9_7, wq9_8, wq10_0, wq10_1, wq10_2, wq10_3, wq10_4, wq10_5, wq10_6, wq10_7, wq10_8, wq11_0, wq11_1, wq11_2, wq11_3, wq11_4, wq11_5, wq11_6, wq11_7, wq11_8, wq12_0, wq12_1, wq12_2, wq12_3, wq12_4, wq12_5, wq12_6, wq12_7, wq12_8, List.map_cons, List.map_nil, List.cons_append, List.nil_append]
    have hd2 := hd
    unfold Vw.depth at hd2
    refine ⟨v, a, ws, rfl, ha, by omega, ?_⟩
    cases hm : wid ws v with
    | none =>
      rw [hm] at e
      rw [e] at h1
      simp only [oD_none, isN_non]
      exact fq (Sub.refl _) h1
    | some m =>
    simp only [oD_some, isN_int]
    refine ⟨u, a, ws, rfl, ha, by omega, ?_⟩
    cases hm2 : wid ws u with
    | none =>
      rw [hm, hm2] at e
      rw [e] at h1
      simp only [oD_none, isN_non]
      exact fq (Sub.refl _) h1
    | some o =>
    replace e : wid ws (.both v u) = cap (wid2 m o (.both v u)) := by rw [e, hm, hm2]
    simp only [oD_some, isN_int, decide_true, decide_false, Bool.not_true, Bool.not_false]
    by_cases hw : m = o
    · have e3 : wid2 m o (.both v u) = some m := if_pos hw
      rw [e3] at e
      simp only [hw, decide_true]
      subst hw
      by_cases hk : m ≤ 40
      · rw [cap_some hk] at e
        rw [e] at h1
        simp only [hk, decide_true, decide_false, isN_int, Bool.not_true, Bool.not_false]
        exact ⟨trivial, fq (Sub.refl _) h1⟩
      · rw [cap_big hk] at e
        rw [e] at h1
        simp only [hk, decide_true, decide_false, isN_int, Bool.not_true, Bool.not_false]
        exact ⟨trivial, fq (Sub.refl _) h1⟩
    · have e3 : wid2 m o (.both v u) = none := if_neg hw
      rw [e3] at e
      rw [e] at h1
      simp only [hw, decide_false, isN_non]
      exact ⟨trivial, fq (Sub.refl _) h1⟩
  | less v u =>
    have e : wid ws (.less v u) = match wid ws v, wid ws u with | some w, some o => cap (wid2 w o (.less v u)) | _, _ => none := rfl
    show t__law_wide _ _ _ _ _ [some (Vw.d (.less v u)), some (.ref a), none, none, none, none] H
    unfold t__law_wide Vw.d
    simp only [zSeq, zNext, zIf, zTest, zNot, zAnd, zOr, zIfE, zIsN, isN, zOp, zV, zC, nth, put, zgName, zAsg, zRet, zDrop, zCall, zCons, zNil, zTup, zLst, bEq, bNe, bIx, bCmp, bLt, bLe, bGt, bGe, zChain, zCB, rLenZ, size, bAdd, bSub, bMod, bDiv, scalD, eqD, few0, few1, few2, few3, few4, few5, few6, few7, few8, few9, few10, it0, it1, it2, it3, it4, wE, zRz, true_and, and_true, decide_true, decide_false, Bool.not_true, Bool.not_false, Bool.true_and, Bool.false_and, Bool.true_or, Bool.false_or, Zy.strs?, bIn, List.any_cons, List.any_nil, wq0_1, wq0_2, wq0_3, wq0_4, wq0_5, wq0_6, wq0_7, wq0_8, wq0_9, wq0_10, wq0_11, wq0_12, wq1_0, wq1_2, wq1_3, wq1_4, wq1_5, wq1_6, wq1_7, wq1_8, wq1_9, wq1_10, wq1_11, wq1_12, wq2_0, wq2_1, wq2_3, wq2_4, wq2_5, wq2_6, wq2_7, wq2_8, wq2_9, wq2_10, wq2_11, wq2_12, wq3_0, wq3_1, wq3_2, wq3_4, wq3_5, wq3_6, wq3_7, wq3_8, wq3_9, wq3_10, wq3_11, wq3_12, wq4_0, wq4_1, wq4_2, wq4_3, wq4_5, wq4_6, wq4_7, wq4_8, wq4_9, wq4_10, wq4_11, wq4_12, wq5_0, wq5_1, wq5_2, wq5_3, wq5_4, wq5_6, wq5_7, wq5_8, wq5_9, wq5_10, wq5_11, wq5_12, wq6_0, wq6_1, wq6_2, wq6_3, wq6_4, wq6_5, wq6_7, wq6_8, wq6_9, wq6_10, wq6_11, wq6_12, wq7_0, wq7_1, wq7_2, wq7_3, wq7_4, wq7_5, wq7_6, wq7_8, wq7_9, wq7_10, wq7_11, wq7_12, wq8_0, wq8_1, wq8_2, wq8_3, wq8_4, wq8_5, wq8_6, wq8_7, wq8_9, wq8_10, wq8_11, wq8_12, wq9_0, wq9_1, wq9_2, wq9_3, wq9_4, wq9_5, wq9_6, wq9_7, wq9_8, wq10_0, wq10_1, wq10_2, wq10_3, wq10_4, wq10_5, wq10_6, wq10_7, wq10_8, wq11_0, wq11_1, wq11_2, wq11_3, wq11_4, wq11_5, wq11_6, wq11_7, wq11_8, wq12_0, wq12_1, wq12_2, wq12_3, wq12_4, wq12_5, wq12_6, wq12_7, wq12_8, List.map_cons, List.map_nil, List.cons_append, List.nil_append]
    have hd2 := hd
    unfold Vw.depth at hd2
    refine ⟨v, a, ws, rfl, ha, by omega, ?_⟩
    cases hm : wid ws v with
    | none =>
      rw [hm] at e
      rw [e] at h1
      simp only [oD_none, isN_non]
      exact fq (Sub.refl _) h1
    | some m =>
    simp only [oD_some, isN_int]
    refine ⟨u, a, ws, rfl, ha, by omega, ?_⟩
    cases hm2 : wid ws u with
    | none =>
      rw [hm, hm2] at e
      rw [e] at h1
      simp only [oD_none, isN_non]
      exact fq (Sub.refl _) h1
    | some o =>
    replace e : wid ws (.less v u) = cap (wid2 m o (.less v u)) := by rw [e, hm, hm2]
    simp only [oD_some, isN_int, decide_true, decide_false, Bool.not_true, Bool.not_false]
    by_cases hw : m = o
    · have e3 : wid2 m o (.less v u) = some m := if_pos hw
      rw [e3] at e
      simp only [hw, decide_true]
      subst hw
      by_cases hk : m ≤ 40
      · rw [cap_some hk] at e
        rw [e] at h1
        simp only [hk, decide_true, decide_false, isN_int, Bool.not_true, Bool.not_false]
        exact ⟨trivial, fq (Sub.refl _) h1⟩
      · rw [cap_big hk] at e
        rw [e] at h1
        simp only [hk, decide_true, decide_false, isN_int, Bool.not_true, Bool.not_false]
        exact ⟨trivial, fq (Sub.refl _) h1⟩
    · have e3 : wid2 m o (.less v u) = none := if_neg hw
      rw [e3] at e
      rw [e] at h1
      simp only [hw, decide_false, isN_non]
      exact ⟨trivial, fq (Sub.refl _) h1⟩
  | meet v u ps =>
    have e : wid ws (.meet v u ps) = match wid ws v, wid ws u with | some w, some o => cap (wid2 w o (.meet v u ps)) | _, _ => none := rfl
    show t__law_wide _ _ _ _ _ [some (Vw.d (.meet v u ps)), some (.ref a), none, none, none, none] H
    unfold t__law_wide Vw.d
    simp only [zSeq, zNext, zIf, zTest, zNot, zAnd, zOr, zIfE, zIsN, isN, zOp, zV, zC, nth, put, zgName, zAsg, zRet, zDrop, zCall, zCons, zNil, zTup, zLst, bEq, bNe, bIx, bCmp, bLt, bLe, bGt, bGe, zChain, zCB, rLenZ, size, bAdd, bSub, bMod, bDiv, scalD, eqD, few0, few1, few2, few3, few4, few5, few6, few7, few8, few9, few10, it0, it1, it2, it3, it4, wE, zRz, true_and, and_true, decide_true, decide_false, Bool.not_true, Bool.not_false, Bool.true_and, Bool.false_and, Bool.true_or, Bool.false_or, Zy.strs?, bIn, List.any_cons, List.any_nil, wq0_1, wq0_2, wq0_3, wq0_4, wq0_5, wq0_6, wq0_7, wq0_8, wq0_9, wq0_10, wq0_11, wq0_12, wq1_0, wq1_2, wq1_3, wq1_4, wq1_5, wq1_6, wq1_7, wq1_8, wq1_9, wq1_10, wq1_11, wq1_12, wq2_0, wq2_1, wq2_3, wq2_4, wq2_5, wq2_6, wq2_7, wq2_8, wq2_9, wq2_10, wq2_11, wq2_12, wq3_0, wq3_1, wq3_2, wq3_4, wq3_5, wq3_6, wq3_7, wq3_8, wq3_9, wq3_10, wq3_11, wq3_12, wq4_0, wq4_1, wq4_2, wq4_3, wq4_5, wq4_6, wq4_7, wq4_8, wq4_9, wq4_10, wq4_11, wq4_12, wq5_0, wq5_1, wq5_2, wq5_3, wq5_4, wq5_6, wq5_7, wq5_8, wq5_9, wq5_10, wq5_11, wq5_12, wq6_0, wq6_1, wq6_2, wq6_3, wq6_4, wq6_5, wq6_7, wq6_8, wq6_9, wq6_10, wq6_11, wq6_12, wq7_0, wq7_1, wq7_2, wq7_3, wq7_4, wq7_5, wq7_6, wq7_8, wq7_9, wq7_10, wq7_11, wq7_12, wq8_0, wq8_1, wq8_2, wq8_3, wq8_4, wq8_5, wq8_6, wq8_7, wq8_9, wq8_10, wq8_11, wq8_12, wq9_0, wq9_1, wq9_2, wq9_3, wq9_4, wq9_5, wq9_6, wq9_7, wq9_8, wq10_0, wq10_1, wq10_2, wq10_3, wq10_4, wq10_5, wq10_6, wq10_7, wq10_8, wq11_0, wq11_1, wq11_2, wq11_3, wq11_4, wq11_5, wq11_6, wq11_7, wq11_8, wq12_0, wq12_1, wq12_2, wq12_3, wq12_4, wq12_5, wq12_6, wq12_7, wq12_8, List.map_cons, List.map_nil, List.cons_append, List.nil_append]
    have hd2 := hd
    unfold Vw.depth at hd2
    refine ⟨v, a, ws, rfl, ha, by omega, ?_⟩
    cases hm : wid ws v with
    | none =>
      rw [hm] at e
      rw [e] at h1
      simp only [oD_none, isN_non]
      exact fq (Sub.refl _) h1
    | some m =>
    simp only [oD_some, isN_int]
    refine ⟨u, a, ws, rfl, ha, by omega, ?_⟩
    cases hm2 : wid ws u with
    | none =>
      rw [hm, hm2] at e
      rw [e] at h1
      simp only [oD_none, isN_non]
      exact fq (Sub.refl _) h1
    | some o =>
    replace e : wid ws (.meet v u ps) = cap (wid2 m o (.meet v u ps)) := by rw [e, hm, hm2]
    simp only [oD_some, isN_int, decide_true, decide_false, Bool.not_true, Bool.not_false]
    have hl : ps.length ≤ 1000 := by omega
    rw [wid2_meet] at e
    refine comp_pairs (v := v) (u := u) (ps := ps) (f := (·.1)) (g := pk1) rfl (fun _ => rfl) hl (fun _ _ => it0) (fun _ => rfl) fun p hp => ?_
    refine ⟨_, m, ps.map (·.1), rfl, by unfold seqZ; simp only [set_same], ?_⟩
    cases e1 : (ps.map (·.1)).all (inR m) with
    | false =>
      rw [if_neg (by simp [e1])] at e
      rw [e] at h1
      simp only [isN_non]
      exact fq (Sub.new hp) h1
    | true =>
    simp only []
    refine comp_pairs (v := v) (u := u) (ps := ps) (f := (·.2)) (g := pk2) rfl (fun _ => rfl) hl (fun _ _ => it1) (fun _ => rfl) fun p2 hp2 => ?_
    refine ⟨_, o, ps.map (·.2), rfl, by unfold seqZ; simp only [set_same], ?_⟩
    cases e2 : (ps.map (·.2)).all (inR o) with
    | false =>
      rw [if_neg (by simp [e2])] at e
      rw [e] at h1
      simp only [isN_non]
      exact fq ((Sub.new hp).trans (Sub.new hp2)) h1
    | true =>
      rw [if_pos ⟨e1, e2⟩] at e
      simp only []
      by_cases hk : (m + o) ≤ 40
      · rw [cap_some hk] at e
        rw [e] at h1
        simp only [hk, decide_true, decide_false, isN_int, Bool.not_true, Bool.not_false]
        exact fq ((Sub.new hp).trans (Sub.new hp2)) h1
      · rw [cap_big hk] at e
        rw [e] at h1
        simp only [hk, decide_true, decide_false, isN_int, Bool.not_true, Bool.not_false]
        exact fq ((Sub.new hp).trans (Sub.new hp2)) h1
  | odd0 v u =>
    show t__law_wide _ _ _ _ _ [some (Vw.d (.odd0 v u)), some (.ref a), none, none, none, none] H
    unfold t__law_wide Vw.d
    simp only [zSeq, zNext, zIf, zTest, zNot, zAnd, zOr, zIfE, zIsN, isN, zOp, zV, zC, nth, put, zgName, zAsg, zRet, zDrop, zCall, zCons, zNil, zTup, zLst, bEq, bNe, bIx, bCmp, bLt, bLe, bGt, bGe, zChain, zCB, rLenZ, size, bAdd, bSub, bMod, bDiv, scalD, eqD, few0, few1, few2, few3, few4, few5, few6, few7, few8, few9, few10, it0, it1, it2, it3, it4, wE, zRz, true_and, and_true, decide_true, decide_false, Bool.not_true, Bool.not_false, Bool.true_and, Bool.false_and, Bool.true_or, Bool.false_or, Zy.strs?, bIn, List.any_cons, List.any_nil, wq0_1, wq0_2, wq0_3, wq0_4, wq0_5, wq0_6, wq0_7, wq0_8, wq0_9, wq0_10, wq0_11, wq0_12, wq1_0, wq1_2, wq1_3, wq1_4, wq1_5, wq1_6, wq1_7, wq1_8, wq1_9, wq1_10, wq1_11, wq1_12, wq2_0, wq2_1, wq2_3, wq2_4, wq2_5, wq2_6, wq2_7, wq2_8, wq2_9, wq2_10, wq2_11, wq2_12, wq3_0, wq3_1, wq3_2, wq3_4, wq3_5, wq3_6, wq3_7, wq3_8, wq3_9, wq3_10, wq3_11, wq3_12, wq4_0, wq4_1, wq4_2, wq4_3, wq4_5, wq4_6, wq4_7, wq4_8, wq4_9, wq4_10, wq4_11, wq4_12, wq5_0, wq5_1, wq5_2, wq5_3, wq5_4, wq5_6, wq5_7, wq5_8, wq5_9, wq5_10, wq5_11, wq5_12, wq6_0, wq6_1, wq6_2, wq6_3, wq6_4, wq6_5, wq6_7, wq6_8, wq6_9, wq6_10, wq6_11, wq6_12, wq7_0, wq7_1, wq7_2, wq7_3, wq7_4, wq7_5, wq7_6, wq7_8, wq7_9, wq7_10, wq7_11, wq7_12, wq8_0, wq8_1, wq8_2, wq8_3, wq8_4, wq8_5, wq8_6, wq8_7, wq8_9, wq8_10, wq8_11, wq8_12, wq9_0, wq9_1, wq9_2, wq9_3, wq9_4, wq9_5, wq9_6, wq9_7, wq9_8, wq10_0, wq10_1, wq10_2, wq10_3, wq10_4, wq10_5, wq10_6, wq10_7, wq10_8, wq11_0, wq11_1, wq11_2, wq11_3, wq11_4, wq11_5, wq11_6, wq11_7, wq11_8, wq12_0, wq12_1, wq12_2, wq12_3, wq12_4, wq12_5, wq12_6, wq12_7, wq12_8, List.map_cons, List.map_nil, List.cons_append, List.nil_append]
    exact fq (Sub.refl _) h1
  | odd1 v u =>
    show t__law_wide _ _ _ _ _ [some (Vw.d (.odd1 v u)), some (.ref a), none, none, none, none] H
    unfold t__law_wide Vw.d
    simp only [zSeq, zNext, zIf, zTest, zNot, zAnd, zOr, zIfE, zIsN, isN, zOp, zV, zC, nth, put, zgName, zAsg, zRet, zDrop, zCall, zCons, zNil, zTup, zLst, bEq, bNe, bIx, bCmp, bLt, bLe, bGt, bGe, zChain, zCB, rLenZ, size, bAdd, bSub, bMod, bDiv, scalD, eqD, few0, few1, few2, few3, few4, few5, few6, few7, few8, few9, few10, it0, it1, it2, it3, it4, wE, zRz, true_and, and_true, decide_true, decide_false, Bool.not_true, Bool.not_false, Bool.true_and, Bool.false_and, Bool.true_or, Bool.false_or, Zy.strs?, bIn, List.any_cons, List.any_nil, wq0_1, wq0_2, wq0_3, wq0_4, wq0_5, wq0_6, wq0_7, wq0_8, wq0_9, wq0_10, wq0_11, wq0_12, wq1_0, wq1_2, wq1_3, wq1_4, wq1_5, wq1_6, wq1_7, wq1_8, wq1_9, wq1_10, wq1_11, wq1_12, wq2_0, wq2_1, wq2_3, wq2_4, wq2_5, wq2_6, wq2_7, wq2_8, wq2_9, wq2_10, wq2_11, wq2_12, wq3_0, wq3_1, wq3_2, wq3_4, wq3_5, wq3_6, wq3_7, wq3_8, wq3_9, wq3_10, wq3_11, wq3_12, wq4_0, wq4_1, wq4_2, wq4_3, wq4_5, wq4_6, wq4_7, wq4_8, wq4_9, wq4_10, wq4_11, wq4_12, wq5_0, wq5_1, wq5_2, wq5_3, wq5_4, wq5_6, wq5_7, wq5_8, wq5_9, wq5_10, wq5_11, wq5_12, wq6_0, wq6_1, wq6_2, wq6_3, wq6_4, wq6_5, wq6_7, wq6_8, wq6_9, wq6_10, wq6_11, wq6_12, wq7_0, wq7_1, wq7_2, wq7_3, wq7_4, wq7_5, wq7_6, wq7_8, wq7_9, wq7_10, wq7_11, wq7_12, wq8_0, wq8_1, wq8_2, wq8_3, wq8_4, wq8_5, wq8_6, wq8_7, wq8_9, wq8_10, wq8_11, wq8_12, wq9_0, wq9_1, wq9_2, wq9_3, wq9_4, wq9_5, wq9_6, wq9_7, wq9_8, wq10_0, wq10_1, wq10_2, wq10_3, wq10_4, wq10_5, wq10_6, wq10_7, wq10_8, wq11_0, wq11_1, wq11_2, wq11_3, wq11_4, wq11_5, wq11_6, wq11_7, wq11_8, wq12_0, wq12_1, wq12_2, wq12_3, wq12_4, wq12_5, wq12_6, wq12_7, wq12_8, List.map_cons, List.map_nil, List.cons_append, List.nil_append]
    exact fq (Sub.refl _) h1
  | odd2 v u =>
    show t__law_wide _ _ _ _ _ [some (Vw.d (.odd2 v u)), some (.ref a), none, none, none, none] H
    unfold t__law_wide Vw.d
    simp only [zSeq, zNext, zIf, zTest, zNot, zAnd, zOr, zIfE, zIsN, isN, zOp, zV, zC, nth, put, zgName, zAsg, zRet, zDrop, zCall, zCons, zNil, zTup, zLst, bEq, bNe, bIx, bCmp, bLt, bLe, bGt, bGe, zChain, zCB, rLenZ, size, bAdd, bSub, bMod, bDiv, scalD, eqD, few0, few1, few2, few3, few4, few5, few6, few7, few8, few9, few10, it0, it1, it2, it3, it4, wE, zRz, true_and, and_true, decide_true, decide_false, Bool.not_true, Bool.not_false, Bool.true_and, Bool.false_and, Bool.true_or, Bool.false_or, Zy.strs?, bIn, List.any_cons, List.any_nil, wq0_1, wq0_2, wq0_3, wq0_4, wq0_5, wq0_6, wq0_7, wq0_8, wq0_9, wq0_10, wq0_11, wq0_12, wq1_0, wq1_2, wq1_3, wq1_4, wq1_5, wq1_6, wq1_7, wq1_8, wq1_9, wq1_10, wq1_11, wq1_12, wq2_0, wq2_1, wq2_3, wq2_4, wq2_5, wq2_6, wq2_7, wq2_8, wq2_9, wq2_10, wq2_11, wq2_12, wq3_0, wq3_1, wq3_2, wq3_4, wq3_5, wq3_6, wq3_7, wq3_8, wq3_9, wq3_10, wq3_11, wq3_12, wq4_0, wq4_1, wq4_2, wq4_3, wq4_5, wq4_6, wq4_7, wq4_8, wq4_9, wq4_10, wq4_11, wq4_12, wq5_0, wq5_1, wq5_2, wq5_3, wq5_4, wq5_6, wq5_7, wq5_8, wq5_9, wq5_10, wq5_11, wq5_12, wq6_0, wq6_1, wq6_2, wq6_3, wq6_4, wq6_5, wq6_7, wq6_8, wq6_9, wq6_10, wq6_11, wq6_12, wq7_0, wq7_1, wq7_2, wq7_3, wq7_4, wq7_5, wq7_6, wq7_8, wq7_9, wq7_10, wq7_11, wq7_12, wq8_0, wq8_1, wq8_2, wq8_3, wq8_4, wq8_5, wq8_6, wq8_7, wq8_9, wq8_10, wq8_11, wq8_12, wq9_0, wq9_1, wq9_2, wq9_3, wq9_4, wq9_5, wq9_6, wq9_7, wq9_8, wq10_0, wq10_1, wq10_2, wq10_3, wq10_4, wq10_5, wq10_6, wq10_7, wq10_8, wq11_0, wq11_1, wq11_2, wq11_3, wq11_4, wq11_5, wq11_6, wq11_7, wq11_8, wq12_0, wq12_1, wq12_2, wq12_3, wq12_4, wq12_5, wq12_6, wq12_7, wq12_8, List.map_cons, List.map_nil, List.cons_append, List.nil_append]
    exact fq (Sub.refl _) h1
  | odd3 v u =>
    show t__law_wide _ _ _ _ _ [some (Vw.d (.odd3 v u)), some (.ref a), none, none, none, none] H
    unfold t__law_wide Vw.d
    simp only [zSeq, zNext, zIf, zTest, zNot, zAnd, zOr, zIfE, zIsN, isN, zOp, zV, zC, nth, put, zgName, zAsg, zRet, zDrop, zCall, zCons, zNil, zTup, zLst, bEq, bNe, bIx, bCmp, bLt, bLe, bGt, bGe, zChain, zCB, rLenZ, size, bAdd, bSub, bMod, bDiv, scalD, eqD, few0, few1, few2, few3, few4, few5, few6, few7, few8, few9, few10, it0, it1, it2, it3, it4, wE, zRz, true_and, and_true, decide_true, decide_false, Bool.not_true, Bool.not_false, Bool.true_and, Bool.false_and, Bool.true_or, Bool.false_or, Zy.strs?, bIn, List.any_cons, List.any_nil, wq0_1, wq0_2, wq0_3, wq0_4, wq0_5, wq0_6, wq0_7, wq0_8, wq0_9, wq0_10, wq0_11, wq0_12, wq1_0, wq1_2, wq1_3, wq1_4, wq1_5, wq1_6, wq1_7, wq1_8, wq1_9, wq1_10, wq1_11, wq1_12, wq2_0, wq2_1, wq2_3, wq2_4, wq2_5, wq2_6, wq2_7, wq2_8, wq2_9, wq2_10, wq2_11, wq2_12, wq3_0, wq3_1, wq3_2, wq3_4, wq3_5, wq3_6, wq3_7, wq3_8, wq3_9, wq3_10, wq3_11, wq3_12, wq4_0, wq4_1, wq4_2, wq4_3, wq4_5, wq4_6, wq4_7, wq4_8, wq4_9, wq4_10, wq4_11, wq4_12, wq5_0, wq5_1, wq5_2, wq5_3, wq5_4, wq5_6, wq5_7, wq5_8, wq5_9, wq5_10, wq5_11, wq5_12, wq6_0, wq6_1, wq6_2, wq6_3, wq6_4, wq6_5, wq6_7, wq6_8, wq6_9, wq6_10, wq6_11, wq6_12, wq7_0, wq7_1, wq7_2, wq7_3, wq7_4, wq7_5, wq7_6, wq7_8, wq7_9, wq7_10, wq7_11, wq7_12, wq8_0, wq8_1, wq8_2, wq8_3, wq8_4, wq8_5, wq8_6, wq8_7, wq8_9, wq8_10, wq8_11, wq8_12, wq9_0, wq9_1, wq9_2, wq9_3, wq9_4, wq9_5, wq9_6, wq9_7, wq9_8, wq10_0, wq10_1, wq10_2, wq10_3, wq10_4, wq10_5, wq10_6, wq10_7, wq10_8, wq11_0, wq11_1, wq11_2, wq11_3, wq11_4, wq11_5, wq11_6, wq11_7, wq11_8, wq12_0, wq12_1, wq12_2, wq12_3, wq12_4, wq12_5, wq12_6, wq12_7, wq12_8, List.map_cons, List.map_nil, List.cons_append, List.nil_append]
    exact fq (Sub.refl _) h1
end K06
set_option Elab.async false
set_option linter.all false
set_option maxRecDepth 100000
set_option maxHeartbeats 1000000
namespace K06
open PySem PySem.Spec PyProof.Rows L2 Zy
/-! ### expressions whose value is known, whatever the heap; lists may be laid -/
def Pw (s : Sg) (te : TEz) (d : D) : Prop := ∀ (H : ZH) (Q : WP), (∀ H', Sub H H' → Q d H') → te s H Q
def PwA (s : Sg) (ua : TAz) (ds : List D) : Prop := ∀ (H : ZH) (Q : List D → ZH → Prop), (∀ H', Sub H H' → Q ds H') → ua s H Q
section
variable {s : Sg} {ta tb te : TEz} {ua : TAz} {d : D} {ds xs : List D} {i : Nat} {a b : Int}
theorem pw_C : Pw s (zC d) d := fun H Q q => q H (Sub.refl H)
theorem pw_V (h : nth s i = some d) : Pw s (zV i) d := fun H Q q => by unfold zV; rw [h]; exact q H (Sub.refl H)
theorem pw_nil : PwA s zNil [] := fun H Q q => q H (Sub.refl H)
theorem pw_cons (h : Pw s te d) (r : PwA s ua ds) : PwA s (zCons te ua) (d :: ds) := fun H Q q => h H _ fun H1 s1 => r H1 _ fun H2 s2 => q H2 (s1.trans s2)
theorem pw_tup (h : PwA s ua ds) (hf : few ds) : Pw s (zTup ua) (.tup ds) := fun H Q q => h H _ fun H1 s1 => ⟨hf, q H1 s1⟩
theorem pw_add (h1 : Pw s ta (.int a)) (h2 : Pw s tb (.int b)) : Pw s (zOp bAdd ta tb) (.int (a + b)) := fun H Q q => h1 H _ fun H1 s1 => h2 H1 _ fun H2 s2 => q H2 (s1.trans s2)
theorem pw_sub (h1 : Pw s ta (.int a)) (h2 : Pw s tb (.int b)) : Pw s (zOp bSub ta tb) (.int (a - b)) := fun H Q q => h1 H _ fun H1 s1 => h2 H1 _ fun H2 s2 => q H2 (s1.trans s2)
theorem pw_mod (h1 : Pw s ta (.int a)) (h2 : Pw s tb (.int b)) (hb : 0 < b) : Pw s (zOp bMod ta tb) (.int (a % b)) := fun H Q q => h1 H _ fun H1 s1 => h2 H1 _ fun H2 s2 => ⟨hb, q H2 (s1.trans s2)⟩
theorem pw_div (h1 : Pw s ta (.int a)) (h2 : Pw s tb (.int b)) (hb : 0 < b) (hb2 : b < 1073741824) : Pw s (zOp bDiv ta tb) (.int (a / b)) := fun H Q q => h1 H _ fun H1 s1 => h2 H1 _ fun H2 s2 => ⟨hb, hb2, q H2 (s1.trans s2)⟩
theorem pw_neg (h1 : Pw s ta (.int a)) : Pw s (zNeg ta) (.int (-a)) := fun H Q q => h1 H _ fun H1 s1 => q H1 s1
theorem lst_go {H : ZH} {Q : WP} (h : PwA s ua xs) (hf : few xs) (q : ∀ p H', Sub H H' → H' p = some (.lst xs) → Q (.ref p) H') : zLst ua s H Q := h H _ fun H1 s1 => ⟨hf, fun p hp => q p _ (s1.trans (Sub.new hp)) set_same⟩
theorem ix_ref {H : ZH} {p : Addr} {xs : List D} {i : Int} (h : H p = some (.lst xs)) : item H (.ref p) (.int i) = atI xs i := by unfold item; simp only [h]
theorem pw_ixl {i : Int} (h : PwA s ua xs) (hf : few xs) (hi : Pw s te (.int i)) (hx : atI xs i = some d) : Pw s (zOp bIx (zLst ua) te) d := fun H Q q => lst_go h hf fun p H1 s1 e1 => hi H1 _ fun H2 s2 => by
  unfold bIx
  rw [ix_ref (s2 _ _ e1), hx]
  exact q H2 (s1.trans s2)
theorem ix_go {H : ZH} {Q : WP} {p : Addr} {i' : Int} (hv : nth s i = some (.ref p)) (hp : H p = some (.lst xs)) (hi : Pw s te (.int i')) (hx : atI xs i' = some d) (q : ∀ H', Sub H H' → Q d H') : zOp bIx (zV i) te s H Q := by
  refine pw_V hv H _ fun H1 s1 => hi H1 _ fun H2 s2 => ?_
  unfold bIx
  rw [ix_ref ((s1.trans s2) _ _ hp), hx]
  exact q H2 (s1.trans s2)
theorem add_go {H : ZH} {Q : WP} {p : Addr} {ys : List D} (hv : nth s i = some (.ref p)) (hp : H p = some (.lst xs)) (h : PwA s ua ys) (hf : few ys) (hl : xs.length + ys.length ≤ 1000) (q : ∀ p' H', Sub H H' → H' p' = some (.lst (xs ++ ys)) → Q (.ref p') H') : zOp bAdd (zV i) (zLst ua) s H Q := by
  refine pw_V hv H _ fun H1 s1 => lst_go h hf fun p2 H2 s2 e2 => ?_
  unfold bAdd
  dsimp only
  rw [(s1.trans s2) _ _ hp, e2]
  exact ⟨few_size hl, fun p3 hp3 => q p3 _ ((s1.trans s2).trans (Sub.new hp3)) set_same⟩
theorem st_asg {u : TSz} {D : Ez} {H : ZH} (h : te s H fun x H1 => u D (put s i (some x)) H1) : zSeq (zAsg te (zgName i)) u D s H := h
end
theorem st_ret {s : Sg} {te : TEz} {D : Ez} {H : ZH} (h : te s H D.rt) : zRet te D s H := h
theorem at_in {α : Type} {xs : List α} {i : Int} (h0 : 0 ≤ i) (h1 : i < xs.length) : ∃ d, atI xs i = some d ∧ d ∈ xs := ⟨xs[i.toNat]'(by omega), by rw [atI_ok h0 h1, List.getElem?_eq_getElem (by omega)], List.getElem_mem _⟩
section
variable {α : Type} {a b c d e f g h i j : α} {r : List α}
theorem at5 : atI (a :: b :: c :: d :: e :: f :: r) 5 = some f := by rw [atI_ok (by omega) (by simp only [List.length_cons]; omega)]; rfl
theorem at6 : atI (a :: b :: c :: d :: e :: f :: g :: r) 6 = some g := by rw [atI_ok (by omega) (by simp only [List.length_cons]; omega)]; rfl
theorem at7 : atI (a :: b :: c :: d :: e :: f :: g :: h :: r) 7 = some h := by rw [atI_ok (by omega) (by simp only [List.length_cons]; omega)]; rfl
theorem at8 : atI (a :: b :: c :: d :: e :: f :: g :: h :: i :: r) 8 = some i := by rw [atI_ok (by omega) (by simp only [List.length_cons]; omega)]; rfl
theorem at9 : atI (a :: b :: c :: d :: e :: f :: g :: h :: i :: j :: r) 9 = some j := by rw [atI_ok (by omega) (by simp only [List.length_cons]; omega)]; rfl
end
theorem r_odd (ds : List D) (H : ZH) (Q : WP) (E : XZ) (h : sp_odd ds H Q E) : t__law_odd E (fin Q) (startZ 5 ds) H := by
  obtain ⟨c, v, rfl, hq⟩ := h
  show t__law_odd _ _ [some (.int c), some v.d, none, none, none] H
  obtain ⟨fd, hF, hf⟩ := at_in (xs := [D.int (-1), .int 1, .int 2, .int 3, .int 40, .int (-40), .int 0]) (i := c / 10 % 7) (by omega) (by simp only [List.length_cons, List.length_nil]; omega)
  have hf2 : ∃ F : Int, fd = .int F := by
    simp only [List.mem_cons, List.not_mem_nil, or_false] at hf
    rcases hf with h | h | h | h | h | h | h <;> exact ⟨_, h⟩
  obtain ⟨F, rfl⟩ := hf2
  obtain ⟨td, hT, ht⟩ := at_in (xs := [D.int (2 + F), .int (0 - 1 - c / 140 % 9)]) (i := c / 70 % 2) (by omega) (by simp only [List.length_cons, List.length_nil]; omega)
  have ht2 : ∃ T : Int, td = .int T := by
    simp only [List.mem_cons, List.not_mem_nil, or_false] at ht
    rcases ht with h | h <;> exact ⟨_, h⟩
  obtain ⟨T, rfl⟩ := ht2
  obtain ⟨W, hW, hw⟩ := at_in (xs := [D.str "Table", .str "", .str "join", .str "meets"]) (i := c / 70 % 4) (by omega) (by simp only [List.length_cons, List.length_nil]; omega)
  unfold t__law_odd
  refine st_asg ((pw_ixl (pw_cons (pw_neg pw_C) (pw_cons pw_C (pw_cons pw_C (pw_cons pw_C (pw_cons pw_C (pw_cons (pw_neg pw_C) (pw_cons pw_C pw_nil))))))) rfl (pw_mod (pw_div (pw_V rfl) pw_C (by omega) (by omega)) pw_C (by omega)) hF) H _ fun H1 s1 => ?_)
  refine st_asg ((pw_ixl (pw_cons (pw_add pw_C (pw_V rfl)) (pw_cons (pw_sub (pw_sub pw_C pw_C) (pw_mod (pw_div (pw_V rfl) pw_C (by omega) (by omega)) pw_C (by omega))) pw_nil)) rfl (pw_mod (pw_div (pw_V rfl) pw_C (by omega) (by omega)) pw_C (by omega)) hT) H1 _ fun H2 s2 => ?_)
  refine st_asg (lst_go (pw_cons (pw_tup (pw_cons pw_C (pw_cons (pw_V rfl) pw_nil)) rfl) (pw_cons (pw_tup (pw_cons pw_C (pw_cons (pw_V rfl) (pw_cons (pw_add pw_C (pw_V rfl)) (pw_cons pw_C (pw_cons pw_C pw_nil))))) rfl) (pw_cons (pw_tup (pw_cons pw_C (pw_cons (pw_V rfl) (pw_cons (pw_tup (pw_cons pw_C (pw_cons (pw_add pw_C (pw_V rfl)) pw_nil)) rfl) pw_nil))) rfl) (pw_cons (pw_tup (pw_cons pw_C (pw_cons (pw_V rfl) (pw_cons (pw_tup pw_nil rfl) pw_nil))) rfl) pw_nil)))) rfl fun p3 H3 s3 e3 => ?_)
  refine st_asg (add_go rfl e3 (pw_cons (pw_tup (pw_cons pw_C (pw_cons (pw_V rfl) (pw_cons (pw_tup (pw_cons pw_C pw_nil) rfl) (pw_cons (pw_add pw_C (pw_V rfl)) pw_nil)))) rfl) (pw_cons (pw_tup (pw_cons pw_C (pw_cons (pw_V rfl) (pw_cons (pw_tup (pw_cons pw_C (pw_cons (pw_add pw_C (pw_V rfl)) pw_nil)) rfl) (pw_cons pw_C pw_nil)))) rfl) (pw_cons (pw_tup (pw_cons pw_C (pw_cons (pw_V rfl) pw_nil)) rfl) pw_nil))) rfl (by simp only [List.length_cons, List.length_nil]; omega) fun p4 H4 s4 e4 => ?_)
  refine st_asg (add_go rfl e4 (pw_cons (pw_tup (pw_cons pw_C (pw_cons (pw_V rfl) (pw_cons (pw_V rfl) (pw_cons (pw_tup (pw_cons (pw_tup (pw_cons pw_C (pw_cons pw_C pw_nil)) rfl) (pw_cons (pw_tup (pw_cons (pw_add pw_C (pw_V rfl)) (pw_cons pw_C pw_nil)) rfl) pw_nil)) rfl) pw_nil)))) rfl) pw_nil) rfl (by simp only [List.length_append, List.length_cons, List.length_nil]; omega) fun p5 H5 s5 e5 => ?_)
  refine st_asg (add_go rfl e5 (pw_cons (pw_tup (pw_cons pw_C (pw_cons (pw_V rfl) (pw_cons (pw_tup (pw_cons pw_C (pw_cons (pw_V rfl) (pw_cons (pw_tup (pw_cons pw_C pw_nil) rfl) pw_nil))) rfl) (pw_cons (pw_tup (pw_cons (pw_tup (pw_cons pw_C (pw_cons (pw_add pw_C (pw_V rfl)) pw_nil)) rfl) pw_nil) rfl) pw_nil)))) rfl) pw_nil) rfl (by simp only [List.length_append, List.length_cons, List.length_nil]; omega) fun p6 H6 s6 e6 => ?_)
  refine st_asg (add_go rfl e6 (pw_cons (pw_tup (pw_cons (pw_ixl (pw_cons pw_C (pw_cons pw_C (pw_cons pw_C (pw_cons pw_C pw_nil)))) rfl (pw_mod (pw_div (pw_V rfl) pw_C (by omega) (by omega)) pw_C (by omega)) hW) (pw_cons (pw_V rfl) (pw_cons (pw_V rfl) pw_nil))) rfl) pw_nil) rfl (by simp only [List.length_append, List.length_cons, List.length_nil]; omega) fun p7 H7 s7 e7 => ?_)
  have sb : Sub H H7 := (((((s1.trans s2).trans s3).trans s4).trans s5).trans s6).trans s7
  simp only [List.cons_append, List.nil_append] at e7
  have eL := e7
  have hqo : Q (.tup [W, v.d, v.d]) H := by
    simp only [List.mem_cons, List.not_mem_nil, or_false] at hw
    rcases hw with h | h | h | h <;> subst h
    · exact hq (.odd0 v v) (by simp only [Vw.depth]; omega)
    · exact hq (.odd1 v v) (by simp only [Vw.depth]; omega)
    · exact hq (.odd2 v v) (by simp only [Vw.depth]; omega)
    · exact hq (.odd3 v v) (by simp only [Vw.depth]; omega)
  have hx : c % 10 = 0 ∨ c % 10 = 1 ∨ c % 10 = 2 ∨ c % 10 = 3 ∨ c % 10 = 4 ∨ c % 10 = 5 ∨ c % 10 = 6 ∨ c % 10 = 7 ∨ c % 10 = 8 ∨ c % 10 = 9 := by omega
  rcases hx with h | h | h | h | h | h | h | h | h | h
  · exact st_ret (ix_go (i := 4) rfl eL (pw_mod (pw_V rfl) pw_C (by omega)) (by rw [h]; exact at0) fun H8 s8 => ⟨H, sb.trans s8, hq (.table T) (by first | omega | (simp only [Vw.depth, List.length_cons, List.length_nil]; omega))⟩)
  · exact st_ret (ix_go (i := 4) rfl eL (pw_mod (pw_V rfl) pw_C (by omega)) (by rw [h]; exact at1) fun H8 s8 => ⟨H, sb.trans s8, hq (.within v (1 + F) (.int 0) (.int 1)) (by first | omega | (simp only [Vw.depth, List.length_cons, List.length_nil]; omega))⟩)
  · exact st_ret (ix_go (i := 4) rfl eL (pw_mod (pw_V rfl) pw_C (by omega)) (by rw [h]; exact at2) fun H8 s8 => ⟨H, sb.trans s8, hq (.columns v [0, 1 + F]) (by first | omega | (simp only [Vw.depth, List.length_cons, List.length_nil]; omega))⟩)
  · exact st_ret (ix_go (i := 4) rfl eL (pw_mod (pw_V rfl) pw_C (by omega)) (by rw [h]; exact at3) fun H8 s8 => ⟨H, sb.trans s8, hq (.columns v []) (by first | omega | (simp only [Vw.depth, List.length_cons, List.length_nil]; omega))⟩)
  · exact st_ret (ix_go (i := 4) rfl eL (pw_mod (pw_V rfl) pw_C (by omega)) (by rw [h]; exact at4) fun H8 s8 => ⟨H, sb.trans s8, hq (.sums v [0] (1 + F)) (by first | omega | (simp only [Vw.depth, List.length_cons, List.length_nil]; omega))⟩)
  · exact st_ret (ix_go (i := 4) rfl eL (pw_mod (pw_V rfl) pw_C (by omega)) (by rw [h]; exact at5) fun H8 s8 => ⟨H, sb.trans s8, hq (.sums v [0, 1 + F] 0) (by first | omega | (simp only [Vw.depth, List.length_cons, List.length_nil]; omega))⟩)
  · exact st_ret (ix_go (i := 4) rfl eL (pw_mod (pw_V rfl) pw_C (by omega)) (by rw [h]; exact at6) fun H8 s8 => ⟨H, sb.trans s8, hq (.reach v) (by first | omega | (simp only [Vw.depth, List.length_cons, List.length_nil]; omega))⟩)
  · exact st_ret (ix_go (i := 4) rfl eL (pw_mod (pw_V rfl) pw_C (by omega)) (by rw [h]; exact at7) fun H8 s8 => ⟨H, sb.trans s8, hq (.meet v v [(0, 0), (1 + F, 0)]) (by first | omega | (simp only [Vw.depth, List.length_cons, List.length_nil]; omega))⟩)
  · exact st_ret (ix_go (i := 4) rfl eL (pw_mod (pw_V rfl) pw_C (by omega)) (by rw [h]; exact at8) fun H8 s8 => ⟨H, sb.trans s8, hq (.meet v (.columns v [0]) [(0, 1 + F)]) (by first | omega | (simp only [Vw.depth, List.length_cons, List.length_nil]; omega))⟩)
  · exact st_ret (ix_go (i := 4) rfl eL (pw_mod (pw_V rfl) pw_C (by omega)) (by rw [h]; exact at9) fun H8 s8 => ⟨H, sb.trans s8, hqo⟩)
theorem r_wrapped (ds : List D) (H : ZH) (Q : WP) (E : XZ) (h : sp_wrapped ds H Q E) : t__law_wrapped E (fin Q) (startZ 4 ds) H := by
  obtain ⟨c, v, u, rfl, hq⟩ := h
  show t__law_wrapped _ _ [some (.int c), some v.d, some u.d, none] H
  unfold t__law_wrapped
  refine st_asg (lst_go (pw_cons (pw_V rfl) (pw_cons (pw_tup (pw_cons pw_C (pw_cons (pw_V rfl) pw_nil)) rfl) (pw_cons (pw_tup (pw_cons pw_C (pw_cons (pw_V rfl) (pw_cons (pw_V rfl) pw_nil))) rfl) (pw_cons (pw_tup (pw_cons pw_C (pw_cons (pw_V rfl) (pw_cons (pw_V rfl) pw_nil))) rfl) (pw_cons (pw_tup (pw_cons pw_C (pw_cons (pw_V rfl) (pw_cons (pw_V rfl) (pw_cons (pw_tup pw_nil rfl) pw_nil)))) rfl) (pw_cons (pw_tup (pw_cons pw_C (pw_cons (pw_V rfl) pw_nil)) rfl) pw_nil)))))) rfl fun p1 H1 s1 e1 => ?_)
  refine st_asg (add_go rfl e1 (pw_cons (pw_tup (pw_cons pw_C (pw_cons (pw_V rfl) (pw_cons (pw_tup (pw_cons pw_C pw_nil) rfl) pw_nil))) rfl) (pw_cons (pw_tup (pw_cons pw_C (pw_cons (pw_V rfl) (pw_cons (pw_tup pw_nil rfl) (pw_cons pw_C pw_nil)))) rfl) (pw_cons (pw_tup (pw_cons pw_C (pw_cons (pw_V rfl) (pw_cons (pw_V rfl) pw_nil))) rfl) pw_nil))) rfl (by simp only [List.length_cons, List.length_nil]; omega) fun p2 H2 s2 e2 => ?_)
  have sb : Sub H H2 := s1.trans s2
  simp only [List.cons_append, List.nil_append] at e2
  have eL := e2
  have hx : c % 9 = 0 ∨ c % 9 = 1 ∨ c % 9 = 2 ∨ c % 9 = 3 ∨ c % 9 = 4 ∨ c % 9 = 5 ∨ c % 9 = 6 ∨ c % 9 = 7 ∨ c % 9 = 8 := by omega
  rcases hx with h | h | h | h | h | h | h | h | h
  · exact st_ret (ix_go (i := 3) rfl eL (pw_mod (pw_V rfl) pw_C (by omega)) (by rw [h]; exact at0) fun H8 s8 => ⟨H, sb.trans s8, hq (u) (by first | omega | (simp only [Vw.depth, List.length_cons, List.length_nil]; omega))⟩)
  · exact st_ret (ix_go (i := 3) rfl eL (pw_mod (pw_V rfl) pw_C (by omega)) (by rw [h]; exact at1) fun H8 s8 => ⟨H, sb.trans s8, hq (.once u) (by first | omega | (simp only [Vw.depth, List.length_cons, List.length_nil]; omega))⟩)
  · exact st_ret (ix_go (i := 3) rfl eL (pw_mod (pw_V rfl) pw_C (by omega)) (by rw [h]; exact at2) fun H8 s8 => ⟨H, sb.trans s8, hq (.both v u) (by first | omega | (simp only [Vw.depth, List.length_cons, List.length_nil]; omega))⟩)
  · exact st_ret (ix_go (i := 3) rfl eL (pw_mod (pw_V rfl) pw_C (by omega)) (by rw [h]; exact at3) fun H8 s8 => ⟨H, sb.trans s8, hq (.less u v) (by first | omega | (simp only [Vw.depth, List.length_cons, List.length_nil]; omega))⟩)
  · exact st_ret (ix_go (i := 3) rfl eL (pw_mod (pw_V rfl) pw_C (by omega)) (by rw [h]; exact at4) fun H8 s8 => ⟨H, sb.trans s8, hq (.meet v u []) (by first | omega | (simp only [Vw.depth, List.length_cons, List.length_nil]; omega))⟩)
  · exact st_ret (ix_go (i := 3) rfl eL (pw_mod (pw_V rfl) pw_C (by omega)) (by rw [h]; exact at5) fun H8 s8 => ⟨H, sb.trans s8, hq (.reach u) (by first | omega | (simp only [Vw.depth, List.length_cons, List.length_nil]; omega))⟩)
  · exact st_ret (ix_go (i := 3) rfl eL (pw_mod (pw_V rfl) pw_C (by omega)) (by rw [h]; exact at6) fun H8 s8 => ⟨H, sb.trans s8, hq (.columns u [0]) (by first | omega | (simp only [Vw.depth, List.length_cons, List.length_nil]; omega))⟩)
  · exact st_ret (ix_go (i := 3) rfl eL (pw_mod (pw_V rfl) pw_C (by omega)) (by rw [h]; exact at7) fun H8 s8 => ⟨H, sb.trans s8, hq (.sums u [] 0) (by first | omega | (simp only [Vw.depth, List.length_cons, List.length_nil]; omega))⟩)
  · exact st_ret (ix_go (i := 3) rfl eL (pw_mod (pw_V rfl) pw_C (by omega)) (by rw [h]; exact at8) fun H8 s8 => ⟨H, sb.trans s8, hq (.both u u) (by first | omega | (simp only [Vw.depth, List.length_cons, List.length_nil]; omega))⟩)
end K06
set_option Elab.async false
set_option linter.all false
set_option maxRecDepth 100000
set_option maxHeartbeats 4000000
namespace K06
open PySem PySem.Spec PyProof.Rows L2 Zy
theorem itS {H : ZH} {p : Addr} {xs : List D} {i : Int} : item (set H p (.lst xs)) (.ref p) (.int i) = atI xs i := by unfold item; simp only [set_same]
theorem r_whole (ds : List D) (H : ZH) (Q : WP) (E : XZ) (h : sp_whole ds H Q E) : t__law_whole E (fin Q) (startZ 1 ds) H := by
  obtain ⟨n, rfl, h1⟩ := h
  exact ⟨_, Sub.refl _, h1⟩
theorem r_at (ds : List D) (H : ZH) (Q : WP) (E : XZ) (h : sp_at ds H Q E) : t__law_at E (fin Q) (startZ 2 ds) H := by
  obtain ⟨ns, k, rfl, h0, h1⟩ := h
  show t__law_at _ _ [some (.scr ns), some (.int k)] H
  unfold t__law_at
  simp only [zSeq, zNext, zIf, zTest, zNot, zAnd, zOr, zIfE, zIsN, isN, zOp, zV, zC, nth, put, zgName, zAsg, zRet, zDrop, zCall, zCons, zNil, zTup, zLst, bEq, bNe, bIx, bCmp, bLt, bLe, bGt, bGe, zChain, zCB, rLenZ, size, bAdd, bSub, bMod, bDiv, scalD, eqD, few0, few1, few2, few3, few4, few5, few6, few7, few8, few9, few10, it0, it1, it2, it3, it4, wE, zRz, true_and, and_true, decide_true, decide_false, Bool.not_true, Bool.not_false, Bool.true_and, Bool.false_and, Bool.true_or, Bool.false_or, Zy.strs?, bIn, List.any_cons, List.any_nil, itS, at0, at1, at2, at3, at4, at5, at6, at7, at8, at9, Int.reduceLT, Int.reduceEq, Int.reduceSub, Int.reduceNeg, List.map_cons, List.map_nil, List.cons_append, List.nil_append]
  by_cases hk : k < ns.length
  · simp only [hk, decide_true]
    have e : item H (.scr ns) (.int k) = some (.int (ns[k.toNat]'(by omega))) := by
      unfold item
      dsimp only
      rw [atI_ok h0 hk, List.getElem?_eq_getElem (by omega)]
      rfl
    simp only [e]
    exact ⟨_, Sub.refl _, h1 _⟩
  · simp only [hk, decide_false]
    exact ⟨_, Sub.refl _, h1 _⟩
theorem rng_len {n : Nat} : (rng n).length = n := by simp [rng]
theorem seq_set {H : ZH} {p : Addr} {xs : List D} : seqZ (set H p (.lst xs)) (.ref p) = some xs := by unfold seqZ; simp only [set_same]
theorem r_some (ds : List D) (H : ZH) (Q : WP) (E : XZ) (h : sp_some ds H Q E) : t__law_some E (fin Q) (startZ 5 ds) H := by
  obtain ⟨c, m, w, rfl, h0, h1, h2, hq⟩ := h
  show t__law_some _ _ [some (.int c), some (.int m), some (.int w), none, none] H
  unfold t__law_some
  simp only [zSeq, zNext, zIf, zTest, zNot, zAnd, zOr, zIfE, zIsN, isN, zOp, zV, zC, nth, put, zgName, zAsg, zRet, zDrop, zCall, zCons, zNil, zTup, zLst, bEq, bNe, bIx, bCmp, bLt, bLe, bGt, bGe, zChain, zCB, rLenZ, size, bAdd, bSub, bMod, bDiv, scalD, eqD, few0, few1, few2, few3, few4, few5, few6, few7, few8, few9, few10, it0, it1, it2, it3, it4, wE, zRz, true_and, and_true, decide_true, decide_false, Bool.not_true, Bool.not_false, Bool.true_and, Bool.false_and, Bool.true_or, Bool.false_or, Zy.strs?, bIn, List.any_cons, List.any_nil, itS, at0, at1, at2, at3, at4, at5, at6, at7, at8, at9, Int.reduceLT, Int.reduceEq, Int.reduceSub, Int.reduceNeg, List.map_cons, List.map_nil, List.cons_append, List.nil_append]
  intro p hp
  unfold zFor
  refine ⟨h0, by omega, ?_⟩
  refine ⟨fun rest s' H' => ∃ (c' : Int) (x : Option D) (r : List Int), s' = [some (.int c'), some (.int m), some (.int w), some (.ref p), x] ∧ H' = set H p (.lst (r.map D.int)) ∧ r.length + rest.length = m.toNat, ⟨c, none, [], rfl, rfl, ?_⟩, ?_, ?_⟩
  · rw [rng_len]; simp
  · rintro s' H' ⟨c', x, r, rfl, rfl, hl⟩
    refine ⟨trivial, ?_⟩
    simp only [zSeq, zNext, zIf, zTest, zNot, zAnd, zOr, zIfE, zIsN, isN, zOp, zV, zC, nth, put, zgName, zAsg, zRet, zDrop, zCall, zCons, zNil, zTup, zLst, bEq, bNe, bIx, bCmp, bLt, bLe, bGt, bGe, zChain, zCB, rLenZ, size, bAdd, bSub, bMod, bDiv, scalD, eqD, few0, few1, few2, few3, few4, few5, few6, few7, few8, few9, few10, it0, it1, it2, it3, it4, wE, zRz, true_and, and_true, decide_true, decide_false, Bool.not_true, Bool.not_false, Bool.true_and, Bool.false_and, Bool.true_or, Bool.false_or, Zy.strs?, bIn, List.any_cons, List.any_nil, itS, at0, at1, at2, at3, at4, at5, at6, at7, at8, at9, Int.reduceLT, Int.reduceEq, Int.reduceSub, Int.reduceNeg, List.map_cons, List.map_nil, List.cons_append, List.nil_append, rTupZ, seq_set]
    exact ⟨H, Sub.new hp, hq r (by simp only [List.length_nil] at hl; omega)⟩
  · rintro y rest s' H' ⟨c', x, r, rfl, rfl, hl⟩
    refine ⟨trivial, ?_⟩
    simp only [zSeq, zNext, zIf, zTest, zNot, zAnd, zOr, zIfE, zIsN, isN, zOp, zV, zC, nth, put, zgName, zAsg, zRet, zDrop, zCall, zCons, zNil, zTup, zLst, bEq, bNe, bIx, bCmp, bLt, bLe, bGt, bGe, zChain, zCB, rLenZ, size, bAdd, bSub, bMod, bDiv, scalD, eqD, few0, few1, few2, few3, few4, few5, few6, few7, few8, few9, few10, it0, it1, it2, it3, it4, wE, zRz, true_and, and_true, decide_true, decide_false, Bool.not_true, Bool.not_false, Bool.true_and, Bool.false_and, Bool.true_or, Bool.false_or, Zy.strs?, bIn, List.any_cons, List.any_nil, itS, at0, at1, at2, at3, at4, at5, at6, at7, at8, at9, Int.reduceLT, Int.reduceEq, Int.reduceSub, Int.reduceNeg, List.map_cons, List.map_nil, List.cons_append, List.nil_append, zAppend, set_same, h2]
    refine ⟨⟨_, rfl⟩, few_size (by simp only [List.length_map]; omega), _, _, r ++ [c' % w], rfl, ?_, ?_⟩
    · rw [set_set, map_snoc]
    · simp only [List.length_append, List.length_cons, List.length_nil] at hl ⊢; omega
theorem r_many (ds : List D) (H : ZH) (Q : WP) (E : XZ) (h : sp_many ds H Q E) : t__law_many E (fin Q) (startZ 3 ds) H := by
  obtain ⟨m, v, rfl, h0, h1, hq⟩ := h
  show t__law_many _ _ [some v.d, some (.int m), none] H
  unfold t__law_many
  simp only [zSeq, zNext, zIf, zTest, zNot, zAnd, zOr, zIfE, zIsN, isN, zOp, zV, zC, nth, put, zgName, zAsg, zRet, zDrop, zCall, zCons, zNil, zTup, zLst, bEq, bNe, bIx, bCmp, bLt, bLe, bGt, bGe, zChain, zCB, rLenZ, size, bAdd, bSub, bMod, bDiv, scalD, eqD, few0, few1, few2, few3, few4, few5, few6, few7, few8, few9, few10, it0, it1, it2, it3, it4, wE, zRz, true_and, and_true, decide_true, decide_false, Bool.not_true, Bool.not_false, Bool.true_and, Bool.false_and, Bool.true_or, Bool.false_or, Zy.strs?, bIn, List.any_cons, List.any_nil, itS, at0, at1, at2, at3, at4, at5, at6, at7, at8, at9, Int.reduceLT, Int.reduceEq, Int.reduceSub, Int.reduceNeg, List.map_cons, List.map_nil, List.cons_append, List.nil_append]
  unfold zFor
  refine ⟨h0, by omega, ?_⟩
  refine ⟨fun rest s' H' => ∃ (v' : Vw) (x : Option D), s' = [some v'.d, some (.int m), x] ∧ H' = H ∧ v'.depth + rest.length ≤ v.depth + 6, ⟨v, none, rfl, rfl, by rw [rng_len]; omega⟩, ?_, ?_⟩
  · rintro s' H' ⟨v', x, rfl, rfl, hl⟩
    exact ⟨trivial, _, Sub.refl _, hq v' (by omega)⟩
  · rintro y rest s' H' ⟨v', x, rfl, rfl, hl⟩
    refine ⟨trivial, ?_⟩
    simp only [zSeq, zNext, zIf, zTest, zNot, zAnd, zOr, zIfE, zIsN, isN, zOp, zV, zC, nth, put, zgName, zAsg, zRet, zDrop, zCall, zCons, zNil, zTup, zLst, bEq, bNe, bIx, bCmp, bLt, bLe, bGt, bGe, zChain, zCB, rLenZ, size, bAdd, bSub, bMod, bDiv, scalD, eqD, few0, few1, few2, few3, few4, few5, few6, few7, few8, few9, few10, it0, it1, it2, it3, it4, wE, zRz, true_and, and_true, decide_true, decide_false, Bool.not_true, Bool.not_false, Bool.true_and, Bool.false_and, Bool.true_or, Bool.false_or, Zy.strs?, bIn, List.any_cons, List.any_nil, itS, at0, at1, at2, at3, at4, at5, at6, at7, at8, at9, Int.reduceLT, Int.reduceEq, Int.reduceSub, Int.reduceNeg, List.map_cons, List.map_nil, List.cons_append, List.nil_append]
    refine ⟨.meet v' v' [], _, rfl, ?_⟩
    simp only [Vw.depth, List.length_cons, List.length_nil] at hl ⊢
    omega
end K06
set_option Elab.async false
set_option linter.all false
set_option maxRecDepth 100000
set_option maxHeartbeats 1000000
namespace K06
open PySem PySem.Spec PyProof.Rows L2 Zy
/-! ### tests, statements, by the values -/
def Pt (s : Sg) (tt : TTz) (b : Bool) : Prop := ∀ (H : ZH) (R : Bool → ZH → Prop), (∀ H', Sub H H' → R b H') → tt s H R
section
variable {s : Sg} {ta tb te : TEz} {tt uu : TTz} {ua : TAz} {d : D} {ds xs : List D} {i : Nat} {a b : Int} {p q : Bool} {t e u : TSz} {D : Ez} {H : ZH}
theorem pt_eqI (h1 : Pw s ta (.int a)) (h2 : Pw s tb (.int b)) : Pt s (zTest (zOp bEq ta tb)) (decide (a = b)) := fun H R r => h1 H _ fun H1 s1 => h2 H1 _ fun H2 s2 => ⟨rfl, r H2 (s1.trans s2)⟩
theorem pt_ltI (h1 : Pw s ta (.int a)) (h2 : Pw s tb (.int b)) : Pt s (zTest (zOp bLt ta tb)) (decide (a < b)) := fun H R r => h1 H _ fun H1 s1 => h2 H1 _ fun H2 s2 => r H2 (s1.trans s2)
theorem pt_gtI (h1 : Pw s ta (.int a)) (h2 : Pw s tb (.int b)) : Pt s (zTest (zOp bGt ta tb)) (decide (b < a)) := fun H R r => h1 H _ fun H1 s1 => h2 H1 _ fun H2 s2 => r H2 (s1.trans s2)
theorem pt_and (h1 : Pt s tt p) (h2 : Pt s uu q) : Pt s (zAnd tt uu) (p && q) := fun H R r => h1 H _ fun H1 s1 => by
  cases p with
  | true => exact h2 H1 _ fun H2 s2 => r H2 (s1.trans s2)
  | false => exact r H1 s1
theorem pt_or (h1 : Pt s tt p) (h2 : Pt s uu q) : Pt s (zOr tt uu) (p || q) := fun H R r => h1 H _ fun H1 s1 => by
  cases p with
  | true => exact r H1 s1
  | false => exact h2 H1 _ fun H2 s2 => r H2 (s1.trans s2)
theorem st_if (hc : Pt s tt p) (ht : p = true → ∀ H', Sub H H' → t ⟨u D, D.rt, D.bk, D.ct⟩ s H') (he : p = false → ∀ H', Sub H H' → e ⟨u D, D.rt, D.bk, D.ct⟩ s H') : zSeq (zIf tt t e) u D s H := hc H _ fun H' s1 => by
  cases p with
  | true => exact ht rfl H' s1
  | false => exact he rfl H' s1
theorem st_ifN (hc : Pt s tt p) (ht : p = true → ∀ H', Sub H H' → t ⟨u D, D.rt, D.bk, D.ct⟩ s H') (he : p = false → ∀ H', Sub H H' → u D s H') : zSeq (zIf tt t zNext) u D s H := st_if hc ht he
theorem st_ifRet (hc : Pt s tt p) (ht : p = true → ∀ H', Sub H H' → te s H' D.rt) (he : p = false → ∀ H', Sub H H' → u D s H') : zSeq (zIf tt (zRet te) zNext) u D s H := st_if hc ht he
theorem st_ifAsg (J : Zy.D → Prop) {d0 : Zy.D} (hc : Pt s tt p) (ht : p = true → ∀ H1, Sub H H1 → ∀ R : WP, (∀ x H2, J x → Sub H1 H2 → R x H2) → te s H1 R) (hn : p = false → J d0) (hs : put s i (some d0) = s)
    (hu : ∀ x H', J x → Sub H H' → u D (put s i (some x)) H') : zSeq (zIf tt (zAsg te (zgName i)) zNext) u D s H := hc H _ fun H1 s1 => by
  cases p with
  | true => exact ht rfl H1 s1 _ fun x H2 j s2 => hu x H2 j (s1.trans s2)
  | false =>
    have := hu d0 H1 (hn rfl) s1
    rw [hs] at this
    exact this
theorem st_asgP (h : Pw s te d) (k : ∀ H', Sub H H' → u D (put s i (some d)) H') : zSeq (zAsg te (zgName i)) u D s H := h H _ k
theorem st_retP (h : Pw s te d) (k : ∀ H', Sub H H' → D.rt d H') : zRet te D s H := h H _ k
theorem go_P {Q : WP} (h : Pw s te d) (k : ∀ H', Sub H H' → Q d H') : te s H Q := h H _ k
theorem call_go {sp : SpZ} {W : WZ} {Q : WP} (h : PwA s ua ds) (hq : ∀ H', Sub H H' → sp ds H' Q (fun C H2 => W C s H2)) : zCall sp W ua s H Q := h H _ fun H1 s1 => hq H1 s1
theorem pw_len {ys : List Zy.D} (h : Pw s te (.tup ys)) : Pw s (zCB rLenZ (zCons te zNil)) (.int ys.length) := fun H Q q => h H _ fun H1 s1 => q H1 s1
theorem pw_min (h1 : Pw s ta (.int a)) (h2 : Pw s tb (.int b)) : Pw s (zCB rMinZ (zCons ta (zCons tb zNil))) (.int (if b < a then b else a)) := fun H Q q => h1 H _ fun H1 s1 => h2 H1 _ fun H2 s2 => q H2 (s1.trans s2)
theorem pw_rg (h1 : Pw s ta (.int a)) (h0 : 0 ≤ a) (hm : a ≤ 1000) : Pw s (zTupRg ta) (.tup (rng a.toNat)) := fun H Q q => h1 H _ fun H1 s1 => ⟨h0, hm, q H1 s1⟩
theorem pw_mul (h1 : Pw s ta (.int a)) (h2 : Pw s tb (.int b)) (ok : IntMulOk a b) : Pw s (zOp bMulI ta tb) (.int (a * b)) := fun H Q q => h1 H _ fun H1 s1 => h2 H1 _ fun H2 s2 => ⟨ok, q H2 (s1.trans s2)⟩
/-- one value of several: a test of what is left -/
def Pm (s : Sg) (te : TEz) (J : Zy.D → Prop) : Prop := ∀ (H : ZH) (Q : WP), (∀ x H', J x → Sub H H' → Q x H') → te s H Q
theorem pw_ixT {ys : List Zy.D} {i' : Int} (h : Pw s ta (.tup ys)) (hi : Pw s tb (.int i')) (hx : atI ys i' = some d) : Pw s (zOp bIx ta tb) d := fun H Q q => h H _ fun H1 s1 => hi H1 _ fun H2 s2 => by
  have e : item H2 (.tup ys) (.int i') = some d := hx
  unfold bIx
  rw [e]
  exact q H2 (s1.trans s2)
theorem pm_tup3 {x y : Zy.D} {J : Zy.D → Prop} {tc : TEz} (h1 : Pw s ta x) (h2 : Pw s tb y) (h3 : Pm s tc J) (H : ZH) (Q : WP) (q : ∀ z H', J z → Sub H H' → Q (.tup [x, y, z]) H') : zTup (zCons ta (zCons tb (zCons tc zNil))) s H Q :=
  h1 H _ fun H1 s1 => h2 H1 _ fun H2 s2 => h3 H2 _ fun z H3 j s3 => ⟨rfl, q z H3 j ((s1.trans s2).trans s3)⟩
end
theorem rng_row {n : Nat} : (.tup (rng n) : D) = row ((List.range n).map fun (i : Nat) => (i : Int)) := by simp [rng, row, List.map_map]
theorem r_over_one (ds : List D) (H : ZH) (Q : WP) (E : XZ) (h : sp_over_one ds H Q E) : t__law_over_one sp_some E (fin Q) (startZ 10 ds) H := by
  obtain ⟨kind, rest, v, w, rfl, k0, k1, w0, w1, hq⟩ := h
  show t__law_over_one _ _ _ [some (.int kind), some (.int rest), some v.d, some (.int w), none, none, none, none, none, none] H
  have w2 : 0 < w := by omega
  have w3 : w < 1073741824 := by omega
  unfold t__law_over_one
  refine st_asgP (pw_mod (pw_V rfl) (pw_V rfl) w2) fun H1 s1 => ?_
  refine st_asgP (pw_div (pw_V rfl) (pw_V rfl) w2 w3) fun H2 s2 => ?_
  have sb2 : Sub H H2 := s1.trans s2
  refine st_ifN (pt_eqI (pw_V rfl) pw_C) (fun _ H3 s3 => ?_) fun n1 H3 s3 => ?_
  · refine st_asgP (pw_sub (pw_mod (pw_div (pw_V rfl) pw_C (by omega) (by omega)) pw_C (by omega)) pw_C) fun H4 s4 => ?_
    obtain ⟨nd, hx, hm⟩ := at_in (xs := [D.tup [.int (rest / w / 5 % 6 - 2), .int (rest / w / 5 % 6 - 2 + rest / w / 30 % 4)], .tup [.int (rest / w / 5 % 6 - 2), .non], .tup [.non, .int (rest / w / 5 % 6 - 2)], .tup [.int (rest / w / 5 % 6 - 2), .int (rest / w / 5 % 6 - 2)], .tup [.non, .non]]) (i := rest / w % 5) (by omega) (by simp only [List.length_cons, List.length_nil]; omega)
    have h2 : ∃ a b : D, nd = .tup [a, b] := by
      simp only [List.mem_cons, List.not_mem_nil, or_false] at hm
      rcases hm with h | h | h | h | h <;> exact ⟨_, _, h⟩
    obtain ⟨lo, hi, rfl⟩ := h2
    refine st_asgP (pw_ixl (pw_cons (pw_tup (pw_cons (pw_V rfl) (pw_cons (pw_add (pw_V rfl) (pw_mod (pw_div (pw_V rfl) pw_C (by omega) (by omega)) pw_C (by omega))) pw_nil)) rfl) (pw_cons (pw_tup (pw_cons (pw_V rfl) (pw_cons pw_C pw_nil)) rfl) (pw_cons (pw_tup (pw_cons pw_C (pw_cons (pw_V rfl) pw_nil)) rfl) (pw_cons (pw_tup (pw_cons (pw_V rfl) (pw_cons (pw_V rfl) pw_nil)) rfl) (pw_cons (pw_tup (pw_cons pw_C (pw_cons pw_C pw_nil)) rfl) pw_nil))))) rfl (pw_mod (pw_V rfl) pw_C (by omega)) hx) fun H5 s5 => ?_
    refine st_retP (pw_tup (pw_cons (pw_tup (pw_cons pw_C (pw_cons (pw_V rfl) (pw_cons (pw_V rfl) (pw_cons (pw_ixT (pw_V rfl) pw_C at0) (pw_cons (pw_ixT (pw_V rfl) pw_C at1) pw_nil))))) rfl) (pw_cons (pw_V rfl) pw_nil)) rfl) fun H6 s6 => ?_
    exact ⟨H, (((sb2.trans s3).trans s4).trans s5).trans s6, hq (.within v _ lo hi) w (by simp only [Vw.depth]; omega) w0 (.inl (Int.le_refl _))⟩
  refine st_ifN (pt_eqI (pw_V rfl) pw_C) (fun _ H4 s4 => ?_) fun n2 H4 s4 => ?_
  · refine st_asg (call_go (pw_cons (pw_div (pw_V rfl) pw_C (by omega) (by omega)) (pw_cons (pw_add pw_C (pw_mod (pw_V rfl) pw_C (by omega))) (pw_cons (pw_V rfl) pw_nil))) fun H5 s5 => ⟨_, _, _, rfl, by omega, by omega, w2, fun r hr => ?_⟩)
    refine st_retP (pw_tup (pw_cons (pw_tup (pw_cons pw_C (pw_cons (pw_V rfl) (pw_cons (pw_V rfl) pw_nil))) rfl) (pw_cons (pw_len (pw_V rfl)) pw_nil)) rfl) fun H6 s6 => ?_
    exact ⟨H, (((sb2.trans s3).trans s4).trans s5).trans s6, hq (.columns v r) _ (by simp only [Vw.depth]; omega) (by simp only [List.length_map]; omega) (by simp only [List.length_map]; omega)⟩
  have sb4 := (sb2.trans s3).trans s4
  have n1' : ¬ kind = 1 := of_decide_eq_false n1
  have n2' : ¬ kind = 2 := of_decide_eq_false n2
  refine st_ifAsg (d0 := v.d) (fun x => ∃ one : Vw, x = one.d ∧ one.depth ≤ v.depth + 2) (pt_and (pt_eqI (pw_mod (pw_V rfl) pw_C (by omega)) pw_C) (pt_and (pt_gtI (pw_V rfl) pw_C) (pt_gtI (pw_V rfl) pw_C))) (fun _ H5 s5 R hR => ?_) (fun _ => ⟨v, rfl, by omega⟩) rfl ?_
  · refine pm_tup3 pw_C (pw_V rfl) (J := fun x => ∃ r : List Int, x = .tup [.str "columns", v.d, row r]) (fun H Q q => ?_) H5 R ?_
    · refine pm_tup3 pw_C (pw_V rfl) (J := fun x => ∃ r : List Int, x = row r) (fun H Q q => ?_) H Q ?_
      · refine pw_V (d := .int w) rfl H _ fun H1 s1 => ⟨by omega, by omega, fun r _ _ => q _ H1 ⟨r, rfl⟩ s1⟩
      · rintro x H' ⟨r, rfl⟩ s
        exact q _ H' ⟨r, rfl⟩ s
    · rintro x H' ⟨r, rfl⟩ s
      exact hR _ H' ⟨.less v (.columns v r), rfl, by simp only [Vw.depth]; omega⟩ s
  rintro x H5 ⟨one, rfl, hd⟩ s5
  have sb5 := sb4.trans s5
  refine st_ifRet (pt_eqI (pw_V rfl) pw_C) (fun _ H6 s6 => ?_) fun n3 H6 s6 => ?_
  · refine go_P (pw_tup (pw_cons (pw_tup (pw_cons pw_C (pw_cons (pw_V rfl) pw_nil)) rfl) (pw_cons (pw_V rfl) pw_nil)) rfl) fun H7 s7 => ?_
    exact ⟨H, (sb5.trans s6).trans s7, hq (.once one) w (by simp only [Vw.depth]; omega) w0 (.inl (Int.le_refl _))⟩
  refine st_ifN (pt_eqI (pw_V rfl) pw_C) (fun _ H7 s7 => ?_) fun n4 H7 s7 => ?_
  · refine st_asg (call_go (pw_cons (pw_div (pw_V rfl) pw_C (by omega) (by omega)) (pw_cons (pw_mod (pw_div (pw_V rfl) pw_C (by omega) (by omega)) pw_C (by omega)) (pw_cons (pw_V rfl) pw_nil))) fun H8 s8 => ⟨_, _, _, rfl, by omega, by omega, w2, fun r hr => ?_⟩)
    refine st_retP (pw_tup (pw_cons (pw_tup (pw_cons pw_C (pw_cons (pw_V rfl) (pw_cons (pw_V rfl) (pw_cons (pw_V rfl) pw_nil)))) rfl) (pw_cons (pw_add (pw_len (pw_V rfl)) pw_C) pw_nil)) rfl) fun H9 s9 => ?_
    exact ⟨H, (((sb5.trans s6).trans s7).trans s8).trans s9, hq (.sums one r _) _ (by simp only [Vw.depth]; omega) (by simp only [List.length_map]; omega) (.inr (by simp only [List.length_map]; omega))⟩
  refine st_ifRet (pt_and (pt_eqI (pw_V rfl) pw_C) (pt_eqI (pw_mod (pw_V rfl) pw_C (by omega)) pw_C)) (fun _ H8 s8 => ?_) fun n5 H8 s8 => ?_
  · refine go_P (pw_tup (pw_cons (pw_tup (pw_cons pw_C (pw_cons (pw_V rfl) pw_nil)) rfl) (pw_cons pw_C pw_nil)) rfl) fun H9 s9 => ?_
    exact ⟨H, (((sb5.trans s6).trans s7).trans s8).trans s9, hq (.reach one) 2 (by simp only [Vw.depth]; omega) (by omega) (.inr (by omega))⟩
  refine st_retP (pw_tup (pw_cons (pw_tup (pw_cons pw_C (pw_cons (pw_tup (pw_cons pw_C (pw_cons (pw_V rfl) (pw_cons (pw_tup (pw_cons (pw_V rfl) (pw_cons (pw_mod (pw_V rfl) (pw_V rfl) w2) pw_nil)) rfl) pw_nil))) rfl) pw_nil)) rfl) (pw_cons pw_C pw_nil)) rfl) fun H9 s9 => ?_
  exact ⟨H, (((sb5.trans s6).trans s7).trans s8).trans s9, hq (.reach (.columns one [_, _])) 2 (by simp only [Vw.depth]; omega) (by omega) (.inr (by omega))⟩
end K06
set_option Elab.async false
set_option linter.all false
set_option maxRecDepth 100000
set_option maxHeartbeats 1000000
namespace K06
open PySem PySem.Spec PyProof.Rows L2 Zy
def ps2 (r1 r2 : List Int) : List (Int × Int) := (List.range r1.length).map fun i => (r1.getD i 0, r2.getD i 0)
def pkf (r1 r2 : List Int) : D → D
  | .int i => row [r1.getD i.toNat 0, r2.getD i.toNat 0]
  | _ => .non
theorem row_at {r : List Int} {i : Nat} (h : i < r.length) : atI (r.map D.int) (i : Int) = some (.int (r.getD i 0)) := by
  rw [atI_ok (by omega) (by simp only [List.length_map]; omega), List.getElem?_map, Int.toNat_natCast, List.getElem?_eq_getElem h]
  simp [List.getD, List.getElem?_eq_getElem h]
theorem pw_comp2 {s : Sg} {r1 r2 : List Int} (h7 : nth s 7 = some (row r1)) (hn : ∀ x, nth (put (put s 9 none) 9 (some x)) 9 = some x ∧ nth (put (put s 9 none) 9 (some x)) 7 = some (row r1) ∧ nth (put (put s 9 none) 9 (some x)) 8 = some (row r2)) (hl : r1.length ≤ 5) (he : r2.length = r1.length) :
    Pw s (zCB rTupZ (zCons (zComp (ziRange (zCB rLenZ (zCons (zV 7) zNil))) 9 (zTup (zCons (zOp bIx (zV 7) (zV 9)) (zCons (zOp bIx (zV 8) (zV 9)) zNil)))) zNil)) (.tup ((ps2 r1 r2).map fun p => row [p.1, p.2])) := fun H Q q => by
  show zComp _ _ _ _ H (fun x H1 => rTupZ [x] H1 Q)
  unfold zComp ziRange
  refine pw_len (pw_V h7) H _ fun H1 s1 => ?_
  refine ⟨by omega, by simp only [List.length_map]; omega, fun p hp => ?_⟩
  refine comp_pure (w := ziRange (zV 7)) (H := H1) (i := 9) (s := s) (te := zTup (zCons (zOp bIx (zV 7) (zV 9)) (zCons (zOp bIx (zV 8) (zV 9)) zNil))) (Q := fun x H1 => rTupZ [x] H1 Q) (items := rng ((r1.map D.int).length : Int).toNat) (pkf r1 r2) hp (by rw [rng_len]; exact few_size (by simp only [List.length_map]; omega)) (ok := fun _ => True) (fun _ => trivial) (fun x hx xs Q hq => ?_) ?_
  · obtain ⟨h9, h7', h8'⟩ := hn x
    unfold rng at hx
    obtain ⟨i, hi, rfl⟩ := List.mem_map.mp hx
    have hi' : i < r1.length := by
      have := List.mem_range.mp hi
      simpa using this
    have e1 : item (set H1 p (.lst xs)) (row r1) (.int i) = some (.int (r1.getD i 0)) := row_at hi'
    have e2 : item (set H1 p (.lst xs)) (row r2) (.int i) = some (.int (r2.getD i 0)) := row_at (by omega)
    simp only [zTup, zCons, zNil, zOp, zV, h9, h7', h8', bIx, e1, e2, few2, true_and]
    exact hq
  · unfold rTupZ
    simp only [seq_set]
    have e : (rng ((r1.map D.int).length : Int).toNat).map (pkf r1 r2) = (ps2 r1 r2).map fun p => row [p.1, p.2] := by
      unfold rng ps2
      rw [List.map_map, List.map_map, Int.toNat_natCast, List.length_map]
      refine List.map_congr_left fun i _ => ?_
      show pkf r1 r2 (.int (i : Int)) = row [r1.getD i 0, r2.getD i 0]
      unfold pkf
      simp only [Int.toNat_natCast]
    rw [e]
    exact q _ (s1.trans (Sub.new hp))
theorem r_over_two (ds : List D) (H : ZH) (Q : WP) (E : XZ) (h : sp_over_two ds H Q E) : t__law_over_two sp_some E (fin Q) (startZ 13 ds) H := by
  obtain ⟨kind, rest, v, w, u, o, rfl, k0, k1, w0, w1, o0, o1, hq⟩ := h
  show t__law_over_two _ _ _ [some (.int kind), some (.int rest), some v.d, some (.int w), some u.d, some (.int o), none, none, none, none, none, none, none] H
  have w2 : 0 < w := by omega
  have o2 : 0 < o := by omega
  have hW : ∀ (W : D), W ∈ [D.str "both", .str "less"] → ∀ (v' u' : Vw) (w' : Int), max v'.depth u'.depth ≤ max v.depth u.depth + 1 → 1 ≤ w' → (w' ≤ w + o ∨ w' ≤ 6) → Q (.tup [.tup [W, v'.d, u'.d], .int w']) H := by
    intro W hw v' u' w' hd h1 h2
    simp only [List.mem_cons, List.not_mem_nil, or_false] at hw
    rcases hw with h | h <;> subst h
    · exact hq (.both v' u') w' (by simp only [Vw.depth]; omega) h1 h2
    · exact hq (.less v' u') w' (by simp only [Vw.depth]; omega) h1 h2
  have hK : kind < 8 → ∃ W, atI [D.str "both", .str "less"] (kind - 6) = some W ∧ W ∈ [D.str "both", .str "less"] := fun h => at_in (by omega) (by simp only [List.length_cons, List.length_nil]; omega)
  unfold t__law_over_two
  refine st_ifRet (pt_and (pt_ltI (pw_V rfl) pw_C) (pt_and (pt_eqI (pw_V rfl) (pw_V rfl)) (pt_eqI (pw_mod (pw_V rfl) pw_C (by omega)) pw_C))) (fun c H1 s1 => ?_) fun n1 H1 s1 => ?_
  · obtain ⟨W, hx, hw⟩ := hK (of_decide_eq_true (Bool.and_eq_true_iff.mp c).1)
    refine go_P (pw_tup (pw_cons (pw_tup (pw_cons (pw_ixl (pw_cons pw_C (pw_cons pw_C pw_nil)) rfl (pw_sub (pw_V rfl) pw_C) hx) (pw_cons (pw_V rfl) (pw_cons (pw_V rfl) pw_nil))) rfl) (pw_cons (pw_V rfl) pw_nil)) rfl) fun H2 s2 => ?_
    exact ⟨H, s1.trans s2, hW W hw v u w (by omega) w0 (by omega)⟩
  refine st_ifN (pt_ltI (pw_V rfl) pw_C) (fun c H2 s2 => ?_) fun n2 H2 s2 => ?_
  · obtain ⟨W, hx, hw⟩ := hK (of_decide_eq_true c)
    have hm : 1 ≤ (if o < w then o else w) ∧ (if o < w then o else w) ≤ 48 := by split <;> omega
    refine st_asgP (pw_rg (pw_min (pw_V rfl) (pw_V rfl)) (by omega) (by omega)) fun H3 s3 => ?_
    refine st_retP (pw_tup (pw_cons (pw_tup (pw_cons (pw_ixl (pw_cons pw_C (pw_cons pw_C pw_nil)) rfl (pw_sub (pw_V rfl) pw_C) hx) (pw_cons (pw_tup (pw_cons pw_C (pw_cons (pw_V rfl) (pw_cons (pw_V rfl) pw_nil))) rfl) (pw_cons (pw_tup (pw_cons pw_C (pw_cons (pw_V rfl) (pw_cons (pw_V rfl) pw_nil))) rfl) pw_nil))) rfl) (pw_cons (pw_min (pw_V rfl) (pw_V rfl)) pw_nil)) rfl) fun H4 s4 => ?_
    refine ⟨H, ((s1.trans s2).trans s3).trans s4, ?_⟩
    rw [rng_row]
    exact hW W hw (.columns v _) (.columns u _) _ (by simp only [Vw.depth]; omega) hm.1 (by left; split <;> omega)
  have sb2 := s1.trans s2
  refine st_ifN (pt_eqI (pw_mod (pw_V rfl) pw_C (by omega)) pw_C) (fun c H3 s3 => ?_) fun n3 H3 s3 => ?_
  · refine st_asg (call_go (pw_cons (pw_div (pw_V rfl) pw_C (by omega) (by omega)) (pw_cons (pw_mod (pw_div (pw_V rfl) pw_C (by omega) (by omega)) pw_C (by omega)) (pw_cons (pw_V rfl) pw_nil))) fun H4 s4 => ⟨_, _, _, rfl, by omega, by omega, w2, fun r1 hr1 => ?_⟩)
    refine st_asg (call_go (pw_cons (pw_div (pw_V rfl) pw_C (by omega) (by omega)) (pw_cons (pw_mod (pw_div (pw_V rfl) pw_C (by omega) (by omega)) pw_C (by omega)) (pw_cons (pw_V rfl) pw_nil))) fun H5 s5 => ⟨_, _, _, rfl, by omega, by omega, o2, fun r2 hr2 => ?_⟩)
    refine st_retP (pw_tup (pw_cons (pw_tup (pw_cons pw_C (pw_cons (pw_V rfl) (pw_cons (pw_V rfl) (pw_cons (pw_comp2 (r1 := r1) (r2 := r2) rfl (fun _ => ⟨rfl, rfl, rfl⟩) (by omega) (by omega)) pw_nil)))) rfl) (pw_cons (pw_add (pw_V rfl) (pw_V rfl)) pw_nil)) rfl) fun H6 s6 => ?_
    exact ⟨H, (((sb2.trans s3).trans s4).trans s5).trans s6, hq (.meet v u (ps2 r1 r2)) (w + o) (by simp only [Vw.depth, ps2, List.length_map, List.length_range]; omega) (by omega) (.inl (Int.le_refl _))⟩
  refine st_asgP (pw_tup (pw_cons pw_C (pw_cons (pw_V rfl) (pw_cons (pw_tup (pw_cons (pw_mod (pw_V rfl) (pw_V rfl) w2) (pw_cons (pw_mod (pw_div (pw_V rfl) pw_C (by omega) (by omega)) (pw_V rfl) w2) pw_nil)) rfl) pw_nil))) rfl) fun H4 s4 => ?_
  refine st_asgP (pw_tup (pw_cons pw_C (pw_cons (pw_V rfl) (pw_cons (pw_tup (pw_cons (pw_mod (pw_div (pw_V rfl) pw_C (by omega) (by omega)) (pw_V rfl) o2) (pw_cons (pw_mod (pw_div (pw_V rfl) pw_C (by omega) (by omega)) (pw_V rfl) o2) pw_nil)) rfl) pw_nil))) rfl) fun H5 s5 => ?_
  obtain ⟨pd, hx, hm⟩ := at_in (xs := [D.tup [.tup [.int 0, .int 0]], .tup [.tup [.int 1, .int 0]], .tup [.tup [.int 0, .int 1], .tup [.int 1, .int 0]], .tup [], .tup [.tup [.int 0, .int 0], .tup [.int 1, .int 1]]]) (i := rest % 5) (by omega) (by simp only [List.length_cons, List.length_nil]; omega)
  have hp : ∃ ps : List (Int × Int), ps.length < 10 ∧ pd = .tup (ps.map fun p => row [p.1, p.2]) := by
    simp only [List.mem_cons, List.not_mem_nil, or_false] at hm
    rcases hm with h | h | h | h | h
    · exact ⟨[(0, 0)], by decide, h⟩
    · exact ⟨[(1, 0)], by decide, h⟩
    · exact ⟨[(0, 1), (1, 0)], by decide, h⟩
    · exact ⟨[], by decide, h⟩
    · exact ⟨[(0, 0), (1, 1)], by decide, h⟩
  obtain ⟨ps, hl, rfl⟩ := hp
  refine st_asgP (pw_ixl (pw_cons (pw_tup (pw_cons (pw_tup (pw_cons pw_C (pw_cons pw_C pw_nil)) rfl) pw_nil) rfl) (pw_cons (pw_tup (pw_cons (pw_tup (pw_cons pw_C (pw_cons pw_C pw_nil)) rfl) pw_nil) rfl) (pw_cons (pw_tup (pw_cons (pw_tup (pw_cons pw_C (pw_cons pw_C pw_nil)) rfl) (pw_cons (pw_tup (pw_cons pw_C (pw_cons pw_C pw_nil)) rfl) pw_nil)) rfl) (pw_cons (pw_tup pw_nil rfl) (pw_cons (pw_tup (pw_cons (pw_tup (pw_cons pw_C (pw_cons pw_C pw_nil)) rfl) (pw_cons (pw_tup (pw_cons pw_C (pw_cons pw_C pw_nil)) rfl) pw_nil)) rfl) pw_nil))))) rfl (pw_mod (pw_V rfl) pw_C (by omega)) hx) fun H6 s6 => ?_
  refine st_retP (pw_tup (pw_cons (pw_tup (pw_cons pw_C (pw_cons (pw_V rfl) (pw_cons (pw_V rfl) (pw_cons (pw_V rfl) pw_nil)))) rfl) (pw_cons pw_C pw_nil)) rfl) fun H7 s7 => ?_
  exact ⟨H, ((((sb2.trans s3).trans s4).trans s5).trans s6).trans s7, hq (.meet (.columns v [_, _]) (.columns u [_, _]) ps) 4 (by simp only [Vw.depth]; omega) (by omega) (.inr (by omega))⟩
end K06
set_option Elab.async false
set_option linter.all false
set_option maxRecDepth 100000
set_option maxHeartbeats 1000000
namespace K06
open PySem PySem.Spec PyProof.Rows L2 Zy
theorem st_asgG {te : TEz} {g : TGz} {u : TSz} {D : Ez} {s : Sg} {H : ZH} (h : te s H fun x H1 => g x s H1 (u D)) : zSeq (zAsg te g) u D s H := h
theorem g2_go {a b : D} {i j : Nat} {s : Sg} {H : ZH} {R : Sg → ZH → Prop} (h : R (put (put s i (some a)) j (some b)) H) : zgTup 2 (zgCons (zgName i) (zgCons (zgName j) zgNil)) (.tup [a, b]) s H R := ⟨rfl, h⟩
theorem table_go {s : Sg} {H : ZH} {Q : WP} {a : Addr} {ws : List Int} {r n : Int} (h1 : nth s 1 = some (.ref a)) (h7 : nth s 7 = some (.int r)) (ha : H a = some (.lst (ws.map D.int))) (h0 : (0 : Int) < ws.length) (hn : ws[(r % (ws.length : Int)).toNat]? = some n)
    (q : Q (.tup [.tup [.str "table", .int (r % (ws.length : Int))], .int n]) H) : zTup (zCons (zTup (zCons (zC (.str "table")) (zCons (zOp bMod (zV 7) (zCB rLenZ (zCons (zV 1) zNil))) zNil))) (zCons (zOp bIx (zV 1) (zOp bMod (zV 7) (zCB rLenZ (zCons (zV 1) zNil)))) zNil)) s H Q := by
  have hm0 : 0 ≤ r % (ws.length : Int) := Int.emod_nonneg _ (by omega)
  have hm1 : r % (ws.length : Int) < ws.length := Int.emod_lt_of_pos _ h0
  have e : item H (.ref a) (.int (r % (ws.length : Int))) = some (.int n) := at_ws ha hm0 hm1 hn
  simp only [zTup, zCons, zNil, zOp, zC, zV, h1, h7, bMod, zCB, rLenZ, size, ha, List.length_map, h0, true_and, bIx, e, few2]
  exact q
theorem r_view {n : Nat} (ds : List D) (H : ZH) (Q : WP) (E : XZ) (h : sp_view (n + 1) ds H Q E) : t__law_view sp_at (sp_view n) sp_over_one sp_over_two E (fin Q) (startZ 13 ds) H := by
  obtain ⟨ns, a, at_, deep, ws, rfl, ha, hne, hlen, hws, d0, d1, d2, a0, a1, hq⟩ := h
  show t__law_view _ _ _ _ _ _ [some (.scr ns), some (.ref a), some (.int 0), some (.int at_), some (.int deep), none, none, none, none, none, none, none, none] H
  have hl0 : (0 : Int) < ws.length := by
    cases ws with
    | nil => exact absurd rfl hne
    | cons _ _ => simp only [List.length_cons]; omega
  have mok : ∀ {i j : Int}, IntMulOk 5 0 := IntMulOk.of_left (by decide)
  unfold t__law_view
  refine st_asg (call_go (pw_cons (pw_V rfl) (pw_cons (pw_add pw_C (pw_mod (pw_add (pw_V rfl) (pw_mul pw_C (pw_V rfl) (IntMulOk.of_left (by decide)))) pw_C (by omega))) pw_nil)) fun H1 s1 => ⟨ns, _, rfl, by omega, fun cell => ?_⟩)
  refine st_asgP (pw_mod (pw_V rfl) pw_C (by omega)) fun H2 s2 => ?_
  refine st_ifAsg (d0 := .int (cell % 9)) (fun x => ∃ k : Int, x = .int k ∧ 0 ≤ k ∧ k ≤ 8 ∧ (k = 8 → deep ≠ 1)) (pt_and (pt_eqI (pw_V rfl) pw_C) (pt_eqI (pw_V rfl) pw_C)) (fun _ H3 s3 R hR => hR _ H3 ⟨7, rfl, by omega, by omega, by omega⟩ (Sub.refl _)) (fun c => ⟨cell % 9, rfl, by omega, by omega, fun h1 h2 => ?_⟩) rfl ?_
  · rw [decide_eq_true h1, decide_eq_true h2] at c
    cases c
  rintro x H3 ⟨kind, rfl, k0, k1, k2⟩ s3
  refine st_asgP (pw_div (pw_V rfl) pw_C (by omega) (by omega)) fun H4 s4 => ?_
  have sb4 : Sub H H4 := ((s1.trans s2).trans s3).trans s4
  refine st_ifRet (pt_or (pt_eqI (pw_V rfl) pw_C) (pt_eqI (pw_V rfl) pw_C)) (fun c H5 s5 => ?_) fun c H5 s5 => ?_
  · have hm0 : 0 ≤ cell / 9 % (ws.length : Int) := Int.emod_nonneg _ (by omega)
    have hm1 : cell / 9 % (ws.length : Int) < ws.length := Int.emod_lt_of_pos _ hl0
    obtain ⟨n, hn⟩ := ws_get hm0 hm1
    have hb := hws n (List.mem_of_getElem? hn)
    refine table_go rfl rfl ((sb4.trans s5) _ _ ha) hl0 hn ⟨H, sb4.trans s5, ?_⟩
    exact hq (.table _) n (fun _ => ⟨by simp only [Vw.depth]; omega, by omega⟩) (fun _ => ⟨by simp only [Vw.depth]; omega, by omega⟩) (fun _ => ⟨by simp only [Vw.depth]; omega, by omega⟩) (by simp only [Vw.depth]; omega) (by omega) (by omega)
  obtain ⟨c1, c2⟩ := Bool.or_eq_false_iff.mp c
  have c1' : ¬ deep = 0 := of_decide_eq_false c1
  have c2' : ¬ kind = 0 := of_decide_eq_false c2
  refine st_asgP (pw_sub (pw_V rfl) pw_C) fun H6 s6 => ?_
  refine st_ifAsg (d0 := .int (deep - 1)) (fun x => ∃ dn : Int, x = .int dn ∧ 0 ≤ dn ∧ dn ≤ deep - 1 ∧ (kind = 8 → dn = 1 ∧ 2 ≤ deep)) (pt_eqI (pw_V rfl) pw_C) (fun c H3 s3 R hR => hR _ H3 ⟨1, rfl, by omega, ?_, fun _ => ⟨rfl, ?_⟩⟩ (Sub.refl _)) (fun c => ⟨deep - 1, rfl, by omega, by omega, fun h => absurd h (of_decide_eq_false c)⟩) rfl ?_
  · have := k2 (of_decide_eq_true c); omega
  · have := k2 (of_decide_eq_true c); omega
  rintro x H7 ⟨dn, rfl, e0, e1, e2⟩ s7
  have sb7 : Sub H H7 := ((sb4.trans s5).trans s6).trans s7
  refine st_asgG (call_go (pw_cons (pw_V rfl) (pw_cons (pw_V rfl) (pw_cons (pw_V rfl) (pw_cons (pw_add (pw_mul pw_C (pw_V rfl) (IntMulOk.of_left (by decide))) pw_C) (pw_cons (pw_V rfl) pw_nil))))) fun H8 s8 => ⟨ns, a, _, dn, ws, rfl, (sb7.trans s8) _ _ ha, hne, hlen, hws, e0, by omega, by omega, by omega, ?at1, fun v w b0 b1 b2 b3 b4 b5 => g2_go ?_⟩)
  case at1 => exact ⟨fun _ => by omega, fun _ => by omega, fun _ => by omega⟩
  have sb8 := sb7.trans s8
  refine st_ifRet (pt_ltI (pw_V rfl) pw_C) (fun c H9 s9 => ?_) fun c H9 s9 => ?_
  · have c' : kind < 6 := of_decide_eq_true c
    refine call_go (pw_cons (pw_V rfl) (pw_cons (pw_V rfl) (pw_cons (pw_V rfl) (pw_cons (pw_V rfl) pw_nil)))) fun H10 s10 => ⟨_, _, v, w, rfl, by omega, by omega, by omega, by omega, fun v' w' g1 g2 g3 => ⟨H, (sb8.trans s9).trans s10, ?_⟩⟩
    have hdn : dn = deep - 1 ∨ dn < deep - 1 := by omega
    exact hq v' w' (by omega) (by omega) (by omega) (by omega) (by omega) g2
  have c' : ¬ kind < 6 := of_decide_eq_false c
  refine st_asgG (call_go (pw_cons (pw_V rfl) (pw_cons (pw_V rfl) (pw_cons (pw_V rfl) (pw_cons (pw_add (pw_mul pw_C (pw_V rfl) (IntMulOk.of_left (by decide))) pw_C) (pw_cons (pw_V rfl) pw_nil))))) fun H10 s10 => ⟨ns, a, _, dn, ws, rfl, ((sb8.trans s9).trans s10) _ _ ha, hne, hlen, hws, e0, by omega, by omega, by omega, ?at2, fun u o f0 f1 f2 f3 f4 f5 => g2_go ?_⟩)
  case at2 => exact ⟨fun _ => by omega, fun _ => by omega, fun _ => by omega⟩
  refine call_go (pw_cons (pw_V rfl) (pw_cons (pw_V rfl) (pw_cons (pw_V rfl) (pw_cons (pw_V rfl) (pw_cons (pw_V rfl) (pw_cons (pw_V rfl) pw_nil)))))) fun H11 s11 => ⟨_, _, v, w, u, o, rfl, by omega, by omega, by omega, by omega, by omega, by omega, fun v' w' g1 g2 g3 => ⟨H, ((sb8.trans s9).trans s10).trans s11, ?_⟩⟩
  exact hq v' w' (by omega) (by omega) (by omega) (by omega) (by omega) g2
end K06
set_option Elab.async false
set_option linter.all false
set_option maxRecDepth 100000
set_option maxHeartbeats 1000000
namespace K06
open PySem PySem.Spec PyProof.Rows L2 Zy
theorem sub_set {H H' : ZH} {p : Addr} {o : MO} (s : Sub H H') : Sub (set H p o) (set H' p o) := fun b u e => by
  by_cases h : b = p
  · subst h; rw [set_same] at e ⊢; exact e
  · rw [set_ne h] at e ⊢; exact s _ _ e
theorem pw_eqV {s : Sg} {ta tb : TEz} {a b : Int} (h1 : Pw s ta (.int a)) (h2 : Pw s tb (.int b)) : Pw s (zOp bEq ta tb) (.bl (decide (a = b))) := fun H Q q => h1 H _ fun H1 s1 => h2 H1 _ fun H2 s2 => ⟨rfl, q H2 (s1.trans s2)⟩
theorem pw_intb {s : Sg} {te : TEz} {b : Bool} (h : Pw s te (.bl b)) : Pw s (zCB rIntZ (zCons te zNil)) (.int (if b = true then 1 else 0)) := fun H Q q => h H _ fun H1 s1 => q H1 s1
theorem rep_ints (k : Nat) (n : Int) : (List.replicate k [D.int n]).flatten = (List.replicate k n).map D.int := by
  induction k with
  | zero => rfl
  | succ k ih => rw [List.replicate_succ, List.flatten_cons, ih]; rfl
theorem r_widths (ds : List D) (H : ZH) (Q : WP) (E : XZ) (h : sp_widths ds H Q E) : t__law_widths sp_at E (fin Q) (startZ 5 ds) H := by
  obtain ⟨ns, rfl, hq⟩ := h
  show t__law_widths _ _ _ [some (.scr ns), none, none, none, none] H
  unfold t__law_widths
  refine st_asg (call_go (pw_cons (pw_V rfl) (pw_cons pw_C pw_nil)) fun H1 s1 => ⟨ns, _, rfl, by omega, fun head => ?_⟩)
  refine st_asgP (pw_add pw_C (pw_mod (pw_V rfl) pw_C (by omega))) fun H2 s2 => ?_
  refine st_ifAsg (d0 := .int (1 + head % 3)) (fun x => ∃ m : Int, x = .int m ∧ 1 ≤ m ∧ m ≤ 10) (pt_eqI (pw_mod (pw_div (pw_V rfl) pw_C (by omega) (by omega)) pw_C (by omega)) pw_C) (fun _ H3 s3 R hR => ?_) (fun _ => ⟨_, rfl, by omega, by omega⟩) rfl ?_
  · exact go_P (pw_add pw_C (pw_mod (pw_div (pw_V rfl) pw_C (by omega) (by omega)) pw_C (by omega))) fun H4 s4 => hR _ H4 ⟨_, rfl, by omega, by omega⟩ s4
  rintro x H3 ⟨m, rfl, m0, m1⟩ s3
  refine st_asgP (pw_add pw_C (pw_mul pw_C (pw_intb (pw_eqV (pw_mod (pw_div (pw_V rfl) pw_C (by omega) (by omega)) pw_C (by omega)) pw_C)) (IntMulOk.of_left (by decide)))) fun H4 s4 => ?_
  have hwd : ∃ wd : Int, (3 + 3 * (if decide (head / 3 % 5 = 3) = true then 1 else 0) : Int) = wd ∧ 3 ≤ wd ∧ wd ≤ 6 := by
    refine ⟨_, rfl, ?_, ?_⟩ <;> split <;> omega
  obtain ⟨wd, ewd, wd0, wd1⟩ := hwd
  rw [ewd]
  have sb4 : Sub H H4 := ((s1.trans s2).trans s3).trans s4
  refine st_ifRet (pt_eqI (pw_mod (pw_div (pw_V rfl) pw_C (by omega) (by omega)) pw_C (by omega)) pw_C) (fun c H5 s5 => ?_) fun c H5 s5 => ?_
  · simp only [zOp, zLst, zCons, zNil, zC]
    refine call_go (ds := [.scr ns, .int 1]) (pw_cons (pw_V rfl) (pw_cons pw_C pw_nil)) fun H6 s6 => ⟨ns, _, rfl, by omega, fun i => ?_⟩
    refine ⟨by omega, rfl, fun p hp => ?_⟩
    refine pw_V (d := .int m) rfl _ _ fun H8 s8 => ?_
    unfold bRep
    simp only [s8 p _ set_same]
    refine ⟨by omega, by omega, few_size (by simp only [List.length_cons, List.length_nil]; omega), fun p2 hp2 => ?_⟩
    have sb : Sub H H8 := (((sb4.trans s5).trans s6).trans (Sub.new hp)).trans s8
    refine ⟨set H p2 (.lst ((List.replicate m.toNat (1 + i % 3)).map D.int)), ?_, hq p2 _ (sb.none hp2) ?_ ?_ ?_⟩
    · rw [rep_ints]; exact sub_set sb
    · intro e
      have := congrArg List.length e
      rw [List.length_replicate] at this
      simp only [List.length_nil] at this
      omega
    · rw [List.length_replicate]; omega
    · intro x hx
      have := List.eq_of_mem_replicate hx
      subst this
      omega
  show zComp _ _ _ _ _ _
  unfold zComp ziRange
  refine pw_V (d := .int m) rfl H5 _ fun H6 s6 => ⟨by omega, by omega, fun p hp => ?_⟩
  have sb : Sub H H6 := (sb4.trans s5).trans s6
  refine ⟨fun rest H' => ∃ (acc : List Int) (js : List Nat), Sub (set H6 p (.lst (acc.map D.int))) H' ∧ H' p = some (.lst (acc.map D.int)) ∧ rest = js.map (fun (j : Nat) => D.int (j : Int)) ∧ (∀ j ∈ js, j < 10) ∧ (acc.length : Int) + js.length = m ∧ ∀ x ∈ acc, 1 ≤ x ∧ x ≤ 6, ⟨[], List.range m.toNat, ?_, set_same, rfl, ?_, ?_, ?_⟩, ?_, ?_⟩
  · exact Sub.refl _
  · intro j hj; have := List.mem_range.mp hj; omega
  · simp only [List.length_nil, List.length_range]; omega
  · intro x hx; cases hx
  · rintro H' ⟨acc, js, sH, hp', e, hj, hl, hx⟩
    have ej : js = [] := by cases js with
      | nil => rfl
      | cons _ _ => cases e
    subst ej
    refine ⟨trivial, set H p (.lst (acc.map D.int)), (sub_set sb).trans sH, hq p acc (sb.none hp) ?_ ?_ hx⟩
    · intro e'; subst e'; simp only [List.length_nil] at hl; omega
    · simp only [List.length_nil] at hl; omega
  · rintro x r H' ⟨acc, js, sH, hp', e, hj, hl, hx⟩
    cases js with
    | nil => cases e
    | cons j js =>
      cases e
      refine ⟨trivial, ?_⟩
      have hj0 := hj j (List.mem_cons_self)
      simp only [zOp, zC]
      refine call_go (ds := [.scr ns, .int (1 + (j : Int) % 3)]) (pw_cons (pw_V rfl) (pw_cons (pw_add pw_C (pw_mod (pw_V rfl) pw_C (by omega))) pw_nil)) fun H7 s7 => ⟨ns, _, rfl, by omega, fun i => ?_⟩
      refine ⟨by omega, ?_⟩
      refine ⟨by omega, by omega, ?_⟩
      refine ⟨by omega, ?_⟩
      show zV 3 _ _ _
      refine go_P (pw_V (d := .int wd) rfl) fun H8 s8 => ?_
      refine ⟨by omega, ?_⟩
      have hp8 : H8 p = some (.lst (acc.map D.int)) := s8 _ _ (s7 _ _ hp')
      simp only [bAdd]
      rw [hp8]
      have hv : 0 ≤ i / (1 + (j : Int) / 3) % wd ∧ i / (1 + (j : Int) / 3) % wd < wd := ⟨Int.emod_nonneg _ (by omega), Int.emod_lt_of_pos _ (by omega)⟩
      refine ⟨Nat.lt_of_lt_of_le (by simp only [List.length_map, List.length_cons] at hl ⊢; omega : _ < 1000) (few_size (Nat.le_refl _)), acc ++ [1 + i / (1 + (j : Int) / 3) % wd], js, ?_, ?_, rfl, fun j' h' => hj j' (List.mem_cons_of_mem _ h'), ?_, ?_⟩
      · have sx := sub_set (p := p) (o := .lst ((acc ++ [1 + i / (1 + (j : Int) / 3) % wd]).map D.int)) (sH.trans (s7.trans s8))
        rw [set_set] at sx
        rw [map_snoc]
        exact sx
      · rw [set_same, map_snoc]
      · simp only [List.length_append, List.length_cons, List.length_nil] at hl ⊢; omega
      · intro x hx'
        rcases List.mem_append.mp hx' with h | h
        · exact hx x h
        · have e := List.mem_singleton.mp h
          subst e
          omega
end K06
set_option Elab.async false
set_option linter.all false
set_option maxRecDepth 100000
set_option maxHeartbeats 1000000
namespace K06
open PySem PySem.Spec PyProof.Rows L2 Zy
theorem r_law (ds : List D) (H : ZH) (Q : WP) (E : XZ) (h : sp_law ds H Q E) : t_law sp_widths (sp_view 4) sp_at sp_odd sp_wrapped sp_many (sp_wide 25) (sp_said 25) sp_whole E (fin Q) (startZ 7 ds) H := by
  obtain ⟨ns, rfl, hq⟩ := h
  show t_law _ _ _ _ _ _ _ _ _ _ _ [some (.scr ns), none, none, none, none, none, none] H
  have fin' : ∀ {H' : ZH}, ∃ H0, Sub H0 H' ∧ Q (.bl true) H0 := fun {H'} => ⟨H', Sub.refl _, hq _⟩
  unfold t_law
  refine st_asg (call_go (pw_cons (pw_V rfl) pw_nil) fun H1 s1 => ⟨ns, rfl, fun p ws hp hne hlen hws => ?_⟩)
  generalize eH : set H1 p (.lst (ws.map D.int)) = H2
  have hp2 : H2 p = some (.lst (ws.map D.int)) := by rw [← eH, set_same]
  have c0 : ∀ (u : TSz) (s : Sg), (∀ (v : Vw) H', v.depth ≤ 12 → Sub H2 H' → u (fin Q) (put s 2 (some v.d)) H') → nth s 0 = some (.scr ns) → nth s 1 = some (.ref p) → zSeq (zAsg (zOp bIx (zCall (sp_view 4) (wE E) (zCons (zV 0) (zCons (zV 1) (zCons (zC (.int 0)) (zCons (zC (.int 0)) (zCons (zC (.int 3)) zNil)))))) (zC (.int 0))) (zgName 2)) u (fin Q) s H2 := by
    intro u s hu h0 h1
    refine st_asg ?_
    show zCall _ _ _ _ _ (fun x H1 => zC (.int 0) s H1 fun y H2 => bIx x y H2 _)
    refine call_go (pw_cons (pw_V h0) (pw_cons (pw_V h1) (pw_cons pw_C (pw_cons pw_C (pw_cons pw_C pw_nil))))) fun H3 s3 => ⟨ns, p, 0, 3, ws, rfl, s3 _ _ hp2, hne, hlen, hws, by omega, by omega, by omega, by omega, ⟨fun _ => by omega, fun _ => by omega, fun _ => by omega⟩, fun v w b0 b1 b2 b3 b4 b5 => ?_⟩
    unfold zC bIx
    simp only [it0]
    exact hu v H3 b3 s3
  refine c0 _ _ (fun v H3 hd s3 => ?_) rfl rfl
  have hp3 := s3 _ _ hp2
  clear c0
  refine st_asg (call_go (pw_cons (pw_V rfl) (pw_cons pw_C pw_nil)) fun H4 s4 => ⟨ns, _, rfl, by omega, fun way => ?_⟩)
  have hp4 := s4 _ _ hp3
  refine st_ifAsg (d0 := v.d) (fun x => ∃ v : Vw, x = v.d ∧ v.depth ≤ 15) (pt_eqI (pw_mod (pw_V rfl) pw_C (by omega)) pw_C) (fun _ H5 s5 R hR => ?_) (fun _ => ⟨v, rfl, by omega⟩) rfl ?_
  · simp only [zCall, zCons, zNil, zOp, zV, zC, nth, put, bDiv, Int.reduceLT, true_and]
    refine ⟨ns, _, rfl, by omega, fun i => ⟨i, v, rfl, fun v1 h1 => ⟨_, v, v1, rfl, fun v2 h2 => hR _ H5 ⟨v2, rfl, by omega⟩ (Sub.refl _)⟩⟩⟩
  rintro x H5 ⟨v5, rfl, hd5⟩ s5
  refine st_ifAsg (d0 := v5.d) (fun x => ∃ v : Vw, x = v.d ∧ v.depth ≤ 23) (pt_eqI (pw_mod (pw_V rfl) pw_C (by omega)) pw_C) (fun _ H6 s6 R hR => ?_) (fun _ => ⟨v5, rfl, by omega⟩) rfl ?_
  · simp only [zCall, zCons, zNil, zOp, zV, zC, nth, put, bDiv, bMod, bAdd, Int.reduceLT, true_and]
    refine ⟨ns, _, rfl, by omega, fun i => ?_⟩
    refine ⟨by omega, _, v5, rfl, by omega, by omega, fun v1 h1 => ⟨_, v5, v1, rfl, fun v2 h2 => hR _ H6 ⟨v2, rfl, by omega⟩ (Sub.refl _)⟩⟩
  rintro x H6 ⟨v6, rfl, hd6⟩ s6
  have hp6 := s6 _ _ (s5 _ _ hp4)
  refine st_asg (show zCB _ _ _ _ _ from (pw_cons (pw_V rfl) pw_nil) H6 _ fun H7 s7 => ?_)
  have hp7 := s7 _ _ hp6
  unfold rListZ seqZ
  simp only [hp7]
  intro a ha
  have hpa : p ≠ a := ne_new hp7 ha
  generalize eK : set H7 a (.lst (ws.map D.int)) = H8
  have hp8 : H8 p = some (.lst (ws.map D.int)) := by rw [← eK, set_ne hpa]; exact hp7
  have ha8 : H8 a = some (.lst (ws.map D.int)) := by rw [← eK, set_same]
  refine st_asg (call_go (pw_cons (pw_V rfl) (pw_cons (pw_V rfl) pw_nil)) fun H9 s9 => ⟨v6, p, ws, rfl, s9 _ _ hp8, by omega, ?_⟩)
  have ha9 := s9 _ _ ha8
  have hp9 := s9 _ _ hp8
  refine st_asg (call_go (pw_cons (pw_V rfl) (pw_cons (pw_V rfl) pw_nil)) fun H10 s10 => ⟨v6, a, ws, rfl, s10 _ _ ha9, by omega, ?_⟩)
  have ha10 := s10 _ _ ha9
  have hp10 := s10 _ _ hp9
  simp only [put]
  have cN : ∀ (u e : TSz) (s : Sg), nth s 4 = some (.ref a) → nth s 1 = some (.ref p) → u (fin Q) s H10 → zSeq (zIf (zTest (zOp bNl (zV 4) (zV 1))) e zNext) u (fin Q) s H10 := by
    intro u e s h4 h1 hu
    unfold zSeq zIf zTest zOp zV
    rw [h4, h1]
    show bNl (.ref a) (.ref p) H10 _
    unfold bNl
    simp only [ha10, hp10]
    exact ⟨⟨ws, by omega, rfl, rfl⟩, hu⟩
  refine cN _ _ _ rfl rfl ?_
  cases e : wid ws v6 with
  | none =>
    simp only [oD, sD]
    simp only [zSeq, zNext, zIf, zTest, zNot, zAnd, zOr, zIfE, zIsN, isN, zOp, zV, zC, nth, put, zgName, zAsg, zRet, zDrop, zCall, zCons, zNil, zTup, zLst, bEq, bNe, bIx, bCmp, bLt, bLe, bGt, bGe, zChain, zCB, rLenZ, size, bAdd, bSub, bMod, bDiv, scalD, eqD, few0, few1, few2, few3, few4, few5, few6, few7, few8, few9, few10, it0, it1, it2, it3, it4, wE, zRz, true_and, and_true, decide_true, decide_false, Bool.not_true, Bool.not_false, Bool.true_and, Bool.false_and, Bool.true_or, Bool.false_or, Zy.strs?, bIn, List.any_cons, List.any_nil]
    exact fin'
  | some k =>
    simp only [oD, sD]
    simp only [zSeq, zNext, zIf, zTest, zNot, zAnd, zOr, zIfE, zIsN, isN, zOp, zV, zC, nth, put, zgName, zAsg, zRet, zDrop, zCall, zCons, zNil, zTup, zLst, bEq, bNe, bIx, bCmp, bLt, bLe, bGt, bGe, zChain, zCB, rLenZ, size, bAdd, bSub, bMod, bDiv, scalD, eqD, few0, few1, few2, few3, few4, few5, few6, few7, few8, few9, few10, it0, it1, it2, it3, it4, wE, zRz, true_and, and_true, decide_true, decide_false, Bool.not_true, Bool.not_false, Bool.true_and, Bool.false_and, Bool.true_or, Bool.false_or, Zy.strs?, bIn, List.any_cons, List.any_nil]
    unfold zAndV
    show zCall sp_whole _ _ _ _ _
    refine call_go (pw_cons (pw_V rfl) pw_nil) fun H11 s11 => ⟨k, rfl, ?_⟩
    simp only [zSeq, zNext, zIf, zTest, zNot, zAnd, zOr, zIfE, zIsN, isN, zOp, zV, zC, nth, put, zgName, zAsg, zRet, zDrop, zCall, zCons, zNil, zTup, zLst, bEq, bNe, bIx, bCmp, bLt, bLe, bGt, bGe, zChain, zCB, rLenZ, size, bAdd, bSub, bMod, bDiv, scalD, eqD, few0, few1, few2, few3, few4, few5, few6, few7, few8, few9, few10, it0, it1, it2, it3, it4, wE, zRz, true_and, and_true, decide_true, decide_false, Bool.not_true, Bool.not_false, Bool.true_and, Bool.false_and, Bool.true_or, Bool.false_or, Zy.strs?, bIn, List.any_cons, List.any_nil]
    exact fin'
end K06
set_option Elab.async false
set_option linter.all false
set_option maxRecDepth 100000
set_option maxHeartbeats 4000000
namespace K06
open PySem PySem.Spec PyProof.Rows L2 Zy
/-! ### every def keeps its promise -/
structure Df (K : PySem.W.Frag) (mg : Str → Option Value) (x : Str) (i : Nat) : Prop where
  ex : ∃ f fd, FunD K x x (defArgs (top i)) (defBody (top i)) (defScope (top i)) [] [] f fd ∧ mg x = some (.ref f)
def spN : SpZ := fun _ _ _ _ => False
section
variable {P : Program} {w : World} {K : PySem.W.Frag} {mg : Str → Option Value} {base : Heap}
theorem z_need_columns (M : Mk K mg) (Dn : Df K mg "need_columns" 10) : FnZ P w K mg base 1 "need_columns" 2 (sp_need (bV K)) := by
  obtain ⟨f, fd, F, gx⟩ := Dn.ex
  exact fnz F sc_need_columns gx (F.bindsN fun _ _ _ _ _ _ us hl => match us, hl with | [_, _], _ => rfl) rfl (t_need_columns (bV K)) (fun ds Z Q E h => by obtain ⟨_, _, _, rfl, _⟩ := h; rfl) (fun X E cdv A outer s H E1 e hr tk hp => d_need_columns M e hr tk hp) r_need
theorem z_width_of_one (M : Mk K mg) (Dneed_columns : Df K mg "need_columns" 10) (Dn : Df K mg "width_of_one" 11) : FnZ P w K mg base 2 "width_of_one" 2 (sp_one (bV K)) := by
  obtain ⟨f, fd, F, gx⟩ := Dn.ex
  exact fnz F sc_width_of_one gx (F.bindsN fun _ _ _ _ _ _ us hl => match us, hl with | [_, _], _ => rfl) rfl (t_width_of_one (bV K) (sp_need (bV K))) (fun ds Z Q E h => by obtain ⟨_, _, rfl, _⟩ := h; rfl) (fun X E cdv A outer s H E1 e hr tk hp => d_width_of_one M (z_need_columns M Dneed_columns) e hr tk hp) r_one
theorem z_width_of_two (M : Mk K mg) (Dneed_columns : Df K mg "need_columns" 10) (Dn : Df K mg "width_of_two" 12) : FnZ P w K mg base 2 "width_of_two" 3 (sp_two (bV K)) := by
  obtain ⟨f, fd, F, gx⟩ := Dn.ex
  exact fnz F sc_width_of_two gx (F.bindsN fun _ _ _ _ _ _ us hl => match us, hl with | [_, _, _], _ => rfl) rfl (t_width_of_two (bV K) (sp_need (bV K))) (fun ds Z Q E h => by obtain ⟨_, _, _, rfl, _⟩ := h; rfl) (fun X E cdv A outer s H E1 e hr tk hp => d_width_of_two M (z_need_columns M Dneed_columns) e hr tk hp) r_two
theorem z__law_whole (M : Mk K mg) (Dn : Df K mg "_law_whole" 15) : FnZ P w K mg base 1 "_law_whole" 1 sp_whole := by
  obtain ⟨f, fd, F, gx⟩ := Dn.ex
  exact fnz F sc__law_whole gx (F.bindsN fun _ _ _ _ _ _ us hl => match us, hl with | [_], _ => rfl) rfl (t__law_whole ) (fun ds Z Q E h => by obtain ⟨_, rfl, _⟩ := h; rfl) (fun X E cdv A outer s H E1 e hr tk hp => d__law_whole M e hr tk hp) r_whole
theorem z__law_at (M : Mk K mg) (Dn : Df K mg "_law_at" 16) : FnZ P w K mg base 1 "_law_at" 2 sp_at := by
  obtain ⟨f, fd, F, gx⟩ := Dn.ex
  exact fnz F sc__law_at gx (F.bindsN fun _ _ _ _ _ _ us hl => match us, hl with | [_, _], _ => rfl) rfl (t__law_at ) (fun ds Z Q E h => by obtain ⟨_, _, rfl, _⟩ := h; rfl) (fun X E cdv A outer s H E1 e hr tk hp => d__law_at M e hr tk hp) r_at
theorem z__law_some (M : Mk K mg) (Dn : Df K mg "_law_some" 17) : FnZ P w K mg base 1 "_law_some" 3 sp_some := by
  obtain ⟨f, fd, F, gx⟩ := Dn.ex
  exact fnz F sc__law_some gx (F.bindsN fun _ _ _ _ _ _ us hl => match us, hl with | [_, _, _], _ => rfl) rfl (t__law_some ) (fun ds Z Q E h => by obtain ⟨_, _, _, rfl, _⟩ := h; rfl) (fun X E cdv A outer s H E1 e hr tk hp => d__law_some M e hr tk hp) r_some
theorem z__law_over_one (M : Mk K mg) (D_law_some : Df K mg "_law_some" 17) (Dn : Df K mg "_law_over_one" 18) : FnZ P w K mg base 2 "_law_over_one" 4 sp_over_one := by
  obtain ⟨f, fd, F, gx⟩ := Dn.ex
  exact fnz F sc__law_over_one gx (F.bindsN fun _ _ _ _ _ _ us hl => match us, hl with | [_, _, _, _], _ => rfl) rfl (t__law_over_one sp_some) (fun ds Z Q E h => by obtain ⟨_, _, _, _, rfl, _⟩ := h; rfl) (fun X E cdv A outer s H E1 e hr tk hp => d__law_over_one M (z__law_some M D_law_some) e hr tk hp) r_over_one
theorem z__law_over_two (M : Mk K mg) (D_law_some : Df K mg "_law_some" 17) (Dn : Df K mg "_law_over_two" 19) : FnZ P w K mg base 2 "_law_over_two" 6 sp_over_two := by
  obtain ⟨f, fd, F, gx⟩ := Dn.ex
  exact fnz F sc__law_over_two gx (F.bindsN fun _ _ _ _ _ _ us hl => match us, hl with | [_, _, _, _, _, _], _ => rfl) rfl (t__law_over_two sp_some) (fun ds Z Q E h => by obtain ⟨_, _, _, _, _, _, rfl, _⟩ := h; rfl) (fun X E cdv A outer s H E1 e hr tk hp => d__law_over_two M (z__law_some M D_law_some) e hr tk hp) r_over_two
theorem z__law_widths (M : Mk K mg) (D_law_at : Df K mg "_law_at" 16) (Dn : Df K mg "_law_widths" 21) : FnZ P w K mg base 2 "_law_widths" 1 sp_widths := by
  obtain ⟨f, fd, F, gx⟩ := Dn.ex
  exact fnz F sc__law_widths gx (F.bindsN fun _ _ _ _ _ _ us hl => match us, hl with | [_], _ => rfl) rfl (t__law_widths sp_at) (fun ds Z Q E h => by obtain ⟨_, rfl, _⟩ := h; rfl) (fun X E cdv A outer s H E1 e hr tk hp => d__law_widths M (z__law_at M D_law_at) e hr tk hp) r_widths
theorem z__law_there (M : Mk K mg) (Dn : Df K mg "_law_there" 22) : FnZ P w K mg base 1 "_law_there" 2 sp_there := by
  obtain ⟨f, fd, F, gx⟩ := Dn.ex
  exact fnz F sc__law_there gx (F.bindsN fun _ _ _ _ _ _ us hl => match us, hl with | [_, _], _ => rfl) rfl (t__law_there ) (fun ds Z Q E h => by obtain ⟨_, _, _, rfl, _⟩ := h; rfl) (fun X E cdv A outer s H E1 e hr tk hp => d__law_there M e hr tk hp) r_there
theorem z__law_wide_one (M : Mk K mg) (D_law_there : Df K mg "_law_there" 22) (Dn : Df K mg "_law_wide_one" 23) : FnZ P w K mg base 2 "_law_wide_one" 2 sp_wide_one := by
  obtain ⟨f, fd, F, gx⟩ := Dn.ex
  exact fnz F sc__law_wide_one gx (F.bindsN fun _ _ _ _ _ _ us hl => match us, hl with | [_, _], _ => rfl) rfl (t__law_wide_one sp_there) (fun ds Z Q E h => by obtain ⟨_, _, rfl, _⟩ := h; rfl) (fun X E cdv A outer s H E1 e hr tk hp => d__law_wide_one M (z__law_there M D_law_there) e hr tk hp) r_wide_one
theorem z__law_odd (M : Mk K mg) (Dn : Df K mg "_law_odd" 25) : FnZ P w K mg base 1 "_law_odd" 2 sp_odd := by
  obtain ⟨f, fd, F, gx⟩ := Dn.ex
  exact fnz F sc__law_odd gx (F.bindsN fun _ _ _ _ _ _ us hl => match us, hl with | [_, _], _ => rfl) rfl (t__law_odd ) (fun ds Z Q E h => by obtain ⟨_, _, rfl, _⟩ := h; rfl) (fun X E cdv A outer s H E1 e hr tk hp => d__law_odd M e hr tk hp) r_odd
theorem z__law_wrapped (M : Mk K mg) (Dn : Df K mg "_law_wrapped" 26) : FnZ P w K mg base 1 "_law_wrapped" 3 sp_wrapped := by
  obtain ⟨f, fd, F, gx⟩ := Dn.ex
  exact fnz F sc__law_wrapped gx (F.bindsN fun _ _ _ _ _ _ us hl => match us, hl with | [_, _, _], _ => rfl) rfl (t__law_wrapped ) (fun ds Z Q E h => by obtain ⟨_, _, _, rfl, _⟩ := h; rfl) (fun X E cdv A outer s H E1 e hr tk hp => d__law_wrapped M e hr tk hp) r_wrapped
theorem z__law_many (M : Mk K mg) (Dn : Df K mg "_law_many" 27) : FnZ P w K mg base 1 "_law_many" 2 sp_many := by
  obtain ⟨f, fd, F, gx⟩ := Dn.ex
  exact fnz F sc__law_many gx (F.bindsN fun _ _ _ _ _ _ us hl => match us, hl with | [_, _], _ => rfl) rfl (t__law_many ) (fun ds Z Q E h => by obtain ⟨_, _, rfl, _⟩ := h; rfl) (fun X E cdv A outer s H E1 e hr tk hp => d__law_many M e hr tk hp) r_many
theorem v_width_of (Dn : Df K mg "width_of" 13) : FnZ P w K mg base 2 "width_of" 2 spN := by
  obtain ⟨f, fd, F, gx⟩ := Dn.ex
  exact fnz F sc_width_of gx (F.bindsN fun _ _ _ _ _ _ us hl => match us, hl with | [_, _], _ => rfl) rfl (fun _ _ _ _ => False) (fun ds Z Q E h => h.elim) (fun X E cdv A outer s H E1 e hr tk hp => ⟨fun pins s σ H D I ⟨_, _, _, _, _, q, _⟩ => q.elim⟩) (fun ds Z Q E h => h)
theorem v__law_wide (Dn : Df K mg "_law_wide" 24) : FnZ P w K mg base 2 "_law_wide" 2 spN := by
  obtain ⟨f, fd, F, gx⟩ := Dn.ex
  exact fnz F sc__law_wide gx (F.bindsN fun _ _ _ _ _ _ us hl => match us, hl with | [_, _], _ => rfl) rfl (fun _ _ _ _ => False) (fun ds Z Q E h => h.elim) (fun X E cdv A outer s H E1 e hr tk hp => ⟨fun pins s σ H D I ⟨_, _, _, _, _, q, _⟩ => q.elim⟩) (fun ds Z Q E h => h)
theorem v__law_view (Dn : Df K mg "_law_view" 20) : FnZ P w K mg base 2 "_law_view" 5 spN := by
  obtain ⟨f, fd, F, gx⟩ := Dn.ex
  exact fnz F sc__law_view gx (F.bindsN fun _ _ _ _ _ _ us hl => match us, hl with | [_, _, _, _, _], _ => rfl) rfl (fun _ _ _ _ => False) (fun ds Z Q E h => h.elim) (fun X E cdv A outer s H E1 e hr tk hp => ⟨fun pins s σ H D I ⟨_, _, _, _, _, q, _⟩ => q.elim⟩) (fun ds Z Q E h => h)
theorem z_width_of (M : Mk K mg) (D1 : Df K mg "width_of_one" 11) (D2 : Df K mg "width_of_two" 12) (D3 : Df K mg "need_columns" 10) (Dn : Df K mg "width_of" 13) : ∀ n : Nat, n ≤ 49 → FnZ P w K mg base (n + 2) "width_of" 2 (sp_width (bV K) n)
  | 0, _ => (v_width_of Dn).imp fun ds Z Q E h => by obtain ⟨_, _, _, _, _, h, _⟩ := h; exact absurd h (Nat.not_lt_zero _)
  | n + 1, hn => by
    have ih := z_width_of M D1 D2 D3 Dn n (by omega)
    obtain ⟨f, fd, F, gx⟩ := Dn.ex
    exact fnz F sc_width_of gx (F.bindsN fun _ _ _ _ _ _ us hl => match us, hl with | [_, _], _ => rfl) rfl (t_width_of (bV K) (sp_width (bV K) n) (sp_two (bV K)) (sp_one (bV K))) (fun ds Z Q E h => by obtain ⟨_, _, _, rfl, _⟩ := h; rfl) (fun X E cdv A outer s H E1 e hr tk hp => d_width_of M ih ((z_width_of_two M D3 D2).mono (by omega)) ((z_width_of_one M D3 D1).mono (by omega)) e hr tk hp) (r_width (by omega))
theorem z__law_wide (M : Mk K mg) (D1 : Df K mg "_law_wide_one" 23) (D2 : Df K mg "_law_there" 22) (Dn : Df K mg "_law_wide" 24) : ∀ n : Nat, n ≤ 49 → FnZ P w K mg base (n + 2) "_law_wide" 2 (sp_wide n)
  | 0, _ => (v__law_wide Dn).imp fun ds Z Q E h => by obtain ⟨_, _, _, _, _, h, _⟩ := h; exact absurd h (Nat.not_lt_zero _)
  | n + 1, hn => by
    have ih := z__law_wide M D1 D2 Dn n (by omega)
    obtain ⟨f, fd, F, gx⟩ := Dn.ex
    exact fnz F sc__law_wide gx (F.bindsN fun _ _ _ _ _ _ us hl => match us, hl with | [_, _], _ => rfl) rfl (t__law_wide (sp_wide n) sp_there sp_wide_one) (fun ds Z Q E h => by obtain ⟨_, _, _, rfl, _⟩ := h; rfl) (fun X E cdv A outer s H E1 e hr tk hp => d__law_wide M ih ((z__law_there M D2).mono (by omega)) ((z__law_wide_one M D2 D1).mono (by omega)) e hr tk hp) (r_wide (by omega))
theorem z__law_view (M : Mk K mg) (D1 : Df K mg "_law_at" 16) (D2 : Df K mg "_law_over_one" 18) (D3 : Df K mg "_law_over_two" 19) (D4 : Df K mg "_law_some" 17) (Dn : Df K mg "_law_view" 20) : ∀ n : Nat, FnZ P w K mg base (n + 2) "_law_view" 5 (sp_view n)
  | 0 => (v__law_view Dn).imp fun ds Z Q E h => by obtain ⟨_, _, _, _, _, _, _, _, _, _, h0, _, h1, _⟩ := h; exact absurd h1 (by omega)
  | n + 1 => by
    have ih := z__law_view M D1 D2 D3 D4 Dn n
    obtain ⟨f, fd, F, gx⟩ := Dn.ex
    exact fnz F sc__law_view gx (F.bindsN fun _ _ _ _ _ _ us hl => match us, hl with | [_, _, _, _, _], _ => rfl) rfl (t__law_view sp_at (sp_view n) sp_over_one sp_over_two) (fun ds Z Q E h => by obtain ⟨_, _, _, _, _, rfl, _⟩ := h; rfl) (fun X E cdv A outer s H E1 e hr tk hp => d__law_view M ((z__law_at M D1).mono (by omega)) ih ((z__law_over_one M D4 D2).mono (by omega)) ((z__law_over_two M D4 D3).mono (by omega)) e hr tk hp) r_view
end
/-! ### the except suite's def -/
structure Mx (K : PySem.W.Frag) (mg : Str → Option Value) : Prop where
  gR : mg "BadRow" = some (.ref (He.ga K "BadRow"))
  gF : mg "Full" = some (.ref (He.ga K "Full"))
  gL : mg "Lacking" = some (.ref (He.ga K "Lacking"))
  gT : mg "NoTable" = some (.ref (He.ga K "NoTable"))
  gV : mg "NoView" = some (.ref (He.ga K "NoView"))
  gE : mg "ValueError" = none
  gC : mg "ChangeError" = some (.ref (He.ga K "ChangeError"))
  xc : ExcC K (bV K)
  kR : PySem.W.kitOne K (.ref (bV K)) (.ref (He.ga K "BadRow")) = some false
  kF : PySem.W.kitOne K (.ref (bV K)) (.ref (He.ga K "Full")) = some false
  kL : PySem.W.kitOne K (.ref (bV K)) (.ref (He.ga K "Lacking")) = some false
  kT : PySem.W.kitOne K (.ref (bV K)) (.ref (He.ga K "NoTable")) = some false
  kV : PySem.W.kitOne K (.ref (bV K)) (.ref (He.ga K "NoView")) = some false
  kB : PySem.W.kitOne K (.ref (bV K)) (.ref (bV K)) = some true
  kE : PySem.W.kitOne K (.ref (bV K)) (.type "ValueError") = some true
  em : PySem.W.exmOne K (.ref (bV K)) (.ref (He.ga K "ChangeError")) = some true
section
variable {P : Program} {w : World} {K : PySem.W.Frag} {mg : Str → Option Value} {base : Heap}
theorem sc__law_alone : FnScope ["_law_e"] ["_law_e"] (defScope (top 29)) := ⟨rfl, rfl, rfl, by decide +kernel, rfl, by decide +kernel, by decide +kernel⟩
theorem z__law_alone (M : Mk K mg) (Y : Mx K mg) (Dn : Df K mg "_law_alone" 29) (k : Nat) : FnE P w K mg base (k + 1) "_law_alone" (bV K) true := by
  obtain ⟨f, fd, F, gx⟩ := Dn.ex
  refine fne F sc__law_alone gx (F.bindsN fun _ _ _ _ _ _ us hl => match us, hl with | [_], _ => rfl) rfl fun X cdv A outer s H a oe e hr hz hf => ?_
  subst e
  have q : ∀ {x : Str} {c : Addr} {p1 p2 p3 pos : Pos}, Gl (L2H.cxH CX0 P w K mg base ["_law_e"] "_law_alone" (defScope (top 29)) f cdv A outer s H (fun _ _ _ => False) (a, oe)).nox x → mg x = some (.ref c) → (x == ("__debug__" : Str)) = false →
      PE (L2H.cxH CX0 P w K mg base ["_law_e"] "_law_alone" (defScope (top 29)) f cdv A outer s H (fun _ _ _ => False) (a, oe)).nox (.Call (.Name "isinstance" p1) [.Name "_law_e" p2, .Name x p3] [] pos) (tCB (rIsE K (bV K) a) (tCons (tVar 0) (tCons (tC (.ref c)) tNil))) := fun hg hm hd =>
    pe_callB (call_isX Y.xc hz hf (by first | exact List.mem_cons_self | exact List.mem_singleton.mpr rfl)) (by rfl) M.g_isinstance (by rfl) (pa_cons (pv 0) (pa_cons (pe_glob hg hm rfl hd) pa_nil))
  refine ⟨_, pss_cons (ps_if (pw_or (pt_val (q (by rfl) Y.gR (by decide)) (by intro _; rfl)) (pw_or (pt_val (q (by rfl) Y.gF (by decide)) (by intro _; rfl)) (pw_or1 (pt_val (q (by rfl) Y.gL (by decide)) (by intro _; rfl))))).pt (pss_one (ps_ret pe_bl)) pss_nil)
    (pss_cons (ps_if (pw_or (pt_val (q (by rfl) Y.gT (by decide)) (by intro _; rfl)) (pw_or1 (pt_val (q (by rfl) Y.gV (by decide)) (by intro _; rfl)))).pt (pss_one (ps_ret pe_bl)) pss_nil)
      (pss_one (ps_ret (pe_and (q (by rfl) M.bg (by decide)) (pe_one (pe_callB (call_isX Y.xc hz hf (by first | exact List.mem_cons_self | exact List.mem_singleton.mpr rfl)) (by rfl) M.g_isinstance (by rfl) (pa_cons (pv 0) (pa_cons (pe_bltn (v := .ty "ValueError") (by rfl) Y.gE (by rfl) rfl) pa_nil)))))))), ?_⟩
  intro Q hQ
  have st : ∀ {c : Addr} {b : Bool} {R : Bool → Hp → Prop}, PySem.W.kitOne K (.ref (bV K)) (.ref c) = some b → R b H → tCB (rIsE K (bV K) a) (tCons (tVar 0) (tCons (tC (.ref c)) tNil)) (L2.start ["_law_e"] [.ref a]) H (fun x H1 => ∃ k, x = .bl k ∧ R k H1) := fun hk hr => ⟨.ref a, rfl, _, _, _, rfl, fun u h => h, hk, _, rfl, hr⟩
  refine st Y.kR (iteF (st Y.kF (iteF (st Y.kL (iteF ?_)))))
  refine st Y.kT (iteF (st Y.kV (iteF ?_)))
  refine ⟨.ref a, rfl, _, _, _, rfl, fun u h => h, Y.kB, true, rfl, iteT ?_⟩
  exact ⟨.ref a, rfl, _, _, _, rfl, fun u h => h, Y.kE, hQ⟩
theorem sc__law_said : FnScope ["_law_view_here", "_law_widths_here", "_law_e"] ["_law_view_here", "_law_widths_here"] (defScope (top 28)) := ⟨rfl, rfl, rfl, by decide +kernel, rfl, by decide +kernel, by decide +kernel⟩
theorem z__law_said (M : Mk K mg) (Y : Mx K mg) (D1 : Df K mg "width_of_one" 11) (D2 : Df K mg "width_of_two" 12) (D3 : Df K mg "need_columns" 10) (D4 : Df K mg "width_of" 13) (D5 : Df K mg "_law_alone" 29) (Dn : Df K mg "_law_said" 28) : FnZ P w K mg base 28 "_law_said" 2 (sp_said 25) := by
  obtain ⟨f, fd, F, gx⟩ := Dn.ex
  have FA : FnE P w K mg base 27 "_law_alone" (bV K) true := z__law_alone M Y D5 26
  have FW : FnZ P w K mg base 27 "width_of" 2 (sp_width (bV K) 25) := z_width_of M D1 D2 D3 D4 25 (by omega)
  refine fnz0 F sc__law_said gx (F.bindsN fun _ _ _ _ _ _ us hl => match us, hl with | [_, _], _ => rfl) rfl (fun _ => zTryRet (bV K) "view" (fun W => zCall (sp_width (bV K) 25) W (zCons (zV 0) (zCons (zV 1) zNil)))) (fun ds Z Q E h => by obtain ⟨_, _, _, rfl, _⟩ := h; rfl) (fun X E cdv A outer s H E1 e hr tk hp => ?_) (fun ds Z Q E h => ?_)
  · subst e
    exact pss_one (zs_tryRet (i := 2) (by rfl) (by rfl) sc__law_said.nd (by rfl) (by rfl) ⟨by rfl, by decide, .inl Y.gC⟩ Y.em (by show 2 < 3; decide) FA hr (by rfl) (by decide)
      (fun pn xe W tk => ze_call FW tk ⟨hr.hd, hr.dp, hr.un⟩ (za_cons (zv 0) (za_cons (zv 1) za_nil))) (by decide) (by decide))
  · obtain ⟨v, a, ws, rfl, ha, hd, q⟩ := h
    refine ⟨v, a, ws, rfl, ha, hd, fun n hn => ⟨Z, Sub.refl _, ?_⟩, fun hn H' sH => ⟨rfl, Z, sH, ?_⟩⟩
    · rw [hn] at q; exact q
    · rw [hn] at q; exact q
theorem fnzk {x qual : Str} {params : Arguments} {body : List Stmt} {scope : Scope} {f : Addr} {fd : FuncData} {N ps : List Str} {k : Nat} {sp : SpZ} (F : FunD K x qual params body scope [] [] f fd) (S : FnScope N ps scope) {n : Nat} (hn : ps.length = n) (t : XZ → TSz)
    (len : ∀ ds Z Q E, sp ds Z Q E → ds.length = n)
    (der : ∀ (X : Cx) (E : XZ) (cdv : Value) (A : Around) (outer : List Env) (s : Shared) (H : Hp) (E1 : XK), X = cxOf (L2.CX P w) P w K mg base N qual scope f cdv A outer s H E1 → Room k X.A → TakesZ X (fun C _ Z => E C Z) → PassesOwn (model X.prog X.w) X.A X.env X.xe → ZSs X body (t E))
    (red : ∀ ds Z Q E, sp ds Z Q E → t E (fin Q) (startZ N.length ds) Z) : FnOk P w K mg base (L2.CX P w) (k + 1) f fd ps (upSp K sp) := by
  refine F.ok S (fun vs H Q E ⟨ds, Z, Q', E', rd, _, q, _⟩ => ?_) fun cdv A outer s H vs Q1 E1 hr ⟨ds, Z, Q, E, rd, rh, q, k1, k2⟩ => ?_
  · rw [← rd.length, len _ _ _ _ q, hn]
  · refine ⟨_, der _ E cdv A outer s H E1 rfl hr (Takes.imp (takes_of (E := E1) rfl rfl rfl rfl) fun cls d σ H' ⟨C, s', Z', e1, e2, m, _, rh', w'⟩ => ?_) (passes_of rfl), ?_⟩
    · subst e1 e2
      exact k2 C H' Z' m.2 rh' w'
    · refine ⟨startZ N.length ds, Z, _, ?_, rh, red ds Z Q E q, fun σ' H' ⟨s', Z', m, rs', rh', H0, sb, q'⟩ => k1 _ _ ⟨.non, H0, m, .non, rh'.sub sb, q'⟩, fun v H' ⟨d, Z', m, rd', rh', H0, sb, q'⟩ => k1 _ _ ⟨d, H0, m, rd', rh'.sub sb, q'⟩, fun σ' H' ⟨_, _, _, _, _, q'⟩ => q'.elim, fun σ' H' ⟨_, _, _, _, _, q'⟩ => q'.elim⟩
      unfold startZ L2.start
      rw [rd.length]
      exact rs_app (rs_start rd) (rs_none _)
theorem z_law (M : Mk K mg) (Y : Mx K mg) (d : ∀ i x, (x, i) ∈ [(("need_columns" : Str), 10), ("width_of_one", 11), ("width_of_two", 12), ("width_of", 13), ("_law_whole", 15), ("_law_at", 16), ("_law_some", 17), ("_law_over_one", 18), ("_law_over_two", 19), ("_law_view", 20), ("_law_widths", 21), ("_law_there", 22), ("_law_wide_one", 23), ("_law_wide", 24), ("_law_odd", 25), ("_law_wrapped", 26), ("_law_many", 27), ("_law_said", 28), ("_law_alone", 29)] → Df K mg x i)
    {f : Addr} {fd : FuncData} (F : FunD K "law" "law" (defArgs (top 30)) (defBody (top 30)) (defScope (top 30)) [] [] f fd) (gx : mg "law" = some (.ref f)) : FnOk P w K mg base (L2.CX P w) 29 f fd ["_law_script"] (upSp K sp_law) := by
  have g : ∀ i x, List.elem (x, i) [(("need_columns" : Str), 10), ("width_of_one", 11), ("width_of_two", 12), ("width_of", 13), ("_law_whole", 15), ("_law_at", 16), ("_law_some", 17), ("_law_over_one", 18), ("_law_over_two", 19), ("_law_view", 20), ("_law_widths", 21), ("_law_there", 22), ("_law_wide_one", 23), ("_law_wide", 24), ("_law_odd", 25), ("_law_wrapped", 26), ("_law_many", 27), ("_law_said", 28), ("_law_alone", 29)] = true → Df K mg x i := fun i x h => d i x (List.elem_iff.mp h)
  exact fnzk F sc_law (n := 1) rfl (t_law sp_widths (sp_view 4) sp_at sp_odd sp_wrapped sp_many (sp_wide 25) (sp_said 25) sp_whole) (fun ds Z Q E h => by obtain ⟨_, rfl, _⟩ := h; rfl)
      (fun X E cdv A outer s H E1 e hr tk hp => d_law M ((z__law_widths M (g 16 "_law_at" (by decide +kernel)) (g 21 "_law_widths" (by decide +kernel))).mono (by omega))
        ((z__law_view M (g 16 "_law_at" (by decide +kernel)) (g 18 "_law_over_one" (by decide +kernel)) (g 19 "_law_over_two" (by decide +kernel)) (g 17 "_law_some" (by decide +kernel)) (g 20 "_law_view" (by decide +kernel)) 4).mono (by omega))
        ((z__law_at M (g 16 "_law_at" (by decide +kernel))).mono (by omega)) ((z__law_odd M (g 25 "_law_odd" (by decide +kernel))).mono (by omega)) ((z__law_wrapped M (g 26 "_law_wrapped" (by decide +kernel))).mono (by omega)) ((z__law_many M (g 27 "_law_many" (by decide +kernel))).mono (by omega))
        ((z__law_wide M (g 23 "_law_wide_one" (by decide +kernel)) (g 22 "_law_there" (by decide +kernel)) (g 24 "_law_wide" (by decide +kernel)) 25 (by omega)).mono (by omega))
        (z__law_said M Y (g 11 "width_of_one" (by decide +kernel)) (g 12 "width_of_two" (by decide +kernel)) (g 10 "need_columns" (by decide +kernel)) (g 13 "width_of" (by decide +kernel)) (g 29 "_law_alone" (by decide +kernel)) (g 28 "_law_said" (by decide +kernel)))
        ((z__law_whole M (g 15 "_law_whole" (by decide +kernel))).mono (by omega)) e hr tk hp) r_law
end
end K06
set_option Elab.async false
set_option linter.all false
set_option maxRecDepth 100000
set_option maxHeartbeats 0
namespace K06
open PySem PySem.Spec PyProof.Rows L2 Zy
/-- the ends of a call, whichever the world -/
def CXU : CXT := fun outer H s E u s' => ∃ (P : Program) (w : World), L2.CX P w outer H s E u s'
theorem cx_up {P : Program} {w : World} {K : PySem.W.Frag} {mg : Str → Option Value} {base : Heap} {k : Nat} {f : Addr} {fd : FuncData} {ps : List Str} {sp : Sp} (F : FnOk P w K mg base (L2.CX P w) k f fd ps sp) : FnOk P w K mg base CXU k f fd ps sp :=
  ⟨F.len, fun A outer s H args us vs Q E hr e0 hb r h => codeAny_mono (F.run A outer s H args us vs Q E hr e0 hb r h) fun r s' hq => by
    cases r with
    | error e => exact ⟨P, w, hq⟩
    | ok fl => cases fl <;> exact hq⟩
theorem only_sq {K : PySem.W.Frag} {H : Hp} {a : Addr} {xs : List V} (hO : Only H) (h : SqL K H a xs) : SqF K H a xs := by
  rcases h with (h | ⟨o, h⟩) | h
  · rcases hO a with e | ⟨o, ys, e⟩
    · rw [e] at h; cases h
    · rw [e] at h; cases h
  · exact .inl ⟨o, h⟩
  · exact .inr h
section
variable {K : PySem.W.Frag} {h : Heap} {mg : Str → Option Value}
theorem mk_of (X : K.In h) (G : h.Ns mainGlobals mg) (c : He.SaysD fa fn K) : Mk K mg := by
  obtain ⟨q1, q2, q3, q4⟩ := He.exc_ok (c.fact 18 (f := .exc "BadView") rfl)
  exact ⟨He.free_ok X G (c.fact 0 (f := .free "len") rfl), He.free_ok X G (c.fact 1 (f := .free "int") rfl), He.free_ok X G (c.fact 2 (f := .free "bool") rfl), He.free_ok X G (c.fact 3 (f := .free "min") rfl), He.free_ok X G (c.fact 4 (f := .free "list") rfl), He.free_ok X G (c.fact 5 (f := .free "tuple") rfl), He.free_ok X G (c.fact 6 (f := .free "range") rfl), He.free_ok X G (c.fact 7 (f := .free "reversed") rfl), He.free_ok X G (c.fact 8 (f := .free "isinstance") rfl), He.int_ok X G (c.fact 17 (f := .int "MOST_WIDE" 40) rfl), q1, He.glo_ok X G (c.fact 11 (f := .glo "BadView") rfl), q2, q3, q4⟩
theorem mx_of (X : K.In h) (G : h.Ns mainGlobals mg) (c : He.SaysD fa fn K) (ck : chk K = true) : Mx K mg := by
  simp only [chk, Bool.and_eq_true, decide_eq_true_eq] at ck
  obtain ⟨⟨⟨⟨⟨⟨⟨⟨⟨⟨⟨⟨⟨⟨c1, c2⟩, c3⟩, c4⟩, c5⟩, c6⟩, c7⟩, c8⟩, c9⟩, c10⟩, c11⟩, c12⟩, c13⟩, c14⟩, c15⟩ := ck
  exact ⟨He.glo_ok X G (c.fact 14 (f := .glo "BadRow") rfl), He.glo_ok X G (c.fact 16 (f := .glo "Full") rfl), He.glo_ok X G (c.fact 15 (f := .glo "Lacking") rfl), He.glo_ok X G (c.fact 12 (f := .glo "NoTable") rfl), He.glo_ok X G (c.fact 13 (f := .glo "NoView") rfl),
    He.free_ok X G (c.fact 9 (f := .free "ValueError") rfl), He.glo_ok X G (c.fact 10 (f := .glo "ChangeError") rfl), ⟨c1, c2, c3, c4, c5, c6, c7, c8⟩, c9, c10, c11, c12, c13, c14, c15, He.exm_ok (c.fact 19 (f := .exm "BadView" "ChangeError" true) rfl)⟩
theorem df_need_columns (X : K.In h) (G : h.Ns mainGlobals mg) (c : He.SaysD fa fn K) : Df K mg "need_columns" 10 := by
  obtain ⟨fd, F⟩ := c.def_ 0 (d := dd "need_columns" 10) rfl
  exact ⟨_, fd, F, He.glo_ok X G (c.fact 20 (f := .glo "need_columns") rfl)⟩
theorem df_width_of_one (X : K.In h) (G : h.Ns mainGlobals mg) (c : He.SaysD fa fn K) : Df K mg "width_of_one" 11 := by
  obtain ⟨fd, F⟩ := c.def_ 1 (d := dd "width_of_one" 11) rfl
  exact ⟨_, fd, F, He.glo_ok X G (c.fact 21 (f := .glo "width_of_one") rfl)⟩
theorem df_width_of_two (X : K.In h) (G : h.Ns mainGlobals mg) (c : He.SaysD fa fn K) : Df K mg "width_of_two" 12 := by
  obtain ⟨fd, F⟩ := c.def_ 2 (d := dd "width_of_two" 12) rfl
  exact ⟨_, fd, F, He.glo_ok X G (c.fact 22 (f := .glo "width_of_two") rfl)⟩
theorem df_width_of (X : K.In h) (G : h.Ns mainGlobals mg) (c : He.SaysD fa fn K) : Df K mg "width_of" 13 := by
  obtain ⟨fd, F⟩ := c.def_ 3 (d := dd "width_of" 13) rfl
  exact ⟨_, fd, F, He.glo_ok X G (c.fact 23 (f := .glo "width_of") rfl)⟩
theorem df__law_whole (X : K.In h) (G : h.Ns mainGlobals mg) (c : He.SaysD fa fn K) : Df K mg "_law_whole" 15 := by
  obtain ⟨fd, F⟩ := c.def_ 4 (d := dd "_law_whole" 15) rfl
  exact ⟨_, fd, F, He.glo_ok X G (c.fact 24 (f := .glo "_law_whole") rfl)⟩
theorem df__law_at (X : K.In h) (G : h.Ns mainGlobals mg) (c : He.SaysD fa fn K) : Df K mg "_law_at" 16 := by
  obtain ⟨fd, F⟩ := c.def_ 5 (d := dd "_law_at" 16) rfl
  exact ⟨_, fd, F, He.glo_ok X G (c.fact 25 (f := .glo "_law_at") rfl)⟩
theorem df__law_some (X : K.In h) (G : h.Ns mainGlobals mg) (c : He.SaysD fa fn K) : Df K mg "_law_some" 17 := by
  obtain ⟨fd, F⟩ := c.def_ 6 (d := dd "_law_some" 17) rfl
  exact ⟨_, fd, F, He.glo_ok X G (c.fact 26 (f := .glo "_law_some") rfl)⟩
theorem df__law_over_one (X : K.In h) (G : h.Ns mainGlobals mg) (c : He.SaysD fa fn K) : Df K mg "_law_over_one" 18 := by
  obtain ⟨fd, F⟩ := c.def_ 7 (d := dd "_law_over_one" 18) rfl
  exact ⟨_, fd, F, He.glo_ok X G (c.fact 27 (f := .glo "_law_over_one") rfl)⟩
theorem df__law_over_two (X : K.In h) (G : h.Ns mainGlobals mg) (c : He.SaysD fa fn K) : Df K mg "_law_over_two" 19 := by
  obtain ⟨fd, F⟩ := c.def_ 8 (d := dd "_law_over_two" 19) rfl
  exact ⟨_, fd, F, He.glo_ok X G (c.fact 28 (f := .glo "_law_over_two") rfl)⟩
theorem df__law_view (X : K.In h) (G : h.Ns mainGlobals mg) (c : He.SaysD fa fn K) : Df K mg "_law_view" 20 := by
  obtain ⟨fd, F⟩ := c.def_ 9 (d := dd "_law_view" 20) rfl
  exact ⟨_, fd, F, He.glo_ok X G (c.fact 29 (f := .glo "_law_view") rfl)⟩
theorem df__law_widths (X : K.In h) (G : h.Ns mainGlobals mg) (c : He.SaysD fa fn K) : Df K mg "_law_widths" 21 := by
  obtain ⟨fd, F⟩ := c.def_ 10 (d := dd "_law_widths" 21) rfl
  exact ⟨_, fd, F, He.glo_ok X G (c.fact 30 (f := .glo "_law_widths") rfl)⟩
theorem df__law_there (X : K.In h) (G : h.Ns mainGlobals mg) (c : He.SaysD fa fn K) : Df K mg "_law_there" 22 := by
  obtain ⟨fd, F⟩ := c.def_ 11 (d := dd "_law_there" 22) rfl
  exact ⟨_, fd, F, He.glo_ok X G (c.fact 31 (f := .glo "_law_there") rfl)⟩
theorem df__law_wide_one (X : K.In h) (G : h.Ns mainGlobals mg) (c : He.SaysD fa fn K) : Df K mg "_law_wide_one" 23 := by
  obtain ⟨fd, F⟩ := c.def_ 12 (d := dd "_law_wide_one" 23) rfl
  exact ⟨_, fd, F, He.glo_ok X G (c.fact 32 (f := .glo "_law_wide_one") rfl)⟩
theorem df__law_wide (X : K.In h) (G : h.Ns mainGlobals mg) (c : He.SaysD fa fn K) : Df K mg "_law_wide" 24 := by
  obtain ⟨fd, F⟩ := c.def_ 13 (d := dd "_law_wide" 24) rfl
  exact ⟨_, fd, F, He.glo_ok X G (c.fact 33 (f := .glo "_law_wide") rfl)⟩
theorem df__law_odd (X : K.In h) (G : h.Ns mainGlobals mg) (c : He.SaysD fa fn K) : Df K mg "_law_odd" 25 := by
  obtain ⟨fd, F⟩ := c.def_ 14 (d := dd "_law_odd" 25) rfl
  exact ⟨_, fd, F, He.glo_ok X G (c.fact 34 (f := .glo "_law_odd") rfl)⟩
theorem df__law_wrapped (X : K.In h) (G : h.Ns mainGlobals mg) (c : He.SaysD fa fn K) : Df K mg "_law_wrapped" 26 := by
  obtain ⟨fd, F⟩ := c.def_ 15 (d := dd "_law_wrapped" 26) rfl
  exact ⟨_, fd, F, He.glo_ok X G (c.fact 35 (f := .glo "_law_wrapped") rfl)⟩
theorem df__law_many (X : K.In h) (G : h.Ns mainGlobals mg) (c : He.SaysD fa fn K) : Df K mg "_law_many" 27 := by
  obtain ⟨fd, F⟩ := c.def_ 16 (d := dd "_law_many" 27) rfl
  exact ⟨_, fd, F, He.glo_ok X G (c.fact 36 (f := .glo "_law_many") rfl)⟩
theorem df__law_said (X : K.In h) (G : h.Ns mainGlobals mg) (c : He.SaysD fa fn K) : Df K mg "_law_said" 28 := by
  obtain ⟨fd, F⟩ := c.def_ 17 (d := dd "_law_said" 28) rfl
  exact ⟨_, fd, F, He.glo_ok X G (c.fact 37 (f := .glo "_law_said") rfl)⟩
theorem df__law_alone (X : K.In h) (G : h.Ns mainGlobals mg) (c : He.SaysD fa fn K) : Df K mg "_law_alone" 29 := by
  obtain ⟨fd, F⟩ := c.def_ 18 (d := dd "_law_alone" 29) rfl
  exact ⟨_, fd, F, He.glo_ok X G (c.fact 38 (f := .glo "_law_alone") rfl)⟩
theorem facts {P : Program} {w : World} {f : Addr} (X : K.In h) (G : h.Ns mainGlobals mg) (hfa : mg ("law" : Str) = some (.ref f)) (c : SaysZ chk fa fn K) :
    ∃ fd : FuncData, (∀ (s : Shared) (v : Value), BindsTo s fd ⟨[v], []⟩ [("_law_script", v)]) ∧ ∀ base : Heap, FnOk P w K mg base (L2.CX P w) 29 f fd ["_law_script"] (upSp K sp_law) := by
  obtain ⟨cd, ck⟩ := c.d
  obtain ⟨fd, F⟩ := cd.def_ 19 (d := dd "law" 30) rfl
  have e := hfa.symm.trans (He.glo_ok X G (cd.fact 39 (f := .glo "law") rfl))
  cases e
  have b := FunD.bindsA (ps := ["_law_script"]) F fun _ _ _ _ _ _ us hl => match us, hl with | [_], _ => rfl
  refine ⟨fd, fun s v => b s [v] rfl, fun base => z_law (mk_of X G cd) (mx_of X G cd ck) (fun i x hx => ?_) F hfa⟩
  simp only [List.mem_cons, List.not_mem_nil, or_false, Prod.mk.injEq] at hx
  rcases hx with ⟨rfl, rfl⟩ | ⟨rfl, rfl⟩ | ⟨rfl, rfl⟩ | ⟨rfl, rfl⟩ | ⟨rfl, rfl⟩ | ⟨rfl, rfl⟩ | ⟨rfl, rfl⟩ | ⟨rfl, rfl⟩ | ⟨rfl, rfl⟩ | ⟨rfl, rfl⟩ | ⟨rfl, rfl⟩ | ⟨rfl, rfl⟩ | ⟨rfl, rfl⟩ | ⟨rfl, rfl⟩ | ⟨rfl, rfl⟩ | ⟨rfl, rfl⟩ | ⟨rfl, rfl⟩ | ⟨rfl, rfl⟩ | ⟨rfl, rfl⟩
  · exact df_need_columns X G cd
  · exact df_width_of_one X G cd
  · exact df_width_of_two X G cd
  · exact df_width_of X G cd
  · exact df__law_whole X G cd
  · exact df__law_at X G cd
  · exact df__law_some X G cd
  · exact df__law_over_one X G cd
  · exact df__law_over_two X G cd
  · exact df__law_view X G cd
  · exact df__law_widths X G cd
  · exact df__law_there X G cd
  · exact df__law_wide_one X G cd
  · exact df__law_wide X G cd
  · exact df__law_odd X G cd
  · exact df__law_wrapped X G cd
  · exact df__law_many X G cd
  · exact df__law_said X G cd
  · exact df__law_alone X G cd
end
end K06
open PySem PySem.W PySem.Calls PyProof.Rows Zy
theorem PySem.Challenge.cw_changeview_k06_widths_told_holds : PySem.Challenge.rw_changeview_k06_widths_told.Holds := by
  w_on; o_law
  refine HandSHeadRun.head_any (r := OpenLaw.row PySem.Challenge.rw_changeview_k06_widths_told) (q := view (OpenLaw.row PySem.Challenge.rw_changeview_k06_widths_told).prog [30]) (H := K06.hk) (ob := K06.ob) (M := 2500) (loose := K06.loose) (d := HandSHeadRun.topDef (OpenLaw.row PySem.Challenge.rw_changeview_k06_widths_told).prog 30) (kwd := []) K06.ob_eq
    (by kernel_rfl) (fun s => by kernel_rfl) K06.run (by kernel_rfl) (by kernel_rfl) (by kernel_rfl) (by rfl) (by first | assumption | decide +kernel) (by decide +kernel) ⟨rfl, rfl, rfl, rfl, rfl, by decide +kernel⟩ ?hw ?hc
  case hw => w_witness2
  case hc =>
    refine L2.walk_ofE (l := PySem.Challenge.rw_changeview_k06_widths_told) (n := 63) (k := 29) (x := "_law_script") (CX := K06.CXU) rfl (by decide) (by kernel_rfl) ⟨rfl, by decide, by decide⟩ ?F ?g
    case F =>
      intro w mg fa h Y G hmg0
      obtain ⟨K, KX, c⟩ := Y
      have hmg : mg ("law" : PySem.Str) = some (.ref fa) := by
        have e : (HandSHeadRun.topDef (OpenLaw.row PySem.Challenge.rw_changeview_k06_widths_told).prog 30).name = ("law" : PySem.Str) := by kernel_rfl
        rw [← e]
        exact hmg0
      obtain ⟨fd, hb, hF⟩ := K06.facts (P := (PySem.Challenge.rw_changeview_k06_widths_told).prog) (w := w) KX G hmg c
      exact ⟨K, fd, upSp K K06.sp_law, KX, hb, fun H a ns hl hO hS => ⟨[.scr ns], fun _ => none, fun d _ => d = .bl true, fun _ _ => False, .cons (.scr (K06.only_sq hO hS)) .nil, fun _ _ e => (by cases e), ⟨ns, rfl, fun _ => rfl⟩, fun v H' ⟨d, Z', _, rd, _, e⟩ => by subst e; cases rd; rfl, fun _ _ _ _ _ e => e.elim⟩, fun base _ _ => K06.cx_up (hF base)⟩
    case g =>
      rintro H s e s' ⟨P, w, a, B, H', cls, d, _, _, _, _, _, _, _, z⟩
      exact z

