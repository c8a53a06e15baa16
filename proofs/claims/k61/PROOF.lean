import PyProof.Rows.All
import Wide.All
import OpenK.AllK
import Wide.FinOn
import HandS.ForMost
import HandS.Codes
import HandS.Lambda
import HandS.EndTab
import HandS.Deep
import HandS.TupAny
import HandS.Walk
import HandS.IsInst
import HandS.Property
import PyProof.AutoSeq1
import HandS.Defaults
import PyProof.EnumMake
import PyProof.Draws
import KE.GoesMore
import HandS.Nested
import KE.SortKeyHeap
import KE.KeyNested
import KE.KDictSum
import KE.KDictWalk
import KE.KDictKeyed
import HandS.Strs
import HandS.Star
import HandS.Wide
import HandS.Text
import HandS.Steps
import HandS.TupSets
import PySem.Challenge.RW_copiedfrom_k61_whole_what_several_have_p
import HandS.Conv
import HandS.Head0
import HandS.Head1
import HandS.Head2
import HandS.HeadHook1
import HandS.HeadHook2
import HandS.HeadHook3
import HandS.HeadHook4
import HandS.HeadWalk
set_option Elab.async false
set_option linter.all false
set_option maxRecDepth 100000
set_option maxHeartbeats 2000000
/-! Data that lie in tuples, slots that know what they hold, and readings that every construct shares. -/
namespace Cf
open PySem PySem.Spec PyProof.Rows L2

abbrev Tb := List (Addr × Str)
/-- what stays as it is whatever lists and dicts do -/
def imm : HO → Bool
  | .lst _ | .dK _ | .dT _ | .set _ _ | .xd _ | .tbl _ => false
  | _ => true
def Ez (H H' : Hp) : Prop := ∀ a o, H a = some o → imm o = true → H' a = some o
structure Ex (T : Tb) (H H' : Hp) : Prop where
  ext : LamX.ExtN H H'
  bk : ∀ b, H' b = none → H b = none
  tb : LamX.Tabs T H → LamX.Tabs T H'
theorem Ez.refl (H : Hp) : Ez H H := fun _ _ h _ => h
theorem Ez.trans {H H1 H2 : Hp} (a : Ez H H1) (b : Ez H1 H2) : Ez H H2 := fun x o h i => b x o (a x o h i) i
theorem Ex.refl {T : Tb} (H : Hp) : Ex T H H := ⟨LamX.ExtN.refl H, fun _ h => h, id⟩
theorem Ex.trans {T : Tb} {H H1 H2 : Hp} (a : Ex T H H1) (b : Ex T H1 H2) : Ex T H H2 := ⟨a.ext.trans b.ext, fun p h => a.bk p (b.bk p h), fun t => b.tb (a.tb t)⟩
theorem Ez.of {H H' : Hp} (e : LamX.ExtN H H') : Ez H H' := fun a o h i => e a o h fun ps z => by rw [z] at i; cases i
theorem Ex.ez {T : Tb} {H H' : Hp} (e : Ex T H H') : Ez H H' := Ez.of e.ext
theorem Ex.same {T : Tb} {H H' : Hp} (e : ∀ b o, H b = some o → H' b = some o) : Ex T H H' := by
  refine ⟨LamX.ExtN.of e, fun b h => ?_, fun t => t.ext e⟩
  cases q : H b with
  | none => rfl
  | some o =>
    rw [e b o q] at h
    cases h
theorem same_new {H : Hp} {p : Addr} {o : HO} (h : H p = none) : ∀ b u, H b = some u → upd H p o b = some u := fun b u e => by
  rw [upd_ne (ne_of_none e h)]
  exact e
theorem Ex.new {T : Tb} {H : Hp} {p : Addr} {o : HO} (h : H p = none) : Ex T H (upd H p o) := Ex.same (same_new h)
/-- what may be owned: lists and dicts -/
def mutO : HO → Bool
  | .lst _ | .dK _ | .dT _ => true
  | _ => false
theorem mut_imm {o : HO} (h : mutO o = true) : imm o = false := by cases o <;> first | rfl | cases h
theorem Ez.put {H : Hp} {p : Addr} {o u : HO} (h : H p = some o) (m : mutO o = true) : Ez H (upd H p u) := fun a x e i => by
  by_cases q : a = p
  · subst q
    rw [h] at e
    cases e
    rw [mut_imm m] at i
    cases i
  · rw [upd_ne q]
    exact e
theorem tabs_put {T : Tb} {H : Hp} {p : Addr} {o u : HO} (h : H p = some o) (m : mutO o = true) (t : LamX.Tabs T H) : LamX.Tabs T (upd H p u) := fun q hq => by
  obtain ⟨ps, h1, h2, h3⟩ := t q hq
  have ne : ∀ b x, H b = some x → mutO x = false → b ≠ p := fun b x e mx z => by
    subst z
    rw [h] at e
    cases e
    rw [m] at mx
    cases mx
  refine ⟨ps, by rw [upd_ne (ne _ _ h1 rfl)]; exact h1, h2, fun pos cv hc => ?_⟩
  obtain ⟨c, e1, e2⟩ := h3 pos cv hc
  exact ⟨c, e1, by rw [upd_ne (ne _ _ e2 rfl)]; exact e2⟩
/-- what an older heap does not know may change -/
theorem Ex.put {T : Tb} {H0 H : Hp} {p : Addr} {o u : HO} (e : Ex T H0 H) (h0 : H0 p = none) (h : H p = some o) (m : mutO o = true) : Ex T H0 (upd H p u) :=
  ⟨fun a x ha n => by rw [upd_ne (ne_of_none ha h0)]; exact e.ext a x ha n, fun a ha => e.bk a (by
    by_cases q : a = p
    · subst q
      rw [upd_same] at ha
      cases ha
    · rw [upd_ne q] at ha
      exact ha), fun t => tabs_put h m (e.tb t)⟩

/-! ### data without lists -/
mutual
def noL : PyData → Bool
  | .none | .bool _ | .int _ | .str _ => true
  | .list _ | .dict _ => false
  | .tuple xs => noLs xs
def noLs : List PyData → Bool
  | [] => true
  | x :: xs => noL x && noLs xs
end
theorem rd_tup {H H' : Hp} {a : Addr} {xs : List V} (e : Ez H H') (h : Rd H a (.tup xs)) : Rd H' a (.tup xs) := by
  rcases h with h | ⟨o, h⟩
  · exact .inl (e _ _ h rfl)
  · exact .inr ⟨o, e _ _ h rfl⟩
theorem sqt_ez {K : PySem.W.Frag} {H H' : Hp} {a : Addr} {xs : List V} (e : Ez H H') (h : SqT K H a xs) : SqT K H' a xs := by
  rcases h with h | h
  · exact .inl (rd_tup e h)
  · exact .inr h
theorem sql_ex {K : PySem.W.Frag} {H H' : Hp} {a : Addr} {xs : List V} (e : LamX.ExtN H H') (h : SqL K H a xs) : SqL K H' a xs := by
  rcases h with (h | ⟨o, h⟩) | h
  · exact .inl (.inl (e _ _ h fun ps z => by cases z))
  · exact .inl (.inr ⟨o, e _ _ h fun ps z => by cases z⟩)
  · exact .inr h
theorem sqt_ex {K : PySem.W.Frag} {H H' : Hp} {a : Addr} {xs : List V} (e : LamX.ExtN H H') (h : SqT K H a xs) : SqT K H' a xs := sqt_ez (Ez.of e) h
mutual
theorem dp_ez {K : PySem.W.Frag} {H H' : Hp} (e : Ez H H') : ∀ (d : PyData) (v : V), noL d = true → Dp K H v d → Dp K H' v d
  | .none, _, _, h => by cases h; exact .non
  | .bool _, _, _, h => by cases h; exact .bl _
  | .int _, _, _, h => by cases h; exact .int _
  | .str _, _, _, h => by cases h; exact .str _
  | .list _, _, n, _ => by cases n
  | .dict _, _, n, _ => by cases n
  | .tuple ds, _, n, h => by
    cases h with
    | tup h1 h2 => exact .tup (sqt_ez e h1) (dps_ez e ds _ n h2)
theorem dps_ez {K : PySem.W.Frag} {H H' : Hp} (e : Ez H H') : ∀ (ds : List PyData) (vs : List V), noLs ds = true → DpAll K H vs ds → DpAll K H' vs ds
  | [], _, _, h => by cases h; exact .nil
  | d :: ds, _, n, h => by
    cases h with
    | cons h1 h2 =>
      have n' : (noL d && noLs ds) = true := n
      rw [Bool.and_eq_true] at n'
      exact .cons (dp_ez e d _ n'.1 h1) (dps_ez e ds _ n'.2 h2)
end
theorem DpAll.len {K : PySem.W.Frag} {H : Hp} : ∀ {vs : List V} {ds : List PyData}, DpAll K H vs ds → vs.length = ds.length
  | _, [], h => by cases h; rfl
  | _, d :: ds, h => by
    cases h with
    | cons _ h2 => simp [DpAll.len h2]
theorem DpAll.app {K : PySem.W.Frag} {H : Hp} : ∀ {vs ws : List V} {ds es : List PyData}, DpAll K H vs ds → DpAll K H ws es → DpAll K H (vs ++ ws) (ds ++ es)
  | _, _, [], _, h, q => by cases h; exact q
  | _, _, d :: ds, _, h, q => by
    cases h with
    | cons h1 h2 => exact .cons h1 (DpAll.app h2 q)
theorem DpAll.at {K : PySem.W.Frag} {H : Hp} : ∀ {vs : List V} {ds : List PyData} {i : Nat} {v : V}, DpAll K H vs ds → vs[i]? = some v → ∃ d, ds[i]? = some d ∧ Dp K H v d
  | _, [], _, _, h, e => by cases h; simp at e
  | _, d :: ds, i, v, h, e => by
    cases h with
    | @cons w ws _ _ h1 h2 =>
      cases i with
      | zero =>
        simp at e
        subst e
        exact ⟨d, rfl, h1⟩
      | succ i =>
        obtain ⟨d', e1, e2⟩ := DpAll.at (i := i) h2 (by simpa using e)
        exact ⟨d', by simpa using e1, e2⟩
theorem DpAll.at' {K : PySem.W.Frag} {H : Hp} {vs : List V} {ds : List PyData} {i : Nat} {d : PyData} (h : DpAll K H vs ds) (e : ds[i]? = some d) : ∃ v, vs[i]? = some v ∧ Dp K H v d := by
  have hi := (List.getElem?_eq_some_iff.mp e).1
  obtain ⟨d', e1, e2⟩ := DpAll.at h (List.getElem?_eq_getElem (show i < vs.length by rw [DpAll.len h]; exact hi))
  rw [e] at e1
  cases e1
  exact ⟨_, List.getElem?_eq_getElem _, e2⟩
theorem DpAll.take {K : PySem.W.Frag} {H : Hp} : ∀ {vs : List V} {ds : List PyData} (n : Nat), DpAll K H vs ds → DpAll K H (vs.take n) (ds.take n)
  | _, [], n, h => by cases h; simp; exact .nil
  | _, d :: ds, n, h => by
    cases h with
    | cons h1 h2 => cases n with
      | zero => exact .nil
      | succ n => exact .cons h1 (DpAll.take n h2)
theorem DpAll.drop {K : PySem.W.Frag} {H : Hp} : ∀ {vs : List V} {ds : List PyData} (n : Nat), DpAll K H vs ds → DpAll K H (vs.drop n) (ds.drop n)
  | _, [], n, h => by cases h; simp; exact .nil
  | _, d :: ds, n, h => by
    cases h with
    | cons h1 h2 => cases n with
      | zero => exact .cons h1 h2
      | succ n => exact DpAll.drop n h2

/-! ### types whose values lie in tuples -/
class Enc (α : Type) [DecidableEq α] where
  enc : α → PyData
  dep : Nat
  eqv : ∀ a b : α, PyData.eqv (enc a) (enc b) = decide (a = b)
  lay : ∀ a : α, PyData.canLay0 (enc a) = true
  depth : ∀ a : α, PyData.depth (enc a) ≤ dep
  pure : ∀ a : α, noL (enc a) = true
abbrev enc {α : Type} [DecidableEq α] [Enc α] (a : α) : PyData := Enc.enc a
/-- a text of plain signs -/
abbrev Nm := { x : Str // PyData.strOk x = true }
def encs {α : Type} [DecidableEq α] [Enc α] (xs : List α) : List PyData := xs.map enc
/-- x in xs, x == y -/
def memb {α : Type} [DecidableEq α] (x : α) (xs : List α) : Bool := decide (x ∈ xs)
def eqb {α : Type} [DecidableEq α] (x y : α) : Bool := decide (x = y)
theorem memb_iff {α : Type} [DecidableEq α] {x : α} {xs : List α} : memb x xs = true ↔ x ∈ xs := decide_eq_true_iff
theorem memb_not {α : Type} [DecidableEq α] {x : α} {xs : List α} : memb x xs = false ↔ x ∉ xs := decide_eq_false_iff_not
theorem eqb_iff {α : Type} [DecidableEq α] {x y : α} : eqb x y = true ↔ x = y := decide_eq_true_iff
section
variable {α β : Type} [DecidableEq α] [DecidableEq β] [Enc α] [Enc β]
theorem encs_eqv : ∀ xs ys : List α, PyData.eqvAll (encs xs) (encs ys) = decide (xs = ys)
  | [], [] => rfl
  | [], _ :: _ => rfl
  | _ :: _, [] => rfl
  | x :: xs, y :: ys => by
    show (PyData.eqv (enc x) (enc y) && PyData.eqvAll (encs xs) (encs ys)) = _
    rw [Enc.eqv, encs_eqv xs ys]
    by_cases h : x = y <;> by_cases q : xs = ys <;> simp [h, q]
theorem encs_lay : ∀ xs : List α, PyData.canLayAll0 (encs xs) = true
  | [] => rfl
  | x :: xs => by
    show (PyData.canLay0 (enc x) && PyData.canLayAll0 (encs xs)) = true
    rw [Enc.lay, encs_lay xs]
    rfl
theorem encs_depth : ∀ xs : List α, PyData.depthAll (encs xs) ≤ Enc.dep α
  | [] => Nat.zero_le _
  | x :: xs => by
    show max (PyData.depth (enc x)) (PyData.depthAll (encs xs)) ≤ _
    exact Nat.max_le.mpr ⟨Enc.depth x, encs_depth xs⟩
theorem encs_pure : ∀ xs : List α, noLs (encs xs) = true
  | [] => rfl
  | x :: xs => by
    show (noL (enc x) && noLs (encs xs)) = true
    rw [Enc.pure, encs_pure xs]
    rfl
theorem encs_any (xs : List α) (x : α) : ((encs xs).any fun z => PyData.eqv z (enc x)) = memb x xs := by
  unfold encs memb
  rw [List.any_map]
  induction xs with
  | nil => rfl
  | cons y ys ih =>
    rw [List.any_cons, ih]
    show (PyData.eqv (enc y) (enc x) || _) = _
    rw [Enc.eqv]
    by_cases h : y = x
    · simp [h]
    · by_cases q : x ∈ ys
      · simp [q]
      · simp [h, q, Ne.symm h]
end
instance : Enc Bool where
  enc := .bool
  dep := 0
  eqv := fun a b => by cases a <;> cases b <;> rfl
  lay := fun _ => rfl
  depth := fun _ => Nat.le_refl _
  pure := fun _ => rfl
instance : Enc Int where
  enc := .int
  dep := 0
  eqv := fun a b => by
    show (a == b) = _
    by_cases h : a = b <;> simp [h]
  lay := fun _ => rfl
  depth := fun _ => Nat.le_refl _
  pure := fun _ => rfl
instance : Enc Nat where
  enc := fun n => .int n
  dep := 0
  eqv := fun a b => by
    show ((a : Int) == (b : Int)) = _
    by_cases h : a = b
    · simp [h]
    · have q : (a : Int) ≠ b := by omega
      rw [decide_eq_false h]
      exact beq_eq_false_iff_ne.mpr q
  lay := fun _ => rfl
  depth := fun _ => Nat.le_refl _
  pure := fun _ => rfl
instance : Enc Nm where
  enc := fun x => .str x.1
  dep := 0
  eqv := fun a b => by
    show (a.1 == b.1) = _
    by_cases h : a = b
    · simp [h]
    · have : a.1 ≠ b.1 := fun e => h (Subtype.ext e)
      simp [h, this]
  lay := fun x => x.2
  depth := fun _ => Nat.le_refl _
  pure := fun _ => rfl
instance {α : Type} [DecidableEq α] [Enc α] : Enc (List α) where
  enc := fun xs => .tuple (encs xs)
  dep := Enc.dep α + 1
  eqv := encs_eqv
  lay := encs_lay
  depth := fun xs => Nat.succ_le_succ (encs_depth xs)
  pure := encs_pure
instance {α β : Type} [DecidableEq α] [DecidableEq β] [Enc α] [Enc β] : Enc (α × β) where
  enc := fun p => .tuple [enc p.1, enc p.2]
  dep := max (Enc.dep α) (Enc.dep β) + 1
  eqv := fun a b => by
    show (PyData.eqv (enc a.1) (enc b.1) && (PyData.eqv (enc a.2) (enc b.2) && true)) = _
    rw [Enc.eqv, Enc.eqv]
    obtain ⟨a1, a2⟩ := a
    obtain ⟨b1, b2⟩ := b
    by_cases h : a1 = b1 <;> by_cases q : a2 = b2 <;> simp [h, q]
  lay := fun p => by
    show (PyData.canLay0 (enc p.1) && (PyData.canLay0 (enc p.2) && true)) = true
    rw [Enc.lay, Enc.lay]
    rfl
  depth := fun p => by
    show max (PyData.depth (enc p.1)) (max (PyData.depth (enc p.2)) 0) + 1 ≤ _
    have h1 : PyData.depth (enc p.1) ≤ Enc.dep α := Enc.depth p.1
    have h2 : PyData.depth (enc p.2) ≤ Enc.dep β := Enc.depth p.2
    omega
  pure := fun p => by
    show (noL (enc p.1) && (noL (enc p.2) && true)) = true
    rw [Enc.pure, Enc.pure]
    rfl
theorem enc_shaped {α : Type} [DecidableEq α] [Enc α] (h : Enc.dep α ≤ 63) (a : α) : SeqAt.shaped (enc a) = true := by
  show (PyData.canLay0 (enc a) && decide (PyData.depth (enc a) ≤ 64)) = true
  rw [Enc.lay, Bool.true_and, decide_eq_true_eq]
  exact Nat.le_trans (Enc.depth a) (by omega)
theorem encs_shaped {α : Type} [DecidableEq α] [Enc α] (h : Enc.dep α ≤ 63) (xs : List α) : SeqAt.shaped (.list (encs xs)) = true := by
  show (PyData.canLayAll0 (encs xs) && decide (PyData.depthAll (encs xs) + 1 ≤ 64)) = true
  rw [encs_lay, Bool.true_and, decide_eq_true_eq]
  have := encs_depth xs
  omega

/-! ### what is known of a value -/
/-- stable data: whatever lists do -/
structure TP where
  p : V → Hp → Prop
  st : ∀ v H H', Ez H H' → p v H → p v H'
/-- what stands while all stands -/
structure RP where
  p : V → Hp → Prop
  st : ∀ v H H', LamX.ExtN H H' → p v H → p v H'
/-- what is owned: a value and the addresses that it rests on -/
structure OP where
  p : V → (Addr → Prop) → Hp → Prop
  st : ∀ v S H H', Ez H H' → (∀ a, S a → H' a = H a) → p v S H → p v S H'
  dom : ∀ v S H, p v S H → ∀ a, S a → ∃ o, H a = some o ∧ mutO o = true
section
variable (K : PySem.W.Frag) {α : Type} [DecidableEq α] [Enc α]
def is (a : α) : TP := ⟨fun v H => Dp K H v (enc a), fun v H H' e h => dp_ez e (enc a) v (Enc.pure a) h⟩
/-- a list of these at l -/
def LstAt (H : Hp) (l : Addr) (xs : List α) : Prop := ∃ vs, H l = some (.lst vs) ∧ DpAll K H vs (encs xs)
def lstO (xs : List α) : OP where
  p := fun v S H => ∃ l vs, v = .ref l ∧ S = (fun a => a = l) ∧ H l = some (.lst vs) ∧ DpAll K H vs (encs xs)
  st := fun v S H H' e k ⟨l, vs, h1, h2, h3, h4⟩ => ⟨l, vs, h1, h2, (k l (by rw [h2])).trans h3, dps_ez e _ _ (encs_pure xs) h4⟩
  dom := fun v S H ⟨l, vs, _, h2, h3, _⟩ a ha => by
    rw [h2] at ha
    subst ha
    exact ⟨_, h3, rfl⟩
/-- a list that is read -/
def lstR (xs : List α) : RP where
  p := fun v H => ∃ l vs, v = .ref l ∧ SqL K H l vs ∧ DpAll K H vs (encs xs)
  st := fun v H H' e ⟨l, vs, h1, h2, h3⟩ => ⟨l, vs, h1, sql_ex e h2, dps_ez (Ez.of e) _ _ (encs_pure xs) h3⟩
/-- a list or a tuple that is read -/
def seqR (xs : List α) : RP where
  p := fun v H => ∃ l vs, v = .ref l ∧ (SqL K H l vs ∨ SqT K H l vs) ∧ DpAll K H vs (encs xs)
  st := fun v H H' e ⟨l, vs, h1, h2, h3⟩ => ⟨l, vs, h1, h2.imp (sql_ex e) (sqt_ex e), dps_ez (Ez.of e) _ _ (encs_pure xs) h3⟩
end
def TP.r (P : TP) : RP := ⟨P.p, fun v H H' e h => P.st v H H' (Ez.of e) h⟩
section
variable {K : PySem.W.Frag} {H : Hp} {v : V}
theorem is_int {i : Int} : (is K i).p v H ↔ v = .int i := ⟨fun h => by cases h; rfl, fun h => by subst h; exact .int i⟩
theorem is_nat {i : Nat} : (is K i).p v H ↔ v = .int i := ⟨fun h => by cases h; rfl, fun h => by subst h; exact .int i⟩
theorem is_bool {b : Bool} : (is K b).p v H ↔ v = .bl b := ⟨fun h => by cases h; rfl, fun h => by subst h; exact .bl b⟩
theorem is_nm {x : Nm} : (is K x).p v H ↔ v = .str x.1 := ⟨fun h => by cases h; rfl, fun h => by subst h; exact .str x.1⟩
variable {α β : Type} [DecidableEq α] [DecidableEq β] [Enc α] [Enc β]
theorem is_list {xs : List α} : (is K xs).p v H ↔ ∃ a vs, v = .ref a ∧ SqT K H a vs ∧ DpAll K H vs (encs xs) := ⟨fun h => by
  cases h with
  | tup h1 h2 => exact ⟨_, _, rfl, h1, h2⟩, fun ⟨a, vs, h1, h2, h3⟩ => by subst h1; exact .tup h2 h3⟩
theorem is_pair {p : α × β} : (is K p).p v H ↔ ∃ a x y, v = .ref a ∧ SqT K H a [x, y] ∧ (is K p.1).p x H ∧ (is K p.2).p y H := ⟨fun h => by
  have h : Dp K H v (.tuple [enc p.1, enc p.2]) := h
  cases h with
  | tup h1 h2 =>
    cases h2 with
    | cons q1 q2 => cases q2 with
      | cons q3 q4 =>
        cases q4
        exact ⟨_, _, _, rfl, h1, q1, q3⟩, fun ⟨a, x, y, h1, h2, h3, h4⟩ => by
  subst h1
  exact .tup h2 (.cons h3 (.cons h4 .nil))⟩
theorem seq_of_is {xs : List α} (h : (is K xs).p v H) : (seqR K xs).p v H := by
  obtain ⟨a, vs, h1, h2, h3⟩ := is_list.mp h
  exact ⟨a, vs, h1, .inr h2, h3⟩
theorem seq_of_lst {xs : List α} (h : (lstR K xs).p v H) : (seqR K xs).p v H := by
  obtain ⟨a, vs, h1, h2, h3⟩ := h
  exact ⟨a, vs, h1, .inl h2, h3⟩
end
end Cf
set_option maxHeartbeats 2000000
namespace Cf
open PySem PySem.Spec PyProof.Rows L2

/-! ### slots -/
inductive AV where
  | u
  | t (P : TP)
  | r (P : RP)
  | o (O : OP)
def SlotOk (R H : Hp) (S : Addr → Prop) : AV → Option (Option V) → Prop
  | .u, _ => True
  | .t P, s => ∃ v, s = some (some v) ∧ P.p v H
  | .r P, s => ∃ v, s = some (some v) ∧ P.p v R
  | .o O, s => ∃ v, s = some (some v) ∧ O.p v S H
/-- where each slot's own objects lie -/
structure Own (R H0 : Hp) (ρ : List AV) (σ : L2.St) (H : Hp) (F : Nat → Addr → Prop) : Prop where
  one : ∀ i j a, F i a → F j a → i = j
  new : ∀ i a, F i a → H0 a = none
  has : ∀ i a, F i a → ∃ o, H a = some o ∧ mutO o = true
  ok : ∀ i a, ρ[i]? = some a → SlotOk R H (F i) a σ[i]?
structure En (T : Tb) (R H0 : Hp) (ρ : List AV) (σ : L2.St) (H : Hp) : Prop where
  ex0 : Ex T R H0
  ex : Ex T H0 H
  tab : LamX.Tabs T H
  len : σ.length = ρ.length
  own : ∃ F, Own R H0 ρ σ H F
section
variable {T : Tb} {R H0 H H' : Hp} {ρ ρ' : List AV} {σ : L2.St}
theorem En.exR (e : En T R H0 ρ σ H) : Ex T R H := e.ex0.trans e.ex
theorem SlotOk.step {S : Addr → Prop} {a : AV} {s : Option (Option V)} (h : SlotOk R H S a s) (e : Ez H H') (k : ∀ a, S a → H' a = H a) : SlotOk R H' S a s := by
  cases a with
  | u => trivial
  | t P => obtain ⟨v, h1, h2⟩ := h; exact ⟨v, h1, P.st _ _ _ e h2⟩
  | r P => exact h
  | o O => obtain ⟨v, h1, h2⟩ := h; exact ⟨v, h1, O.st _ _ _ _ e k h2⟩
theorem mut_ntbl {o : HO} (m : mutO o = true) (ps : Array Value) : o ≠ .tbl ps := fun z => by rw [z] at m; cases m
theorem Own.step {F : Nat → Addr → Prop} (h : Own R H0 ρ σ H F) (e : LamX.ExtN H H') : Own R H0 ρ σ H' F := by
  have k : ∀ i a, F i a → H' a = H a := fun i a ha => by
    obtain ⟨o, h1, h2⟩ := h.has i a ha
    rw [h1]
    exact e a o h1 (mut_ntbl h2)
  exact ⟨h.one, h.new, fun i a ha => by rw [k i a ha]; exact h.has i a ha, fun i a ha => (h.ok i a ha).step (Ez.of e) (k i)⟩
theorem En.step (e : En T R H0 ρ σ H) (x : Ex T H H') : En T R H0 ρ σ H' := by
  obtain ⟨F, h⟩ := e.own
  exact ⟨e.ex0, e.ex.trans x, x.tb e.tab, e.len, F, h.step x.ext⟩
/-- forgetting -/
inductive Wk : List AV → List AV → Prop
  | nil : Wk [] []
  | same {a : AV} {l l' : List AV} : Wk l l' → Wk (a :: l) (a :: l')
  | drop {a : AV} {l l' : List AV} : Wk l l' → Wk (a :: l) (.u :: l')
theorem Wk.refl : ∀ l : List AV, Wk l l
  | [] => .nil
  | _ :: l => .same (Wk.refl l)
theorem Wk.len {l l' : List AV} (h : Wk l l') : l'.length = l.length := by
  induction h with
  | nil => rfl
  | same _ ih => simp [ih]
  | drop _ ih => simp [ih]
theorem Wk.at {l l' : List AV} (h : Wk l l') : ∀ (i : Nat) (a : AV), l'[i]? = some a → a = .u ∨ l[i]? = some a := by
  induction h with
  | nil => intro i a e; simp at e
  | same _ ih => intro i a e; cases i with
    | zero => exact .inr e
    | succ i => exact ih i a (by simpa using e)
  | drop _ ih => intro i a e; cases i with
    | zero => simp at e; exact .inl e.symm
    | succ i => exact ih i a (by simpa using e)
theorem En.weak (e : En T R H0 ρ σ H) (w : Wk ρ ρ') : En T R H0 ρ' σ H := by
  obtain ⟨F, h⟩ := e.own
  refine ⟨e.ex0, e.ex, e.tab, by rw [e.len, w.len], F, h.one, h.new, h.has, fun i a ha => ?_⟩
  rcases w.at i a ha with q | q
  · subst q; trivial
  · exact h.ok i a q
/-- a slot set to a thing that lies in nothing of ours -/
theorem En.set_t {i : Nat} {v : V} {P : TP} (e : En T R H0 ρ σ H) (h : P.p v H) : En T R H0 (ρ.set i (.t P)) (σ.set i (some v)) H := by
  obtain ⟨F, w⟩ := e.own
  refine ⟨e.ex0, e.ex, e.tab, by rw [List.length_set, List.length_set, e.len], fun j a => j ≠ i ∧ F j a, fun j k a h1 h2 => w.one j k a h1.2 h2.2, fun j a h1 => w.new j a h1.2, fun j a h1 => w.has j a h1.2, fun j a ha => ?_⟩
  by_cases q : j = i
  · subst q
    have hj : j < ρ.length := by
      have := (List.getElem?_eq_some_iff.mp ha).1
      rwa [List.length_set] at this
    rw [List.getElem?_set_self hj] at ha
    cases ha
    exact ⟨v, List.getElem?_set_self (by rw [e.len]; exact hj), h⟩
  · rw [List.getElem?_set_ne (Ne.symm q)] at ha
    rw [List.getElem?_set_ne (Ne.symm q)]
    have z := w.ok j a ha
    have eF : (fun a => j ≠ i ∧ F j a) = F j := funext fun a => propext ⟨fun z => z.2, fun z => ⟨q, z⟩⟩
    rw [eF]
    exact z
theorem En.set_u {i : Nat} {v : V} (e : En T R H0 ρ σ H) : En T R H0 (ρ.set i .u) (σ.set i (some v)) H := by
  have h := e.set_t (i := i) (v := v) (P := ⟨fun _ _ => True, fun _ _ _ _ _ => trivial⟩) trivial
  obtain ⟨F, w⟩ := h.own
  refine ⟨h.ex0, h.ex, h.tab, by rw [h.len]; simp, F, w.one, w.new, w.has, fun j a ha => ?_⟩
  by_cases q : j = i
  · subst q
    have hj : j < ρ.length := by
      have := (List.getElem?_eq_some_iff.mp ha).1
      rwa [List.length_set] at this
    rw [List.getElem?_set_self hj] at ha
    cases ha
    trivial
  · rw [List.getElem?_set_ne (Ne.symm q)] at ha
    exact w.ok j a (by rw [List.getElem?_set_ne (Ne.symm q)]; exact ha)
/-- a slot set to a new thing of ours -/
theorem En.set_o {i : Nat} {v : V} {O : OP} {S : Addr → Prop} (e : En T R H0 ρ σ H) (hn : ∀ a, S a → H0 a = none) (hF : ∀ F, Own R H0 ρ σ H F → ∀ j a, F j a → ¬ S a) (h : O.p v S H) : En T R H0 (ρ.set i (.o O)) (σ.set i (some v)) H := by
  obtain ⟨F, w⟩ := e.own
  have nF := hF F w
  refine ⟨e.ex0, e.ex, e.tab, by rw [List.length_set, List.length_set, e.len], fun j a => (j ≠ i ∧ F j a) ∨ (j = i ∧ S a), fun j k a h1 h2 => ?_, fun j a h1 => ?_, fun j a h1 => ?_, fun j a ha => ?_⟩
  · rcases h1 with h1 | h1 <;> rcases h2 with h2 | h2
    · exact w.one j k a h1.2 h2.2
    · exact absurd h2.2 (nF _ _ h1.2)
    · exact absurd h1.2 (nF _ _ h2.2)
    · rw [h1.1, h2.1]
  · rcases h1 with h1 | h1
    · exact w.new j a h1.2
    · exact hn a h1.2
  · rcases h1 with h1 | h1
    · exact w.has j a h1.2
    · exact O.dom _ _ _ h a h1.2
  · by_cases q : j = i
    · subst q
      have hj : j < ρ.length := by
        have := (List.getElem?_eq_some_iff.mp ha).1
        rwa [List.length_set] at this
      rw [List.getElem?_set_self hj] at ha
      cases ha
      refine ⟨v, List.getElem?_set_self (by rw [e.len]; exact hj), ?_⟩
      have eF : (fun a => (j ≠ j ∧ F j a) ∨ (j = j ∧ S a)) = S := funext fun a => propext ⟨fun z => z.elim (fun z => absurd rfl z.1) fun z => z.2, fun z => .inr ⟨rfl, z⟩⟩
      rw [eF]
      exact h
    · rw [List.getElem?_set_ne (Ne.symm q)] at ha
      rw [List.getElem?_set_ne (Ne.symm q)]
      have z := w.ok j a ha
      have eF : (fun a => (j ≠ i ∧ F j a) ∨ (j = i ∧ S a)) = F j := funext fun a => propext ⟨fun z => z.elim (fun z => z.2) fun z => absurd z.1 q, fun z => .inl ⟨q, z⟩⟩
      rw [eF]
      exact z
/-- what is ours is changed: the slot knows the new one -/
theorem En.put {i : Nat} {v : V} {O O' : OP} {p : Addr} {o : HO} (e : En T R H0 ρ σ H) (hi : ρ[i]? = some (.o O)) (hv : σ[i]? = some (some v))
    (h : ∀ S, O.p v S H → S p ∧ (mutO o = true) ∧ O'.p v S (upd H p o)) : En T R H0 (ρ.set i (.o O')) σ (upd H p o) := by
  obtain ⟨F, w⟩ := e.own
  obtain ⟨v', e1, q⟩ : ∃ v, σ[i]? = some (some v) ∧ O.p v (F i) H := w.ok i _ hi
  rw [hv] at e1
  cases e1
  obtain ⟨h1, h2, h3⟩ := h _ q
  obtain ⟨ob, h4, h5⟩ := w.has i p h1
  have ez : Ez H (upd H p o) := Ez.put h4 h5
  have off : ∀ j a, j ≠ i → F j a → upd H p o a = H a := fun j a hj ha => upd_ne fun z => hj (w.one j i a ha (z ▸ h1))
  refine ⟨e.ex0, e.ex.put (w.new i p h1) h4 h5, tabs_put h4 h5 e.tab, by rw [List.length_set, e.len], F, w.one, w.new, fun j a ha => ?_, fun j a ha => ?_⟩
  · by_cases q : a = p
    · subst q
      exact ⟨o, upd_same, h2⟩
    · rw [upd_ne q]
      exact w.has j a ha
  · by_cases q : j = i
    · subst q
      have hj : j < ρ.length := by
        have := (List.getElem?_eq_some_iff.mp ha).1
        rwa [List.length_set] at this
      rw [List.getElem?_set_self hj] at ha
      cases ha
      exact ⟨v, hv, h3⟩
    · rw [List.getElem?_set_ne (Ne.symm q)] at ha
      exact (w.ok j a ha).step ez fun a ha => off j a q ha
theorem En.slot {i : Nat} {a : AV} (e : En T R H0 ρ σ H) (h : ρ[i]? = some a) : ∃ S, SlotOk R H S a σ[i]? := by
  obtain ⟨F, w⟩ := e.own
  exact ⟨F i, w.ok i a h⟩
end

/-! ### readings that all share -/
/-- what an expression gives in such slots -/
def cE (T : Tb) (R : Hp) (ρ : List AV) (P : V → Hp → Prop) : TE := fun σ H Q => (∃ H0, En T R H0 ρ σ H) ∧ ∀ v H', Ex T H H' → P v H' → Q v H'
/-- what a test answers -/
def cT (T : Tb) (R : Hp) (ρ : List AV) (b : Bool) : TT := fun σ H Q => (∃ H0, En T R H0 ρ σ H) ∧ ∀ H', Ex T H H' → Q b H'
/-- an expression that makes a new thing -/
def cN (T : Tb) (R : Hp) (ρ : List AV) (O : OP) : TE := fun σ H Q => (∃ H0, En T R H0 ρ σ H) ∧ ∀ v S H', (∀ a, S a → H a = none) → Ex T H H' → O.p v S H' → Q v H'
def AllP : List RP → List V → Hp → Prop
  | [], [], _ => True
  | P :: Ps, v :: vs, H => P.p v H ∧ AllP Ps vs H
  | _, _, _ => False
theorem AllP.step {H H' : Hp} (e : LamX.ExtN H H') : ∀ {Ps : List RP} {vs : List V}, AllP Ps vs H → AllP Ps vs H'
  | [], [], _ => trivial
  | P :: Ps, v :: vs, h => ⟨P.st _ _ _ e h.1, AllP.step e h.2⟩
  | [], _ :: _, h => h.elim
  | _ :: _, [], h => h.elim
def cA (T : Tb) (R : Hp) (ρ : List AV) (Ps : List RP) : TA := fun σ H Q => (∃ H0, En T R H0 ρ σ H) ∧ ∀ vs H', Ex T H H' → AllP Ps vs H' → Q vs H'
abbrev E (T : Tb) (R : Hp) (X : Cx) (ρ : List AV) (e : Expr) (P : V → Hp → Prop) : Prop := PE X e (cE T R ρ P)
abbrev N (T : Tb) (R : Hp) (X : Cx) (ρ : List AV) (e : Expr) (O : OP) : Prop := PE X e (cN T R ρ O)
abbrev B (T : Tb) (R : Hp) (X : Cx) (ρ : List AV) (e : Expr) (b : Bool) : Prop := PT X e (cT T R ρ b)
abbrev As (T : Tb) (R : Hp) (X : Cx) (ρ : List AV) (es : List Expr) (Ps : List RP) : Prop := PA X es (cA T R ρ Ps)
section
variable {T : Tb} {R : Hp} {X : Cx} {ρ : List AV} {e : Expr} {es : List Expr}
theorem e_of {t : TE} {P : V → Hp → Prop} (h : PE X e t) (k : ∀ σ H H0 Q, En T R H0 ρ σ H → (∀ v H', Ex T H H' → P v H' → Q v H') → t σ H Q) : E T R X ρ e P :=
  ⟨fun pins s σ H Q I ⟨⟨H0, e⟩, q⟩ => h.run pins s σ H Q I (k σ H H0 Q e q)⟩
theorem n_of {t : TE} {O : OP} (h : PE X e t) (k : ∀ σ H H0 Q, En T R H0 ρ σ H → (∀ v S H', (∀ a, S a → H a = none) → Ex T H H' → O.p v S H' → Q v H') → t σ H Q) : N T R X ρ e O :=
  ⟨fun pins s σ H Q I ⟨⟨H0, e⟩, q⟩ => h.run pins s σ H Q I (k σ H H0 Q e q)⟩
theorem b_of {t : TT} {b : Bool} (h : PT X e t) (k : ∀ σ H H0 Q, En T R H0 ρ σ H → (∀ H', Ex T H H' → Q b H') → t σ H Q) : B T R X ρ e b :=
  ⟨fun pins s σ H Q I ⟨⟨H0, e⟩, q⟩ => h.run pins s σ H Q I (k σ H H0 Q e q)⟩
theorem e_imp {P P' : V → Hp → Prop} (h : E T R X ρ e P) (k : ∀ v H, Ex T R H → P v H → P' v H) : E T R X ρ e P' :=
  e_of h fun σ H H0 Q en q => ⟨⟨H0, en⟩, fun v H' x p => q v H' x (k v H' (en.exR.trans x) p)⟩
theorem e_weak {ρ' : List AV} {P : V → Hp → Prop} (h : E T R X ρ' e P) (w : Wk ρ ρ') : E T R X ρ e P :=
  e_of h fun σ H H0 Q en q => ⟨⟨H0, en.weak w⟩, q⟩
theorem e_cast {α : Type} {a b : α} {f : α → V → Hp → Prop} (h : E T R X ρ e (f a)) (q : a = b) : E T R X ρ e (f b) := q ▸ h
theorem b_eq {a b : Bool} (h : B T R X ρ e a) (q : a = b) : B T R X ρ e b := q ▸ h
/-- a new list, as one that is read -/
theorem e_new {O : OP} {P : V → Hp → Prop} (h : N T R X ρ e O) (k : ∀ v S H, O.p v S H → P v H) : E T R X ρ e P :=
  e_of h fun σ H H0 Q en q => ⟨⟨H0, en⟩, fun v S H' _ x p => q v H' x (k v S H' p)⟩
/-! names -/
theorem e_var (i : Nat) {x : Str} {P : TP} {pos : Pos} (hr : ρ[i]? = some (.t P)) (hN : X.N[i]? = some x := by rfl) (hv : Vis X.env.scope x := by first | exact Or.inl rfl | exact Or.inr (Or.inl rfl) | exact Or.inr (Or.inr rfl)) (hd : (x == ("__debug__" : Str)) = false := by decide)
    (hcd : (x == ("__classdict__" : Str)) = false := by decide) : E T R X ρ (.Name x pos) P.p :=
  e_of (pe_var hN hv hd hcd) fun σ H H0 Q en q => by
    obtain ⟨S, v, h1, h2⟩ := en.slot hr
    exact ⟨v, h1, q v H (Ex.refl H) h2⟩
theorem e_par (i : Nat) {x : Str} {P : RP} {pos : Pos} (hr : ρ[i]? = some (.r P)) (hN : X.N[i]? = some x := by rfl) (hv : Vis X.env.scope x := by first | exact Or.inl rfl | exact Or.inr (Or.inl rfl) | exact Or.inr (Or.inr rfl)) (hd : (x == ("__debug__" : Str)) = false := by decide)
    (hcd : (x == ("__classdict__" : Str)) = false := by decide) : E T R X ρ (.Name x pos) P.p :=
  e_of (pe_var hN hv hd hcd) fun σ H H0 Q en q => by
    obtain ⟨S, v, h1, h2⟩ := en.slot hr
    exact ⟨v, h1, q v H (Ex.refl H) (P.st _ _ _ en.exR.ext h2)⟩
theorem e_own (i : Nat) {x : Str} {O : OP} {P : V → Hp → Prop} {pos : Pos} (hr : ρ[i]? = some (.o O)) (k : ∀ v S H, O.p v S H → P v H) (hN : X.N[i]? = some x := by rfl) (hv : Vis X.env.scope x := by first | exact Or.inl rfl | exact Or.inr (Or.inl rfl) | exact Or.inr (Or.inr rfl)) (hd : (x == ("__debug__" : Str)) = false := by decide)
    (hcd : (x == ("__classdict__" : Str)) = false := by decide) : E T R X ρ (.Name x pos) P :=
  e_of (pe_var hN hv hd hcd) fun σ H H0 Q en q => by
    obtain ⟨S, v, h1, h2⟩ := en.slot hr
    exact ⟨v, h1, q v H (Ex.refl H) (k v S H h2)⟩
/-! constants -/
theorem e_int {i : Int} {j : Nat} {pos : Pos} : E T R X ρ (.Constant (.int i) j pos) (is X.K i).p := e_of pe_int fun σ H H0 Q en q => q _ H (Ex.refl H) (is_int.mpr rfl)
theorem e_bl {b : Bool} {j : Nat} {pos : Pos} : E T R X ρ (.Constant (.bool b) j pos) (is X.K b).p := e_of pe_bl fun σ H H0 Q en q => q _ H (Ex.refl H) (is_bool.mpr rfl)
theorem e_nm (x : Nm) {j : Nat} {pos : Pos} : E T R X ρ (.Constant (.str x.1) j pos) (is X.K x).p := e_of pe_str fun σ H H0 Q en q => q _ H (Ex.refl H) (is_nm.mpr rfl)
theorem e_non {j : Nat} {pos : Pos} : E T R X ρ (.Constant .none j pos) (fun v _ => v = .non) := e_of pe_non fun σ H H0 Q en q => q _ H (Ex.refl H) rfl
/-! arguments -/
theorem as_nil : As T R X ρ [] [] := ⟨fun pos pins s σ H Q I ⟨_, q⟩ => pa_nil.run pos pins s σ H Q I (q [] H (Ex.refl H) trivial)⟩
theorem as_cons {P : RP} {Ps : List RP} (h : E T R X ρ e P.p) (t : As T R X ρ es Ps) (hs : starEach (e :: es) X.env = (false, eval e X.env) :: starEach es X.env := by rfl) : As T R X ρ (e :: es) (P :: Ps) := by
  refine ⟨fun pos pins s σ H Q I ⟨⟨H0, en⟩, q⟩ => (pa_cons h t hs).run pos pins s σ H Q I ?_⟩
  refine ⟨⟨H0, en⟩, fun v H1 x1 p1 => ⟨⟨H0, en.step x1⟩, fun vs H2 x2 p2 => q (v :: vs) H2 (x1.trans x2) ⟨P.st _ _ _ x2.ext p1, p2⟩⟩⟩
/-! operators on values -/
theorem e_op2 {a b : Expr} {op : Operator} {r : R2} {Pa Pb : RP} {P : V → Hp → Prop} {pos : Pos} (hr : OpR X (binaryOp op) r) (ha : E T R X ρ a Pa.p) (hb : E T R X ρ b Pb.p)
    (k : ∀ x y H Q, Ex T R H → Pa.p x H → Pb.p y H → (∀ v H', Ex T H H' → P v H' → Q v H') → r x y H Q) : E T R X ρ (.BinOp a op b pos) P :=
  e_of (pe_op hr ha hb) fun σ H H0 Q en q => ⟨⟨H0, en⟩, fun x H1 x1 p1 => ⟨⟨H0, en.step x1⟩, fun y H2 x2 p2 =>
    k x y H2 Q ((en.exR.trans x1).trans x2) (Pa.st _ _ _ x2.ext p1) p2 fun v H' x3 p => q v H' ((x1.trans x2).trans x3) p⟩⟩
theorem n_op2 {a b : Expr} {op : Operator} {r : R2} {Pa Pb : RP} {O : OP} {pos : Pos} (hr : OpR X (binaryOp op) r) (ha : E T R X ρ a Pa.p) (hb : E T R X ρ b Pb.p)
    (k : ∀ x y H Q, Ex T R H → Pa.p x H → Pb.p y H → (∀ v S H', (∀ a, S a → H a = none) → Ex T H H' → O.p v S H' → Q v H') → r x y H Q) : N T R X ρ (.BinOp a op b pos) O :=
  n_of (pe_op hr ha hb) fun σ H H0 Q en q => ⟨⟨H0, en⟩, fun x H1 x1 p1 => ⟨⟨H0, en.step x1⟩, fun y H2 x2 p2 =>
    k x y H2 Q ((en.exR.trans x1).trans x2) (Pa.st _ _ _ x2.ext p1) p2 fun v S H' hS x3 p => q v S H' (fun a ha => (x1.trans x2).bk a (hS a ha)) ((x1.trans x2).trans x3) p⟩⟩
end
end Cf
set_option maxHeartbeats 2000000
namespace Cf
open PySem PySem.Spec PyProof.Rows L2

/-! ### what is walked -/
/-- the one object besides tuples that a walk rests on -/
abbrev Anc := Option (Addr × HO)
def AncOk (a : Anc) (H : Hp) : Prop := ∀ p o, a = some (p, o) → H p = some o
/-- the items come one by one while the anchor stands -/
structure Yl (T : Tb) (J : It) (a : Anc) (G : Hp → Prop) (Ps : List TP) (Y : Nat → Hp → V → Hp → Prop) : Prop where
  wk : Walk J Ps.length G Y
  st : ∀ H H', Ez H H' → AncOk a H' → G H → G H'
  nt : ∀ p o, a = some (p, o) → mutO o = true
  ye : ∀ i H x H' P, G H → Y i H x H' → Ps[i]? = some P → Ex T H H' ∧ P.p x H'
def cW (T : Tb) (R : Hp) (ρ : List AV) (fr : Prop) (Ps : List TP) : TI := fun σ H K => (∃ H0, En T R H0 ρ σ H) ∧
  ∀ J H' a G Y, Ex T H H' → Yl T J a G Ps Y → G H' → AncOk a H' → (fr → ∀ p o, a = some (p, o) → H p = none ∨ R p = some o) → K J H'
abbrev W (T : Tb) (R : Hp) (X : Cx) (ρ : List AV) (tg e : Expr) (fr : Prop) (Ps : List TP) : Prop := PI X tg e (cW T R ρ fr Ps)
section
variable {T : Tb} {R : Hp} {X : Cx} {ρ : List AV} {tg e : Expr}
theorem w_of {wi : TI} {fr : Prop} {Ps : List TP} (h : PI X tg e wi) (k : ∀ σ H H0 K, En T R H0 ρ σ H →
    (∀ J H' a G Y, Ex T H H' → Yl T J a G Ps Y → G H' → AncOk a H' → (fr → ∀ p o, a = some (p, o) → H p = none ∨ R p = some o) → K J H') → wi σ H K) : W T R X ρ tg e fr Ps :=
  ⟨fun pins s σ H K I ⟨⟨H0, e⟩, q⟩ => h.run pins s σ H K I (k σ H H0 K e q)⟩
variable {α : Type} [DecidableEq α] [Enc α]
theorem anc_none {H : Hp} : AncOk none H := fun _ _ z => by cases z
theorem yl_tup {a : Addr} {vs : List V} {xs : List α} {H0 : Hp} (h : SqT X.K H0 a vs) (hd : DpAll X.K H0 vs (encs xs)) :
    Yl T (Itt X.K a) none (fun H => Ez H0 H) (xs.map (is X.K)) (YAt vs) := by
  have hl : vs.length = (xs.map (is X.K)).length := by rw [DpAll.len hd]; simp [encs]
  refine ⟨?_, fun H H' e _ g => g.trans e, fun p o z => (by cases z), fun i H x H' P g y hP => ?_⟩
  · rw [← hl]
    exact walk_tup.mono (fun H g => sqt_ez g h) fun _ _ _ _ _ _ y => y
  · obtain ⟨rfl, hx⟩ := y
    refine ⟨Ex.refl _, ?_⟩
    obtain ⟨d, e1, e2⟩ := DpAll.at hd hx
    have : P.p = (fun v H => Dp X.K H v d) ∧ noL d = true := by
      rw [List.getElem?_map] at hP
      unfold encs at e1
      rw [List.getElem?_map] at e1
      cases q : xs[i]? with
      | none => rw [q] at e1; cases e1
      | some b =>
        rw [q] at hP e1
        cases hP
        cases e1
        exact ⟨rfl, Enc.pure b⟩
    rw [this.1]
    exact dp_ez g d x this.2 e2
theorem yl_lst {a : Addr} {vs : List V} {xs : List α} {H0 : Hp} {an : Anc} (hs : ∀ H, Ez H0 H → AncOk an H → SqL X.K H a vs) (hm : ∀ p o, an = some (p, o) → mutO o = true) (hd : DpAll X.K H0 vs (encs xs)) :
    Yl T (Itl X.K a) an (fun H => Ez H0 H ∧ AncOk an H) (xs.map (is X.K)) (YAt vs) := by
  have hl : vs.length = (xs.map (is X.K)).length := by rw [DpAll.len hd]; simp [encs]
  refine ⟨?_, fun H H' e a' g => ⟨g.1.trans e, a'⟩, hm, fun i H x H' P g y hP => ?_⟩
  · rw [← hl]
    exact walk_list.mono (fun H g => hs H g.1 g.2) fun _ _ _ _ _ _ y => y
  · obtain ⟨rfl, hx⟩ := y
    refine ⟨Ex.refl _, ?_⟩
    obtain ⟨d, e1, e2⟩ := DpAll.at hd hx
    have : P.p = (fun v H => Dp X.K H v d) ∧ noL d = true := by
      rw [List.getElem?_map] at hP
      unfold encs at e1
      rw [List.getElem?_map] at e1
      cases q : xs[i]? with
      | none => rw [q] at e1; cases e1
      | some b =>
        rw [q] at hP e1
        cases hP
        cases e1
        exact ⟨rfl, Enc.pure b⟩
    rw [this.1]
    exact dp_ez g.1 d x this.2 e2
/-- a tuple -/
theorem w_tup {xs : List α} {fr : Prop} (h : E T R X ρ e (is X.K xs).p) : W T R X ρ tg e fr (xs.map (is X.K)) :=
  w_of (pi_tup h) fun σ H H0 K en q => ⟨⟨H0, en⟩, fun v H' x p => by
    obtain ⟨a, vs, rfl, h1, h2⟩ := is_list.mp p
    exact ⟨a, rfl, ⟨vs, h1⟩, q _ H' none _ _ x (yl_tup h1 h2) (Ez.refl H') anc_none fun _ p o z => by cases z⟩⟩
/-- a list just made -/
theorem w_new {xs : List α} {fr : Prop} (h : N T R X ρ e (lstO X.K xs)) : W T R X ρ tg e fr (xs.map (is X.K)) :=
  w_of (pi_list h) fun σ H H0 K en q => ⟨⟨H0, en⟩, fun v S H' hS x p => by
    obtain ⟨l, vs, rfl, rfl, h3, h4⟩ := p
    have hl : H l = none := hS l rfl
    refine ⟨l, rfl, ⟨vs, SqL.of h3⟩, q _ H' (some (l, .lst vs)) _ _ x (yl_lst (fun H _ a => SqL.of (a l _ rfl)) (fun p o z => by cases z; rfl) h4) ⟨Ez.refl H', fun p o z => by cases z; exact h3⟩ (fun p o z => by cases z; exact h3) fun _ p o z => by cases z; exact .inl hl⟩⟩
/-- a list that may be ours: for comprehensions -/
theorem w_lst {xs : List α} (h : E T R X ρ e (lstR X.K xs).p) : W T R X ρ tg e False (xs.map (is X.K)) :=
  w_of (pi_list h) fun σ H H0 K en q => ⟨⟨H0, en⟩, fun v H' x p => by
    obtain ⟨l, vs, rfl, h3, h4⟩ := p
    refine ⟨l, rfl, ⟨vs, h3⟩, ?_⟩
    have no : False → ∀ {Q : Prop}, Q := fun z _ => z.elim
    by_cases h5 : H' l = some (.lst vs)
    · exact q _ H' (some (l, .lst vs)) _ _ x (yl_lst (fun H _ a => SqL.of (a l _ rfl)) (fun p o z => by cases z; rfl) h4) ⟨Ez.refl H', fun p o z => by cases z; exact h5⟩ (fun p o z => by cases z; exact h5) fun z => no z
    · have h6 : ∀ H, Ez H' H → SqL X.K H l vs := fun H ez => by
        rcases h3 with (h3 | ⟨o, h3⟩) | h3
        · exact absurd h3 h5
        · exact .inl (.inr ⟨o, ez _ _ h3 rfl⟩)
        · exact .inr h3
      exact q _ H' none _ _ x (yl_lst (fun H ez _ => h6 H ez) (fun p o z => by cases z) h4) ⟨Ez.refl H', anc_none⟩ anc_none fun z => no z⟩
/-- what a parameter holds: a list or a tuple -/
theorem w_par (i : Nat) {x : Str} {xs : List α} {pos : Pos} {fr : Prop} (hr : ρ[i]? = some (.r (seqR X.K xs))) (hN : X.N[i]? = some x := by rfl) (hv : Vis X.env.scope x := by first | exact Or.inl rfl | exact Or.inr (Or.inl rfl) | exact Or.inr (Or.inr rfl)) (hd : (x == ("__debug__" : Str)) = false := by decide)
    (hcd : (x == ("__classdict__" : Str)) = false := by decide) : W T R X ρ tg (.Name x pos) fr (xs.map (is X.K)) := by
  have hp : PE X (.Name x pos) (tVar i) := pe_var hN hv hd hcd
  refine ⟨fun pins s σ H K I ⟨⟨H0, en⟩, q⟩ => ?_⟩
  obtain ⟨S, v, h1, h2⟩ := en.slot hr
  obtain ⟨a, vs, rfl, hs, hd⟩ := h2
  have x := en.exR
  have hd' : DpAll X.K H vs (encs xs) := dps_ez x.ez _ _ (encs_pure xs) hd
  rcases hs with hs | hs
  · refine (pi_list hp).run pins s σ H K I ⟨.ref a, h1, a, rfl, ⟨vs, sql_ex x.ext hs⟩, ?_⟩
    by_cases h5 : R a = some (.lst vs)
    · have h6 : H a = some (.lst vs) := x.ext a _ h5 fun ps z => by cases z
      exact q _ H (some (a, .lst vs)) _ _ (Ex.refl H) (yl_lst (fun H _ z => SqL.of (z a _ rfl)) (fun p o z => by cases z; rfl) hd') ⟨Ez.refl H, fun p o z => by cases z; exact h6⟩ (fun p o z => by cases z; exact h6) fun _ p o z => by cases z; exact .inr h5
    · have h6 : ∀ H', Ez H H' → SqL X.K H' a vs := fun H' ez => by
        rcases hs with (h3 | ⟨o, h3⟩) | h3
        · exact absurd h3 h5
        · exact .inl (.inr ⟨o, ez _ _ (x.ext a _ h3 fun ps z => by cases z) rfl⟩)
        · exact .inr h3
      exact q _ H none _ _ (Ex.refl H) (yl_lst (fun H ez _ => h6 H ez) (fun p o z => by cases z) hd') ⟨Ez.refl H, anc_none⟩ anc_none fun _ p o z => by cases z
  · exact (pi_tup hp).run pins s σ H K I ⟨.ref a, h1, a, rfl, ⟨vs, sqt_ex x.ext hs⟩, q _ H none _ _ (Ex.refl H) (yl_tup (sqt_ex x.ext hs) hd') (Ez.refl H) anc_none fun _ p o z => by cases z⟩
end

/-! ### slots forgotten -/
def wipeA (ρ : List AV) : List Nat → List AV
  | [] => ρ
  | v :: vs => (wipeA ρ vs).set v .u
theorem wipeA_length (ρ : List AV) : ∀ vs : List Nat, (wipeA ρ vs).length = ρ.length
  | [] => rfl
  | v :: vs => by unfold wipeA; rw [List.length_set, wipeA_length ρ vs]
theorem own_wipe {R H0 H : Hp} {ρ : List AV} {σ : L2.St} {F : Nat → Addr → Prop} (h : Own R H0 ρ σ H F) : ∀ vs : List Nat, Own R H0 (wipeA ρ vs) (wipe σ vs) H F
  | [] => h
  | v :: vs => by
    have w := own_wipe h vs
    refine ⟨w.one, w.new, w.has, fun i a ha => ?_⟩
    unfold wipeA at ha
    unfold wipe
    by_cases q : i = v
    · subst q
      have hi : i < (wipeA ρ vs).length := by
        have := (List.getElem?_eq_some_iff.mp ha).1
        rwa [List.length_set] at this
      rw [List.getElem?_set_self hi] at ha
      cases ha
      trivial
    · rw [List.getElem?_set_ne (Ne.symm q)] at ha
      rw [List.getElem?_set_ne (Ne.symm q)]
      exact w.ok i a ha
theorem wipe_at (σ : L2.St) : ∀ (vs : List Nat) (i : Nat), i ∈ vs → i < σ.length → (wipe σ vs)[i]? = some none
  | [], _, h, _ => by cases h
  | v :: vs, i, h, hl => by
    unfold wipe
    by_cases q : i = v
    · subst q
      rw [List.getElem?_set_self (by rw [wipe_length]; exact hl)]
    · rw [List.getElem?_set_ne (Ne.symm q)]
      exact wipe_at σ vs i ((List.mem_cons.mp h).resolve_left q) hl
theorem wipe_off (σ : L2.St) : ∀ (vs : List Nat) (i : Nat), i ∉ vs → (wipe σ vs)[i]? = σ[i]?
  | [], _, _ => rfl
  | v :: vs, i, h => by
    unfold wipe
    rw [List.mem_cons, not_or] at h
    rw [List.getElem?_set_ne (Ne.symm h.1)]
    exact wipe_off σ vs i h.2
theorem wipe_set (σ : L2.St) (vs : List Nat) {i : Nat} (h : i ∈ vs) (x : Option V) : wipe ((wipe σ vs).set i x) vs = wipe σ vs := by
  apply List.ext_getElem?
  intro j
  by_cases hj : j ∈ vs
  · by_cases hl : j < σ.length
    · rw [wipe_at _ vs j hj (by rw [List.length_set, wipe_length]; exact hl), wipe_at _ vs j hj hl]
    · rw [List.getElem?_eq_none (by rw [wipe_length, List.length_set, wipe_length]; omega), List.getElem?_eq_none (by rw [wipe_length]; omega)]
  · rw [wipe_off _ vs j hj, List.getElem?_set_ne (fun e => hj (by rw [← e]; exact h))]
theorem wipe_set2 (σ : L2.St) (vs : List Nat) {i j : Nat} (h : i ∈ vs) (h' : j ∈ vs) (x y : Option V) : wipe (((wipe σ vs).set i x).set j y) vs = wipe σ vs := by
  apply List.ext_getElem?
  intro k
  by_cases hk : k ∈ vs
  · by_cases hl : k < σ.length
    · rw [wipe_at _ vs k hk (by rw [List.length_set, List.length_set, wipe_length]; exact hl), wipe_at _ vs k hk hl]
    · rw [List.getElem?_eq_none (by rw [wipe_length, List.length_set, List.length_set, wipe_length]; omega), List.getElem?_eq_none (by rw [wipe_length]; omega)]
  · rw [wipe_off _ vs k hk, List.getElem?_set_ne (fun e => hk (by rw [← e]; exact h')), List.getElem?_set_ne (fun e => hk (by rw [← e]; exact h))]

/-! ### targets -/
/-- storing what P says leaves slots like ρ' (of slots like ρ); only the slots js change -/
structure Tg (T : Tb) (R : Hp) (ρ : List AV) (g : TG) (P : TP) (ρ' : List AV) (js : List Nat) : Prop where
  run : ∀ H0 σ H v (Q : L2.St → Hp → Prop), En T R H0 ρ σ H → P.p v H → (∀ σ', En T R H0 ρ' σ' H → (∀ vs, (∀ j ∈ js, j ∈ vs) → ∀ τ, σ = wipe τ vs → wipe σ' vs = wipe τ vs) → Q σ' H) → g v σ H Q
section
variable {T : Tb} {R : Hp} {ρ : List AV}
theorem tg_name {i : Nat} {P : TP} : Tg T R ρ (gName i) P (ρ.set i (.t P)) [i] :=
  ⟨fun H0 σ H v Q en p k => k _ (en.set_t p) fun vs hj τ e => by
    subst e
    exact wipe_set τ vs (hj i (by simp)) _⟩
/-- a pair's two sides -/
structure PairP (K : PySem.W.Frag) (P Q1 Q2 : TP) : Prop where
  out : ∀ v H, P.p v H → ∃ a x y, v = .ref a ∧ SqT K H a [x, y] ∧ Q1.p x H ∧ Q2.p y H
abbrev g2 (K : PySem.W.Frag) (i j : Nat) : TG := gTup K 2 (gCons (gName i) (gCons (gName j) gNil))
theorem tg_pair {K : PySem.W.Frag} {i j : Nat} {P Q1 Q2 : TP} (hp : PairP K P Q1 Q2) :
    Tg T R ρ (g2 K i j) P ((ρ.set i (.t Q1)).set j (.t Q2)) [i, j] :=
  ⟨fun H0 σ H v Q en p q => by
    obtain ⟨a, x, y, rfl, h1, h2, h3⟩ := hp.out v H p
    refine ⟨a, _, rfl, h1, rfl, x, [y], rfl, y, [], rfl, rfl, ?_⟩
    refine q _ ((en.set_t h2).set_t h3) fun vs hj τ e => ?_
    subst e
    exact wipe_set2 τ vs (hj i (by simp)) (hj j (by simp)) _ _⟩
theorem pair_is {K : PySem.W.Frag} {α β : Type} [DecidableEq α] [DecidableEq β] [Enc α] [Enc β] (p : α × β) : PairP K (is K p) (is K p.1) (is K p.2) := ⟨fun v H h => is_pair.mp h⟩
end
end Cf
set_option maxHeartbeats 2000000
namespace Cf
open PySem PySem.Spec PyProof.Rows L2

/-! ### comprehensions -/
section
variable {T : Tb} {R : Hp} {X : Cx} {ρ : List AV}
/-- the list in the making lies by itself -/
theorem own_put {H0 H : Hp} {σ : L2.St} {F : Nat → Addr → Prop} {D : Addr} {o o' : HO} (h : Own R H0 ρ σ H F) (hD : H D = some o) (m : mutO o = true) (hF : ∀ i, ¬ F i D) : Own R H0 ρ σ (upd H D o') F := by
  have k : ∀ i a, F i a → upd H D o' a = H a := fun i a ha => upd_ne fun z => hF i (by rw [← z]; exact ha)
  exact ⟨h.one, h.new, fun i a ha => by rw [k i a ha]; exact h.has i a ha, fun i a ha => (h.ok i a ha).step (Ez.put hD m) (k i)⟩
theorem encs_snoc {α : Type} [DecidableEq α] [Enc α] (xs : List α) (x : α) : encs (xs ++ [x]) = encs xs ++ [enc x] := by unfold encs; rw [List.map_append]; rfl
variable {α β : Type} [DecidableEq β] [Enc β]
theorem take_filter_map {xs : List α} {k : Nat} {a : α} (p : α → Bool) (f : α → β) (h : xs[k]? = some a) :
    ((xs.take (k + 1)).filter p).map f = if p a = true then ((xs.take k).filter p).map f ++ [f a] else ((xs.take k).filter p).map f := by
  rw [List.take_add_one, h, List.filter_append, List.map_append]
  by_cases q : p a = true
  · rw [if_pos q]
    simp [q]
  · rw [if_neg q]
    simp [q]
/-- the tests' and the element's readings, whichever item it is -/
abbrev ttP (T : Tb) (R : Hp) (xs : List α) (ρ' : α → List AV) (p : α → Bool) : TT := fun σ H Q => ∃ a, a ∈ xs ∧ cT T R (ρ' a) (p a) σ H Q
abbrev teP (T : Tb) (R : Hp) (K : PySem.W.Frag) (xs : List α) (ρ' : α → List AV) (p : α → Bool) (f : α → β) : TE := fun σ H Q => ∃ a, a ∈ xs ∧ p a = true ∧ cE T R (ρ' a) (is K (f a)).p σ H Q
theorem lc_read {K : PySem.W.Frag} {xs : List α} {gt : α → TP} {fr : Prop} {g : TG} {js : List Nat} {own : List (Str × Nat)} {ρ' : α → List AV} {p : α → Bool} {f : α → β}
    (hj : ∀ j ∈ js, j ∈ own.map (·.2)) (hl : xs.length ≤ 1000000) (hg : ∀ a ∈ xs, Tg T R (wipeA ρ (own.map (·.2))) g (gt a) (ρ' a) js) :
    ∀ (σ : L2.St) (H H0 : Hp) (Q : VK), En T R H0 ρ σ H → (∀ v S H', (∀ a, S a → H a = none) → Ex T H H' → (lstO K ((xs.filter p).map f)).p v S H' → Q v H') →
      tLc (cW T R ρ fr (xs.map gt)) g (ttP T R xs ρ' p) (teP T R K xs ρ' p f) (own.map (·.2)) σ H Q := by
  intro σ H H0 Q en q
  refine ⟨⟨H0, en⟩, fun J H1 an G Y x1 yl gG hA _ D hD => ?_⟩
  have en1 := en.step x1
  obtain ⟨F, ow⟩ := en1.own
  have nF : ∀ i, ¬ F i D := fun i z => by
    obtain ⟨o, h1, _⟩ := ow.has i D z
    rw [hD] at h1
    cases h1
  have H0D : H0 D = none := en1.ex.bk D hD
  have nA : ∀ pa o, an = some (pa, o) → pa ≠ D := fun pa o z e => by
    have h1 := hA pa o z
    rw [e, hD] at h1
    cases h1
  have ow' := own_wipe ow (own.map (·.2))
  have lw : (wipe σ (own.map (·.2))).length = (wipeA ρ (own.map (·.2))).length := by rw [wipe_length, wipeA_length, en.len]
  refine lc_it (g := g) (tt := fun σ H Q => ∃ a, a ∈ xs ∧ cT T R (ρ' a) (p a) σ H Q) (te := fun σ H Q => ∃ a, a ∈ xs ∧ p a = true ∧ cE T R (ρ' a) (is K (f a)).p σ H Q) (vs := own.map (·.2)) (σ := σ) (Qd := fun H => Q (.ref D) H) yl.wk (fun k H' => ∃ acc, H' D = some (.lst acc) ∧ DpAll K H' acc (encs (((xs.take k).filter p).map f)) ∧ acc.length ≤ k ∧ Ex T H1 H' ∧ G H' ∧ AncOk an H' ∧ LamX.Tabs T H' ∧ Own R H0 (wipeA ρ (own.map (·.2))) (wipe σ (own.map (·.2))) H' F)
    ⟨[], upd_same, by simp [encs]; exact .nil, Nat.zero_le _, Ex.new hD, yl.st _ _ (Ex.new (T := T) hD).ez (fun pa o z => by rw [upd_ne (nA pa o z)]; exact hA pa o z) gG, fun pa o z => by rw [upd_ne (nA pa o z)]; exact hA pa o z, (Ex.new hD).tb en1.tab, ow'.step (Ex.new (T := T) hD).ext⟩
    (fun k H' _ h => by obtain ⟨_, _, _, _, _, h, _⟩ := h; exact h) ?_ ?_
  · rintro k x H2 H3 hk ⟨acc, a1, a2, a3, a4, a5, a6, a7, a8⟩ y
    have hk' : k < xs.length := by simpa using hk
    obtain ⟨a, ha⟩ : ∃ a, xs[k]? = some a := ⟨_, List.getElem?_eq_getElem hk'⟩
    have hmem : a ∈ xs := List.mem_of_getElem? ha
    have hP : (xs.map gt)[k]? = some (gt a) := by rw [List.getElem?_map, ha]; rfl
    obtain ⟨x2, p2⟩ := yl.ye k H2 x H3 (gt a) a5 y hP
    have x13 := a4.trans x2
    have en3 : En T R H0 (wipeA ρ (own.map (·.2))) (wipe σ (own.map (·.2))) H3 := ⟨en.ex0, en1.ex.trans x13, x2.tb a7, lw, F, a8.step x2.ext⟩
    -- the store
    have go : ∀ H4, Ex T H3 H4 → Own R H0 (wipeA ρ (own.map (·.2))) (wipe σ (own.map (·.2))) H4 F ∧ H4 D = some (.lst acc) ∧ AncOk an H4 ∧ G H4 := fun H4 x4 => by
      have x24 := x2.trans x4
      refine ⟨a8.step x24.ext, x24.ext D _ a1 (fun ps z => by cases z), fun pa o z => x24.ext pa o (a6 pa o z) (mut_ntbl (yl.nt pa o z)), yl.st _ _ x24.ez (fun pa o z => x24.ext pa o (a6 pa o z) (mut_ntbl (yl.nt pa o z))) a5⟩
    refine (hg a hmem).run H0 _ H3 x _ en3 p2 fun σ' en4 hw' => ⟨hw' _ hj σ rfl, a, hmem, ⟨H0, en4⟩, fun H4 x4 => ?_⟩
    obtain ⟨b1, b2, b3, b4⟩ := go H4 x4
    by_cases q : p a = true
    · rw [q]
      refine iteT ⟨a, hmem, q, ⟨H0, en4.step x4⟩, fun v H5 x5 p5 => ?_⟩
      obtain ⟨c1, c2, c3, c4⟩ := go H5 (x4.trans x5)
      have x25 := x2.trans (x4.trans x5)
      refine ⟨acc, c2, ?_, acc ++ [v], upd_same, ?_, ?_, ⟨?_, ?_, ?_⟩, ?_, ?_, ?_, ?_⟩
      · have : sizeLine = 16777216 := sizeLine_eq
        omega
      · rw [take_filter_map p f ha, if_pos q, encs_snoc]
        have ez : Ez H5 (upd H5 D (.lst (acc ++ [v]))) := Ez.put c2 rfl
        exact DpAll.app (dps_ez ez _ _ (encs_pure _) (dps_ez x25.ez _ _ (encs_pure _) a2)) (.cons (dp_ez ez _ _ (Enc.pure _) p5) .nil)
      · rw [List.length_append, List.length_singleton]; omega
      · exact ((a4.trans x25).put hD c2 rfl).ext
      · exact ((a4.trans x25).put hD c2 rfl).bk
      · exact ((a4.trans x25).put hD c2 rfl).tb
      · exact yl.st _ _ (Ez.put c2 rfl) (fun pa o z => by rw [upd_ne (nA pa o z)]; exact c3 pa o z) c4
      · exact fun pa o z => by rw [upd_ne (nA pa o z)]; exact c3 pa o z
      · exact tabs_put c2 rfl (x25.tb a7)
      · exact own_put c1 c2 rfl nF
    · have q' : p a = false := by simpa using q
      rw [q']
      refine iteF ⟨acc, b2, ?_, by omega, a4.trans (x2.trans x4), b4, b3, (x2.trans x4).tb a7, b1⟩
      rw [take_filter_map p f ha, if_neg (by rw [q']; decide)]
      exact dps_ez (x2.trans x4).ez _ _ (encs_pure _) a2
  · rintro H' ⟨acc, a1, a2, a3, a4, a5, a6, a7, a8⟩
    have hn : (xs.map gt).length = xs.length := by simp
    rw [hn, List.take_length] at a2
    exact q (.ref D) (fun a => a = D) H' (fun a z => by rw [z]; exact x1.bk D hD) (x1.trans a4) ⟨D, acc, rfl, rfl, a1, a2⟩
/-- a block's context -/
abbrev Blk (X : Cx) (scope : Scope) (s : Shared) (H : Hp) (C : Addr) (cl : List (Str × Addr)) (fp : List Addr) : Cx := X.blk s H scope (compEnvC scope cl C X.env) fp
theorem ts_one {X' : Cx} {xs : List α} {ρ' : α → List AV} {p : α → Bool} {c : Expr} (h : ∀ a ∈ xs, B T R X' (ρ' a) c (p a)) : PTs X' [c] (ttP T R xs ρ' p) :=
  pts_one ⟨fun pins s σ H Q I ⟨a, h1, h2⟩ => (h a h1).run pins s σ H Q I h2⟩
theorem ts_nil {X' : Cx} {xs : List α} {ρ' : α → List AV} : PTs X' [] (ttP T R xs ρ' fun _ => true) :=
  ⟨fun pins s σ H Q I ⟨a, h1, h2⟩ => pts_nil.run pins s σ H Q I (h2.2 H (Ex.refl H))⟩
theorem te_of {X' : Cx} {xs : List α} {ρ' : α → List AV} {p : α → Bool} {f : α → β} {elt : Expr} (h : ∀ a ∈ xs, p a = true → E T R X' (ρ' a) elt (is X'.K (f a)).p) : PE X' elt (teP T R X'.K xs ρ' p f) :=
  ⟨fun pins s1 σ H1 Q I ⟨a, h1, h2, h3⟩ => (h a h1 h2).run pins s1 σ H1 Q I h3⟩
/-- [elt for tg in iter if c] -/
theorem n_lcP {xs : List α} {gt : α → TP} {elt tg iter : Expr} {ifs : List Expr} {scope : Scope} {pos : Pos} {g : TG} {js : List Nat} (own : List (Str × Nat)) (ρ' : α → List AV) (p : α → Bool) (f : α → β)
    (hw : W T R X ρ tg iter False (xs.map gt)) (hN : X.N.Nodup) (ok : BlkOk X.N X.env.scope scope own) (hj : ∀ j ∈ js, j ∈ own.map (·.2)) (hl : xs.length ≤ 1000000)
    (hg : ∀ a ∈ xs, Tg T R (wipeA ρ (own.map (·.2))) g (gt a) (ρ' a) js)
    (pg : ∀ s H C cl fp, PG (Blk X scope s H C cl fp) tg g)
    (ht : ∀ s H C cl fp, PTs (Blk X scope s H C cl fp) ifs (ttP T R xs ρ' p))
    (he : ∀ s H C cl fp, PE (Blk X scope s H C cl fp) elt (teP T R X.K xs ρ' p f))
    (hc : X.calm = true := by rfl) (hs : ∀ x, foldedSetIterable iter X.env x = pure x := by intro _; rfl) : N T R X ρ (.ListComp elt [⟨tg, iter, ifs, 0⟩] scope pos) (lstO X.K ((xs.filter p).map f)) :=
  n_of (pe_lc hc hN hw ok pg ht he hs) (lc_read hj hl hg)
/-- one name, a test -/
theorem n_lcF {xs : List α} {gt : α → TP} {elt iter c : Expr} {x : Str} {xp : Pos} {scope : Scope} {pos : Pos} (i : Nat) (own : List (Str × Nat)) (p : α → Bool) (f : α → β)
    (hw : W T R X ρ (.Name x xp) iter False (xs.map gt)) (hN : X.N.Nodup) (ok : BlkOk X.N X.env.scope scope own) (hl : xs.length ≤ 1000000)
    (pg : ∀ s H C cl fp, PG (Blk X scope s H C cl fp) (.Name x xp) (gName i))
    (ht : ∀ s H C cl fp, ∀ a ∈ xs, B T R (Blk X scope s H C cl fp) ((wipeA ρ (own.map (·.2))).set i (.t (gt a))) c (p a))
    (he : ∀ s H C cl fp, ∀ a ∈ xs, p a = true → E T R (Blk X scope s H C cl fp) ((wipeA ρ (own.map (·.2))).set i (.t (gt a))) elt (is X.K (f a)).p)
    (hj : ∀ j ∈ [i], j ∈ own.map (·.2) := by decide) (hc : X.calm = true := by rfl) (hs : ∀ x, foldedSetIterable iter X.env x = pure x := by intro _; rfl) : N T R X ρ (.ListComp elt [⟨.Name x xp, iter, [c], 0⟩] scope pos) (lstO X.K ((xs.filter p).map f)) :=
  n_lcP own (fun a => (wipeA ρ (own.map (·.2))).set i (.t (gt a))) p f hw hN ok hj hl (fun _ _ => tg_name) pg (fun s H C cl fp => ts_one (ht s H C cl fp)) (fun s H C cl fp => te_of (X' := Blk X scope s H C cl fp) (he s H C cl fp)) hc hs
/-- one name, no test -/
theorem n_lcM {xs : List α} {gt : α → TP} {elt iter : Expr} {x : Str} {xp : Pos} {scope : Scope} {pos : Pos} (i : Nat) (own : List (Str × Nat)) (f : α → β)
    (hw : W T R X ρ (.Name x xp) iter False (xs.map gt)) (hN : X.N.Nodup) (ok : BlkOk X.N X.env.scope scope own) (hl : xs.length ≤ 1000000)
    (pg : ∀ s H C cl fp, PG (Blk X scope s H C cl fp) (.Name x xp) (gName i))
    (he : ∀ s H C cl fp, ∀ a ∈ xs, E T R (Blk X scope s H C cl fp) ((wipeA ρ (own.map (·.2))).set i (.t (gt a))) elt (is X.K (f a)).p)
    (hj : ∀ j ∈ [i], j ∈ own.map (·.2) := by decide) (hc : X.calm = true := by rfl) (hs : ∀ x, foldedSetIterable iter X.env x = pure x := by intro _; rfl) : N T R X ρ (.ListComp elt [⟨.Name x xp, iter, [], 0⟩] scope pos) (lstO X.K (xs.map f)) := by
  have h := n_lcP (T := T) (R := R) (pos := pos) own (fun a => (wipeA ρ (own.map (·.2))).set i (.t (gt a))) (fun _ => true) f hw hN ok hj hl (fun _ _ => tg_name) pg (fun s H C cl fp => ts_nil) (fun s H C cl fp => te_of (X' := Blk X scope s H C cl fp) fun a ha _ => he s H C cl fp a ha) hc hs
  rwa [List.filter_eq_self.mpr (fun _ _ => rfl)] at h
/-- two names, no test -/
theorem n_lcM2 {xs : List α} {gt q1 q2 : α → TP} {elt iter e1 e2 : Expr} {tk : Nat} {tp : Pos} {scope : Scope} {pos : Pos} (i j : Nat) (own : List (Str × Nat)) (f : α → β)
    (hw : W T R X ρ (.Tuple [e1, e2] tk tp) iter False (xs.map gt)) (hN : X.N.Nodup) (ok : BlkOk X.N X.env.scope scope own) (hl : xs.length ≤ 1000000) (hp : ∀ a, PairP X.K (gt a) (q1 a) (q2 a))
    (pg : ∀ s H C cl fp, PG (Blk X scope s H C cl fp) (.Tuple [e1, e2] tk tp) (g2 X.K i j))
    (he : ∀ s H C cl fp, ∀ a ∈ xs, E T R (Blk X scope s H C cl fp) (((wipeA ρ (own.map (·.2))).set i (.t (q1 a))).set j (.t (q2 a))) elt (is X.K (f a)).p)
    (hj : ∀ k ∈ [i, j], k ∈ own.map (·.2) := by decide) (hc : X.calm = true := by rfl) (hs : ∀ x, foldedSetIterable iter X.env x = pure x := by intro _; rfl) : N T R X ρ (.ListComp elt [⟨.Tuple [e1, e2] tk tp, iter, [], 0⟩] scope pos) (lstO X.K (xs.map f)) := by
  have h := n_lcP (T := T) (R := R) (pos := pos) own (fun a => ((wipeA ρ (own.map (·.2))).set i (.t (q1 a))).set j (.t (q2 a))) (fun _ => true) f hw hN ok hj hl (fun a _ => tg_pair (hp a)) pg (fun s H C cl fp => ts_nil) (fun s H C cl fp => te_of (X' := Blk X scope s H C cl fp) fun a ha _ => he s H C cl fp a ha) hc hs
  rwa [List.filter_eq_self.mpr (fun _ _ => rfl)] at h
end

/-! ### statements -/
structure Po where
  nx : Hp → L2.St → Hp → Prop := fun _ _ _ => False
  rt : V → Hp → Prop := fun _ _ => False
  bk : Hp → L2.St → Hp → Prop := fun _ _ _ => False
  ct : Hp → L2.St → Hp → Prop := fun _ _ _ => False
def cS (T : Tb) (R : Hp) (ρ : List AV) (E : Po) : TS := fun D σ H => ∃ H0, En T R H0 ρ σ H ∧ (∀ σ' H', E.nx H0 σ' H' → D.nx σ' H') ∧ (∀ v H', Ex T R H' → E.rt v H' → D.rt v H') ∧ (∀ σ' H', E.bk H0 σ' H' → D.bk σ' H') ∧ (∀ σ' H', E.ct H0 σ' H' → D.ct σ' H')
abbrev S (T : Tb) (R : Hp) (X : Cx) (ρ : List AV) (st : Stmt) (E : Po) : Prop := PS X st (cS T R ρ E)
abbrev Ss (T : Tb) (R : Hp) (X : Cx) (ρ : List AV) (sts : List Stmt) (E : Po) : Prop := PSs X sts (cS T R ρ E)
section
variable {T : Tb} {R : Hp} {X : Cx} {ρ ρ' : List AV} {E : Po} {st : Stmt} {rest : List Stmt}
theorem s_of {t : TS} (h : PS X st t) (k : ∀ D σ H H0, En T R H0 ρ σ H → (∀ σ' H', E.nx H0 σ' H' → D.nx σ' H') → (∀ v H', Ex T R H' → E.rt v H' → D.rt v H') → (∀ σ' H', E.bk H0 σ' H' → D.bk σ' H') → (∀ σ' H', E.ct H0 σ' H' → D.ct σ' H') → t D σ H) : S T R X ρ st E :=
  ⟨fun pins s σ H D I ⟨H0, e, n, r, b, c⟩ => h.run pins s σ H D I (k D σ H H0 e n r b c)⟩
theorem ss_of {t : TS} {sts : List Stmt} (h : PSs X sts t) (k : ∀ D σ H H0, En T R H0 ρ σ H → (∀ σ' H', E.nx H0 σ' H' → D.nx σ' H') → (∀ v H', Ex T R H' → E.rt v H' → D.rt v H') → (∀ σ' H', E.bk H0 σ' H' → D.bk σ' H') → (∀ σ' H', E.ct H0 σ' H' → D.ct σ' H') → t D σ H) : Ss T R X ρ sts E :=
  ⟨fun pins s σ H D I ⟨H0, e, n, r, b, c⟩ => h.run pins s σ H D I (k D σ H H0 e n r b c)⟩
/-- slots like these -/
abbrev En1 (T : Tb) (R : Hp) (ρ : List AV) : Hp → L2.St → Hp → Prop := fun H0 σ H => En T R H0 ρ σ H
theorem ss_nil (h : ∀ H0 σ H, En T R H0 ρ σ H → E.nx H0 σ H) : Ss T R X ρ [] E := ss_of pss_nil fun D σ H H0 en n r b c => n σ H (h H0 σ H en)
theorem ss_one (h : S T R X ρ st E) : Ss T R X ρ [st] E := pss_one h
theorem ss_cons {ρ1 : List AV} (h : S T R X ρ st { E with nx := En1 T R ρ1 }) (t : Ss T R X ρ1 rest E) : Ss T R X ρ (st :: rest) E :=
  ss_of (pss_cons h t) fun D σ H H0 en n r b c => ⟨H0, en, fun σ' H' en' => ⟨H0, en', n, r, b, c⟩, r, b, c⟩
/-- what comes of it is told by a letter -/
theorem ss_consE {ζ : Type} {φ : ζ → Prop} {ρ1 : ζ → List AV} (h : S T R X ρ st { E with nx := fun H0 σ H => ∃ z, φ z ∧ En T R H0 (ρ1 z) σ H }) (t : ∀ z, φ z → Ss T R X (ρ1 z) rest E) : Ss T R X ρ (st :: rest) E :=
  ss_of (pss_cons h (u := fun D σ H => ∃ z, φ z ∧ cS T R (ρ1 z) E D σ H) ⟨fun pins s σ H D I ⟨z, hz, q⟩ => (t z hz).run pins s σ H D I q⟩) fun D σ H H0 en n r b c => ⟨H0, en, fun σ' H' ⟨z, hz, en'⟩ => ⟨z, hz, H0, en', n, r, b, c⟩, r, b, c⟩
/-- a statement that ends the block in each way -/
theorem ss_last (h : S T R X ρ st { E with nx := fun _ _ _ => False }) : Ss T R X ρ (st :: rest) E :=
  ss_of (pss_cons h pss_never) fun D σ H H0 en n r b c => ⟨H0, en, fun σ' H' z => z.elim, r, b, c⟩
theorem s_weak {E' : Po} (h : S T R X ρ' st E') (w : Wk ρ ρ') (n : ∀ H0 σ H, E'.nx H0 σ H → E.nx H0 σ H) (r : ∀ v H, Ex T R H → E'.rt v H → E.rt v H) (b : ∀ H0 σ H, E'.bk H0 σ H → E.bk H0 σ H) (c : ∀ H0 σ H, E'.ct H0 σ H → E.ct H0 σ H) : S T R X ρ st E :=
  s_of h fun D σ H H0 en n' r' b' c' => ⟨H0, en.weak w, fun σ' H' z => n' _ _ (n _ _ _ z), fun v H' x z => r' _ _ x (r _ _ x z), fun σ' H' z => b' _ _ (b _ _ _ z), fun σ' H' z => c' _ _ (c _ _ _ z)⟩
theorem ss_weak {sts : List Stmt} (h : Ss T R X ρ' sts E) (w : Wk ρ ρ') : Ss T R X ρ sts E := ss_of h fun D σ H H0 en n r b c => ⟨H0, en.weak w, n, r, b, c⟩
theorem s_pass {pos : Pos} (h : ∀ H0 σ H, En T R H0 ρ σ H → E.nx H0 σ H) : S T R X ρ (.Pass pos) E := s_of ps_pass fun D σ H H0 en n r b c => n σ H (h H0 σ H en)
/-- return e -/
theorem s_ret {e : Expr} {P : V → Hp → Prop} {pos : Pos} (h : Cf.E T R X ρ e P) (k : ∀ v H, Ex T R H → P v H → E.rt v H) : S T R X ρ (.Return (some e) pos) E :=
  s_of (ps_ret h) fun D σ H H0 en n r b c => ⟨⟨H0, en⟩, fun v H' x p => r v H' (en.exR.trans x) (k v H' (en.exR.trans x) p)⟩
/-- return of a new thing -/
theorem s_retN {e : Expr} {O : OP} {pos : Pos} (h : N T R X ρ e O) (k : ∀ v S H, (∀ a, S a → R a = none) → Ex T R H → O.p v S H → E.rt v H) : S T R X ρ (.Return (some e) pos) E :=
  s_of (ps_ret h) fun D σ H H0 en n r b c => ⟨⟨H0, en⟩, fun v S H' hS x p => r v H' (en.exR.trans x) (k v S H' (fun a ha => en.exR.bk a (hS a ha)) (en.exR.trans x) p)⟩
/-- return of what is ours -/
theorem s_retO (i : Nat) {x : Str} {O : OP} {pos p2 : Pos} (hr : ρ[i]? = some (.o O)) (k : ∀ v S H, (∀ a, S a → R a = none) → Ex T R H → O.p v S H → E.rt v H) (hN : X.N[i]? = some x := by rfl) (hv : Vis X.env.scope x := by first | exact Or.inl rfl | exact Or.inr (Or.inl rfl) | exact Or.inr (Or.inr rfl))
    (hd : (x == ("__debug__" : Str)) = false := by decide) (hcd : (x == ("__classdict__" : Str)) = false := by decide) : S T R X ρ (.Return (some (.Name x pos)) p2) E :=
  s_of (ps_ret (pe_var hN hv hd hcd)) fun D σ H H0 en n r b c => by
    obtain ⟨F, w⟩ := en.own
    obtain ⟨v, h1, h2⟩ : ∃ v, σ[i]? = some (some v) ∧ O.p v (F i) H := w.ok i _ hr
    exact ⟨v, h1, r v H en.exR (k v _ H (fun a ha => en.ex0.bk a (w.new i a ha)) en.exR h2)⟩
/-- x = e -/
theorem s_set (i : Nat) {x : Str} {e : Expr} {P : TP} {pos pos' : Pos} (hN : X.N.Nodup) (h : Cf.E T R X ρ e P.p) (k : ∀ H0 σ H, En T R H0 (ρ.set i (.t P)) σ H → E.nx H0 σ H) (hi : X.N[i]? = some x := by rfl) (hx : Loc X.env.scope x := by first | exact Or.inl rfl | exact Or.inr rfl)
    (hs : swapsWith e (some (.Name x pos')) pos.line X.env = pure false := by rfl) (hf : X.fn x = true ∨ X.env.scope.names.lookup x = some .local := by first | exact .inl rfl | exact .inr rfl) : S T R X ρ (.Assign [.Name x pos'] e pos) E :=
  s_of (ps_set hN hi hx h hs hf) fun D σ H H0 en n r b c => ⟨⟨H0, en⟩, fun v H' x p => n _ _ (k _ _ _ ((en.step x).set_t p))⟩
/-- x = e, a letter told -/
theorem s_setE {ζ : Type} {φ : ζ → Prop} (i : Nat) {x : Str} {e : Expr} {P : ζ → TP} {pos pos' : Pos} (hN : X.N.Nodup) (h : Cf.E T R X ρ e (fun v H => ∃ z, φ z ∧ (P z).p v H)) (k : ∀ z H0 σ H, φ z → En T R H0 (ρ.set i (.t (P z))) σ H → E.nx H0 σ H) (hi : X.N[i]? = some x := by rfl) (hx : Loc X.env.scope x := by first | exact Or.inl rfl | exact Or.inr rfl)
    (hs : swapsWith e (some (.Name x pos')) pos.line X.env = pure false := by rfl) (hf : X.fn x = true ∨ X.env.scope.names.lookup x = some .local := by first | exact .inl rfl | exact .inr rfl) : S T R X ρ (.Assign [.Name x pos'] e pos) E :=
  s_of (ps_set hN hi hx h hs hf) fun D σ H H0 en n r b c => ⟨⟨H0, en⟩, fun v H' x ⟨z, hz, p⟩ => n _ _ (k z _ _ _ hz ((en.step x).set_t p))⟩
theorem own_new {H0 H H' : Hp} {σ : L2.St} {S : Addr → Prop} (en : En T R H0 ρ σ H) (x : Ex T H H') (hS : ∀ a, S a → H a = none) : (∀ a, S a → H0 a = none) ∧ ∀ F, Own R H0 ρ σ H F → ∀ j a, F j a → ¬ S a :=
  ⟨fun a ha => en.ex.bk a (hS a ha), fun F w j a hj ha => by
    obtain ⟨o, h1, _⟩ := w.has j a hj
    rw [hS a ha] at h1
    cases h1⟩
theorem En.set_n {H0 H H' : Hp} {σ : L2.St} {S : Addr → Prop} {i : Nat} {v : V} {O : OP} (en : En T R H0 ρ σ H) (x : Ex T H H') (hS : ∀ a, S a → H a = none) (h : O.p v S H') : En T R H0 (ρ.set i (.o O)) (σ.set i (some v)) H' := by
  obtain ⟨F, w⟩ := en.own
  have en' : En T R H0 ρ σ H' := en.step x
  -- the same owners stand behind the step
  have w' : Own R H0 ρ σ H' F := w.step x.ext
  have nS : ∀ j a, F j a → ¬ S a := (own_new en x hS).2 F w
  refine ⟨en.ex0, en'.ex, en'.tab, by rw [List.length_set, List.length_set, en.len], fun j a => (j ≠ i ∧ F j a) ∨ (j = i ∧ S a), fun j k a h1 h2 => ?_, fun j a h1 => ?_, fun j a h1 => ?_, fun j a ha => ?_⟩
  · rcases h1 with h1 | h1 <;> rcases h2 with h2 | h2
    · exact w'.one j k a h1.2 h2.2
    · exact absurd h2.2 (nS _ _ h1.2)
    · exact absurd h1.2 (nS _ _ h2.2)
    · rw [h1.1, h2.1]
  · rcases h1 with h1 | h1
    · exact w'.new j a h1.2
    · exact en.ex.bk a (hS a h1.2)
  · rcases h1 with h1 | h1
    · exact w'.has j a h1.2
    · exact O.dom _ _ _ h a h1.2
  · by_cases q : j = i
    · subst q
      have hj : j < ρ.length := by
        have := (List.getElem?_eq_some_iff.mp ha).1
        rwa [List.length_set] at this
      rw [List.getElem?_set_self hj] at ha
      cases ha
      refine ⟨v, List.getElem?_set_self (by rw [en.len]; exact hj), ?_⟩
      have eF : (fun a => (j ≠ j ∧ F j a) ∨ (j = j ∧ S a)) = S := funext fun a => propext ⟨fun z => z.elim (fun z => absurd rfl z.1) fun z => z.2, fun z => .inr ⟨rfl, z⟩⟩
      rw [eF]
      exact h
    · rw [List.getElem?_set_ne (Ne.symm q)] at ha
      rw [List.getElem?_set_ne (Ne.symm q)]
      have eF : (fun a => (j ≠ i ∧ F j a) ∨ (j = i ∧ S a)) = F j := funext fun a => propext ⟨fun z => z.elim (fun z => z.2) fun z => absurd z.1 q, fun z => .inl ⟨q, z⟩⟩
      rw [eF]
      exact w'.ok j a ha
/-- x = a new thing -/
theorem s_setN (i : Nat) {x : Str} {e : Expr} {O : OP} {pos pos' : Pos} (hN : X.N.Nodup) (h : N T R X ρ e O) (k : ∀ H0 σ H, En T R H0 (ρ.set i (.o O)) σ H → E.nx H0 σ H) (hi : X.N[i]? = some x := by rfl) (hx : Loc X.env.scope x := by first | exact Or.inl rfl | exact Or.inr rfl)
    (hs : swapsWith e (some (.Name x pos')) pos.line X.env = pure false := by rfl) (hf : X.fn x = true ∨ X.env.scope.names.lookup x = some .local := by first | exact .inl rfl | exact .inr rfl) : S T R X ρ (.Assign [.Name x pos'] e pos) E :=
  s_of (ps_set hN hi hx h hs hf) fun D σ H H0 en n r b c => ⟨⟨H0, en⟩, fun v S H' hS x p => n _ _ (k _ _ _ (en.set_n x hS p))⟩
end
end Cf
set_option maxHeartbeats 2000000
namespace Cf
open PySem PySem.Spec PyProof.Rows L2

section
variable {T : Tb} {R : Hp} {X : Cx} {ρ : List AV} {e a b c : Expr} {es : List Expr} {pos : Pos}
/-! ### comparisons -/
/-- a comparison, as a value and as a test -/
structure Cm (T : Tb) (R : Hp) (X : Cx) (ρ : List AV) (e : Expr) (k : Bool) : Prop where
  val : E T R X ρ e (is X.K k).p
  tst : B T R X ρ e k
theorem cm {op : CmpOp} {r : R2} {Pa Pb : RP} {l : Bool} (hr : OpR X (compareOp op) r) (ha : E T R X ρ a Pa.p) (hb : E T R X ρ b Pb.p) (hm : behindInMarks op b = false)
    (k : ∀ x y H Q, Ex T R H → Pa.p x H → Pb.p y H → (∀ v H', Ex T H H' → (is X.K l).p v H' → Q v H') → r x y H Q) : Cm T R X ρ (.Compare a [op] [b] pos) l :=
  ⟨e_of (pe_cmpR hr ha hb hm) fun σ H H0 Q en q => ⟨⟨H0, en⟩, fun x H1 x1 p1 => ⟨⟨H0, en.step x1⟩, fun y H2 x2 p2 =>
    k x y H2 Q ((en.exR.trans x1).trans x2) (Pa.st _ _ _ x2.ext p1) p2 fun v H' x3 p => q v H' ((x1.trans x2).trans x3) p⟩⟩,
   b_of (pt_cmpR hr ha hb hm) fun σ H H0 Q en q => ⟨⟨H0, en⟩, fun x H1 x1 p1 => ⟨⟨H0, en.step x1⟩, fun y H2 x2 p2 =>
    k x y H2 _ ((en.exR.trans x1).trans x2) (Pa.st _ _ _ x2.ext p1) p2 fun v H' x3 p => ⟨l, is_bool.mp p, q H' ((x1.trans x2).trans x3)⟩⟩⟩⟩
theorem room65 {X : Cx} {j : Nat} (hr : Room j X.A) : X.A.units + 65 < cLine := by have := hr.un; omega
section
variable {α : Type} [DecidableEq α] [Enc α]
theorem c_eq {j : Nat} {x y : α} (hr : Room j X.A) (hd : Enc.dep α ≤ 63) (ha : E T R X ρ a (is X.K x).p) (hb : E T R X ρ b (is X.K y).p) : Cm T R X ρ (.Compare a [.Eq] [b] pos) (eqb x y) :=
  cm (Pa := (is X.K x).r) (Pb := (is X.K y).r) (op_eqD hr.units) ha hb (nomark b) fun v w H Q _ p q k => ⟨_, _, p, q, enc_shaped hd x, enc_shaped hd y, k _ H (Ex.refl H) (by rw [show PyData.eqv (Enc.enc x) (Enc.enc y) = decide (x = y) from Enc.eqv x y]; exact is_bool.mpr rfl)⟩
theorem c_ne {j : Nat} {x y : α} (hr : Room j X.A) (hd : Enc.dep α ≤ 63) (ha : E T R X ρ a (is X.K x).p) (hb : E T R X ρ b (is X.K y).p) : Cm T R X ρ (.Compare a [.NotEq] [b] pos) (!eqb x y) :=
  cm (Pa := (is X.K x).r) (Pb := (is X.K y).r) (op_neD hr.units) ha hb (nomark b) fun v w H Q _ p q k => ⟨_, _, p, q, enc_shaped hd x, enc_shaped hd y, k _ H (Ex.refl H) (by rw [show PyData.eqv (Enc.enc x) (Enc.enc y) = decide (x = y) from Enc.eqv x y]; exact is_bool.mpr rfl)⟩
/-- lists, told by what they hold -/
theorem c_neL {j : Nat} {x y : List α} (hr : Room j X.A) (hd : Enc.dep α ≤ 62) (ha : E T R X ρ a (lstR X.K x).p) (hb : E T R X ρ b (lstR X.K y).p) : Cm T R X ρ (.Compare a [.NotEq] [b] pos) (!eqb x y) :=
  cm (Pa := lstR X.K x) (Pb := lstR X.K y) (op_neD hr.units) ha hb (nomark b) fun v w H Q _ ⟨l1, vs, e1, s1, d1⟩ ⟨l2, ws, e2, s2, d2⟩ k => by
    subst e1 e2
    refine ⟨.list (encs x), .list (encs y), .lst s1 d1, .lst s2 d2, encs_shaped (by omega) x, encs_shaped (by omega) y, k _ H (Ex.refl H) ?_⟩
    rw [show PyData.eqv (.list (encs x)) (.list (encs y)) = decide (x = y) from encs_eqv x y]
    exact is_bool.mpr rfl
def rInT (K : PySem.W.Frag) (neg : Bool) : R2 := fun x y H Q => ∃ d ds, Dp K H x d ∧ (Dp K H y (.list ds) ∨ Dp K H y (.tuple ds)) ∧ SeqAt.shaped d = true ∧ SeqAt.shaped (.list ds) = true ∧ Q (.bl (if neg then !(ds.any fun z => PyData.eqv z d) else ds.any fun z => PyData.eqv z d)) H
theorem op_inT (hu : X.A.units + 65 < cLine) : OpR X (compareOp .In) (rInT X.K false) := by
  intro pins s σ H x y v u Q I rx ry h
  obtain ⟨d, ds, hd, he, sd, se, q⟩ := h
  obtain ⟨as, r1⟩ := Dp.reads I d x v hd rx
  rcases he with he | he
  · obtain ⟨bs, r2⟩ := Dp.reads I (.list ds) y u he ry
    exact SeqAt.in_list_reads r2 r1 (SeqAt.canLay_of_shaped se) (SeqAt.canLay_of_shaped sd) (room_in_shaped sd hu) ⟨.bl _, H, I, rfl, q⟩
  · obtain ⟨bs, r2⟩ := Dp.reads I (.tuple ds) y u he ry
    exact SeqAt.in_tuple_reads r2 r1 (SeqAt.canLay_of_shaped se) (SeqAt.canLay_of_shaped sd) (room_in_shaped sd hu) ⟨.bl _, H, I, rfl, q⟩
theorem op_niT (hu : X.A.units + 65 < cLine) : OpR X (compareOp .NotIn) (rInT X.K true) := by
  intro pins s σ H x y v u Q I rx ry h
  obtain ⟨d, ds, hd, he, sd, se, q⟩ := h
  obtain ⟨as, r1⟩ := Dp.reads I d x v hd rx
  rcases he with he | he
  · obtain ⟨bs, r2⟩ := Dp.reads I (.list ds) y u he ry
    exact SeqAt.notIn_list_reads r2 r1 (SeqAt.canLay_of_shaped se) (SeqAt.canLay_of_shaped sd) (room_in_shaped sd hu) ⟨.bl _, H, I, rfl, q⟩
  · obtain ⟨bs, r2⟩ := Dp.reads I (.tuple ds) y u he ry
    exact SeqAt.notIn_tuple_reads r2 r1 (SeqAt.canLay_of_shaped se) (SeqAt.canLay_of_shaped sd) (room_in_shaped sd hu) ⟨.bl _, H, I, rfl, q⟩
theorem seq_dp {K : PySem.W.Frag} {H : Hp} {v : V} {xs : List α} (h : (seqR K xs).p v H) : Dp K H v (.list (encs xs)) ∨ Dp K H v (.tuple (encs xs)) := by
  obtain ⟨l, vs, rfl, h1, h2⟩ := h
  rcases h1 with h1 | h1
  · exact .inl (.lst h1 h2)
  · exact .inr (.tup h1 h2)
theorem c_in {j : Nat} {x : α} {xs : List α} (hr : Room j X.A) (hd : Enc.dep α ≤ 63) (ha : E T R X ρ a (is X.K x).p) (hb : E T R X ρ b (seqR X.K xs).p) (hm : behindInMarks .In b = false := by rfl) : Cm T R X ρ (.Compare a [.In] [b] pos) (memb x xs) :=
  cm (Pa := (is X.K x).r) (Pb := seqR X.K xs) (op_inT (room65 hr)) ha hb hm fun v w H Q _ p q k => ⟨_, _, p, seq_dp q, enc_shaped hd x, encs_shaped hd xs, k _ H (Ex.refl H) (by
    show (is X.K (memb x xs)).p (.bl ((encs xs).any fun z => PyData.eqv z (enc x))) H
    rw [encs_any]
    exact is_bool.mpr rfl)⟩
theorem c_ni {j : Nat} {x : α} {xs : List α} (hr : Room j X.A) (hd : Enc.dep α ≤ 63) (ha : E T R X ρ a (is X.K x).p) (hb : E T R X ρ b (seqR X.K xs).p) (hm : behindInMarks .NotIn b = false := by rfl) : Cm T R X ρ (.Compare a [.NotIn] [b] pos) (!memb x xs) :=
  cm (Pa := (is X.K x).r) (Pb := seqR X.K xs) (op_niT (room65 hr)) ha hb hm fun v w H Q _ p q k => ⟨_, _, p, seq_dp q, enc_shaped hd x, encs_shaped hd xs, k _ H (Ex.refl H) (by
    show (is X.K (!memb x xs)).p (.bl (!(encs xs).any fun z => PyData.eqv z (enc x))) H
    rw [encs_any]
    exact is_bool.mpr rfl)⟩
theorem e_seq {xs : List α} (h : E T R X ρ e (is X.K xs).p) : E T R X ρ e (seqR X.K xs).p := e_imp h fun _ _ _ p => seq_of_is p
theorem e_seqL {xs : List α} (h : E T R X ρ e (lstR X.K xs).p) : E T R X ρ e (seqR X.K xs).p := e_imp h fun _ _ _ p => seq_of_lst p
theorem lst_of_o {K : PySem.W.Frag} {xs : List α} (v : V) (S : Addr → Prop) (H : Hp) (h : (lstO K xs).p v S H) : (lstR K xs).p v H := by
  obtain ⟨l, vs, h1, h2, h3, h4⟩ := h
  exact ⟨l, vs, h1, SqL.of h3, h4⟩
theorem e_newL {xs : List α} (h : N T R X ρ e (lstO X.K xs)) : E T R X ρ e (lstR X.K xs).p := e_new h lst_of_o
theorem e_newS {xs : List α} (h : N T R X ρ e (lstO X.K xs)) : E T R X ρ e (seqR X.K xs).p := e_seqL (e_newL h)
theorem e_ownL (i : Nat) {x : Str} {xs : List α} (hr : ρ[i]? = some (.o (lstO X.K xs))) (hN : X.N[i]? = some x := by rfl) (hv : Vis X.env.scope x := by first | exact Or.inl rfl | exact Or.inr (Or.inl rfl) | exact Or.inr (Or.inr rfl)) (hd : (x == ("__debug__" : Str)) = false := by decide)
    (hcd : (x == ("__classdict__" : Str)) = false := by decide) : E T R X ρ (.Name x pos) (lstR X.K xs).p := e_own i hr lst_of_o hN hv hd hcd
end
theorem c_lt {x y : Int} (ha : E T R X ρ a (is X.K x).p) (hb : E T R X ρ b (is X.K y).p) : Cm T R X ρ (.Compare a [.Lt] [b] pos) (decide (x < y)) :=
  cm (Pa := (is X.K x).r) (Pb := (is X.K y).r) op_lt ha hb (nomark b) fun v w H Q _ p q k => ⟨x, y, is_int.mp p, is_int.mp q, k _ H (Ex.refl H) (is_bool.mpr rfl)⟩
theorem c_le {x y : Int} (ha : E T R X ρ a (is X.K x).p) (hb : E T R X ρ b (is X.K y).p) : Cm T R X ρ (.Compare a [.LtE] [b] pos) (decide (x ≤ y)) :=
  cm (Pa := (is X.K x).r) (Pb := (is X.K y).r) op_le ha hb (nomark b) fun v w H Q _ p q k => ⟨x, y, is_int.mp p, is_int.mp q, k _ H (Ex.refl H) (is_bool.mpr rfl)⟩
theorem c_gt {x y : Int} (ha : E T R X ρ a (is X.K x).p) (hb : E T R X ρ b (is X.K y).p) : Cm T R X ρ (.Compare a [.Gt] [b] pos) (decide (y < x)) :=
  cm (Pa := (is X.K x).r) (Pb := (is X.K y).r) op_gt ha hb (nomark b) fun v w H Q _ p q k => ⟨x, y, is_int.mp p, is_int.mp q, k _ H (Ex.refl H) (is_bool.mpr rfl)⟩
theorem c_ge {x y : Int} (ha : E T R X ρ a (is X.K x).p) (hb : E T R X ρ b (is X.K y).p) : Cm T R X ρ (.Compare a [.GtE] [b] pos) (decide (y ≤ x)) :=
  cm (Pa := (is X.K x).r) (Pb := (is X.K y).r) op_ge ha hb (nomark b) fun v w H Q _ p q k => ⟨x, y, is_int.mp p, is_int.mp q, k _ H (Ex.refl H) (is_bool.mpr rfl)⟩
theorem e_add {x y : Int} (ha : E T R X ρ a (is X.K x).p) (hb : E T R X ρ b (is X.K y).p) : E T R X ρ (.BinOp a .Add b pos) (is X.K (x + y)).p :=
  e_op2 (Pa := (is X.K x).r) (Pb := (is X.K y).r) op_add ha hb fun v w H Q _ p q k => ⟨x, y, is_int.mp p, is_int.mp q, k _ H (Ex.refl H) (is_int.mpr rfl)⟩
theorem e_sub {x y : Int} (ha : E T R X ρ a (is X.K x).p) (hb : E T R X ρ b (is X.K y).p) : E T R X ρ (.BinOp a .Sub b pos) (is X.K (x - y)).p :=
  e_op2 (Pa := (is X.K x).r) (Pb := (is X.K y).r) op_sub ha hb fun v w H Q _ p q k => ⟨x, y, is_int.mp p, is_int.mp q, k _ H (Ex.refl H) (is_int.mpr rfl)⟩
/-- x < y < z, x < y <= z -/
theorem c_chain {op op' : CmpOp} {f f' : Int → Int → Bool} {x y z : Int} (h1 : OpR X (compareOp op) (rI0 fun i j => .bl (f i j))) (h2 : OpR X (compareOp op') (rI0 fun i j => .bl (f' i j))) (ha : E T R X ρ a (is X.K x).p) (hb : E T R X ρ b (is X.K y).p) (hc : E T R X ρ c (is X.K z).p)
    (hm : lastMarks [op, op'] [b, c] = false := by with_unfolding_all rfl) : Cm T R X ρ (.Compare a [op, op'] [b, c] pos) (f x y && f' y z) := by
  have core : ∀ σ H H0 (Q : VK), En T R H0 ρ σ H → (∀ H', Ex T H H' → Q (.bl (f x y && f' y z)) H') → tChain (rI0 fun i j => .bl (f i j)) (rI0 fun i j => .bl (f' i j)) (cE T R ρ (is X.K x).p) (cE T R ρ (is X.K y).p) (cE T R ρ (is X.K z).p) σ H Q := by
    intro σ H H0 Q en q
    refine ⟨⟨H0, en⟩, fun v H1 x1 p1 => ⟨⟨H0, en.step x1⟩, fun w H2 x2 p2 => ⟨x, y, is_int.mp p1, is_int.mp p2, f x y, rfl, ?_⟩⟩⟩
    cases hk : f x y with
    | false =>
      rw [hk, Bool.false_and] at q
      exact iteF (q _ (x1.trans x2))
    | true =>
      rw [hk, Bool.true_and] at q
      exact iteT ⟨⟨H0, (en.step x1).step x2⟩, fun u H3 x3 p3 => ⟨y, z, is_int.mp p2, is_int.mp p3, q _ ((x1.trans x2).trans x3)⟩⟩
  exact ⟨e_of (pe_chain h1 h2 ha hb hc hm) fun σ H H0 Q en q => core σ H H0 Q en fun H' x => q _ H' x (is_bool.mpr rfl),
    b_of (pt_chain h1 h2 ha hb hc hm) fun σ H H0 Q en q => core σ H H0 _ en fun H' x => ⟨_, rfl, q H' x⟩⟩
/-! ### tests -/
theorem b_val {k : Bool} (h : E T R X ρ e (is X.K k).p) (he : ∀ whole, isTrue e X.env whole = (do let v ← whole; standAt e.pos; holding [v] (truthy v)) := by intro _; rfl) : B T R X ρ e k :=
  b_of (pt_val h he) fun σ H H0 Q en q => ⟨⟨H0, en⟩, fun v H' x p => ⟨k, is_bool.mp p, q H' x⟩⟩
theorem b_not {k : Bool} (h : B T R X ρ e k) : B T R X ρ (.UnaryOp .Not e pos) (!k) :=
  b_of (pt_not h) fun σ H H0 Q en q => ⟨⟨H0, en⟩, fun H' x => q H' x⟩
/-- a reading under a word that is known only then -/
theorem b_when {k : Bool} {φ : Prop} (h : φ → B T R X ρ e k) : PT X e (fun σ H Q => φ ∧ cT T R ρ k σ H Q) := ⟨fun pins s σ H Q I ⟨z, q⟩ => (h z).run pins s σ H Q I q⟩
theorem bw_when {k : Bool} {φ : Prop} (h : φ → PW X e (cT T R ρ k)) : PW X e (fun σ H Q => φ ∧ cT T R ρ k σ H Q) := ⟨fun wh pins s σ H Q I ⟨z, q⟩ => (h z).run wh pins s σ H Q I q⟩
theorem e_when {P : V → Hp → Prop} {φ : Prop} (h : φ → E T R X ρ e P) : PE X e (fun σ H Q => φ ∧ cE T R ρ P σ H Q) := ⟨fun pins s σ H Q I ⟨z, q⟩ => (h z).run pins s σ H Q I q⟩
theorem n_when {O : OP} {φ : Prop} (h : φ → N T R X ρ e O) : PE X e (fun σ H Q => φ ∧ cN T R ρ O σ H Q) := ⟨fun pins s σ H Q I ⟨z, q⟩ => (h z).run pins s σ H Q I q⟩
abbrev Bw (T : Tb) (R : Hp) (X : Cx) (ρ : List AV) (e : Expr) (k : Bool) : Prop := PW X e (cT T R ρ k)
theorem bw_of {t : TT} {k : Bool} (h : PW X e t) (q : ∀ σ H H0 Q, En T R H0 ρ σ H → (∀ H', Ex T H H' → Q k H') → t σ H Q) : Bw T R X ρ e k := ⟨fun wh pins s σ H Q I ⟨⟨H0, e⟩, z⟩ => h.run wh pins s σ H Q I (q σ H H0 Q e z)⟩
theorem bw_and1 {k : Bool} (h : B T R X ρ a k) : Bw T R X ρ (.BoolOp .And [a] pos) k := bw_of (pw_and1 h) fun σ H H0 Q en q => ⟨⟨H0, en⟩, q⟩
theorem bw_or1 {k : Bool} (h : B T R X ρ a k) : Bw T R X ρ (.BoolOp .Or [a] pos) k := bw_of (pw_or1 h) fun σ H H0 Q en q => ⟨⟨H0, en⟩, q⟩
theorem bw_and {k l : Bool} {rest : List Expr} (h : B T R X ρ a k) (t : k = true → Bw T R X ρ (.BoolOp .And (b :: rest) pos) l) : Bw T R X ρ (.BoolOp .And (a :: b :: rest) pos) (k && l) :=
  bw_of (pw_and h (bw_when t)) fun σ H H0 Q en q => ⟨⟨H0, en⟩, fun H1 x1 => by
    cases k with
    | false => exact iteF (q H1 x1)
    | true => exact iteT ⟨rfl, ⟨H0, en.step x1⟩, fun H2 x2 => q H2 (x1.trans x2)⟩⟩
theorem bw_or {k l : Bool} {rest : List Expr} (h : B T R X ρ a k) (t : k = false → Bw T R X ρ (.BoolOp .Or (b :: rest) pos) l) : Bw T R X ρ (.BoolOp .Or (a :: b :: rest) pos) (k || l) :=
  bw_of (pw_or h (bw_when t)) fun σ H H0 Q en q => ⟨⟨H0, en⟩, fun H1 x1 => by
    cases k with
    | true => exact iteT (q H1 x1)
    | false => exact iteF ⟨rfl, ⟨H0, en.step x1⟩, fun H2 x2 => q H2 (x1.trans x2)⟩⟩
theorem b_w {k : Bool} (h : Bw T R X ρ e k) : B T R X ρ e k := h.pt
/-! and, or, not, if as values -/
theorem e_and1 {P : V → Hp → Prop} {op : BoolOp} (h : E T R X ρ a P) : E T R X ρ (.BoolOp op [a] pos) P := e_of (pe_one h) fun σ H H0 Q en q => ⟨⟨H0, en⟩, q⟩
theorem e_and {k l : Bool} {rest : List Expr} (h : E T R X ρ a (is X.K k).p) (t : k = true → E T R X ρ (.BoolOp .And (b :: rest) pos) (is X.K l).p) : E T R X ρ (.BoolOp .And (a :: b :: rest) pos) (is X.K (k && l)).p :=
  e_of (pe_and h (e_when t)) fun σ H H0 Q en q => ⟨⟨H0, en⟩, fun v H1 x1 p1 => ⟨k, is_bool.mp p1, by
    cases k with
    | false => exact iteF (q _ H1 x1 (is_bool.mpr rfl))
    | true => exact iteT ⟨rfl, ⟨H0, en.step x1⟩, fun v H2 x2 p2 => q v H2 (x1.trans x2) p2⟩⟩⟩
theorem e_or {k l : Bool} {rest : List Expr} (h : E T R X ρ a (is X.K k).p) (t : k = false → E T R X ρ (.BoolOp .Or (b :: rest) pos) (is X.K l).p) : E T R X ρ (.BoolOp .Or (a :: b :: rest) pos) (is X.K (k || l)).p :=
  e_of (pe_or h (e_when t)) fun σ H H0 Q en q => ⟨⟨H0, en⟩, fun v H1 x1 p1 => ⟨k, is_bool.mp p1, by
    cases k with
    | true => exact iteT (q _ H1 x1 (is_bool.mpr rfl))
    | false => exact iteF ⟨rfl, ⟨H0, en.step x1⟩, fun v H2 x2 p2 => q v H2 (x1.trans x2) p2⟩⟩⟩
theorem e_not {k : Bool} (h : E T R X ρ a (is X.K k).p) : E T R X ρ (.UnaryOp .Not a pos) (is X.K (!k)).p :=
  e_of (pe_not h) fun σ H H0 Q en q => ⟨⟨H0, en⟩, fun v H1 x1 p1 => ⟨k, is_bool.mp p1, q _ H1 x1 (is_bool.mpr rfl)⟩⟩
theorem e_if {k : Bool} {P : V → Hp → Prop} (h : B T R X ρ c k) (h1 : k = true → E T R X ρ a P) (h2 : k = false → E T R X ρ b P) : E T R X ρ (.IfExp c a b pos) P :=
  e_of (pe_ifExp h (e_when h1) (e_when h2)) fun σ H H0 Q en q => ⟨⟨H0, en⟩, fun H1 x1 => by
    cases k with
    | true => exact iteT ⟨rfl, ⟨H0, en.step x1⟩, fun v H2 x2 p2 => q v H2 (x1.trans x2) p2⟩
    | false => exact iteF ⟨rfl, ⟨H0, en.step x1⟩, fun v H2 x2 p2 => q v H2 (x1.trans x2) p2⟩⟩
/-! ### displays -/
theorem e_tup {ds : List PyData} {Ps : List RP} (h : As T R X ρ es Ps) (hl : Ps.length ≤ 1000) (k : ∀ vs H, AllP Ps vs H → DpAll X.K H vs ds) (hp : noLs ds = true) {kk : Nat} : E T R X ρ (.Tuple es kk pos) (fun v H => Dp X.K H v (.tuple ds)) :=
  e_of (pe_tup h) fun σ H H0 Q en q => ⟨⟨H0, en⟩, fun vs H1 x1 p1 => by
    have hd := k vs H1 p1
    have hlen : ∀ {Ps : List RP} {vs : List V}, AllP Ps vs H1 → vs.length = Ps.length := by
      intro Ps
      induction Ps with
      | nil => intro vs h; cases vs with
        | nil => rfl
        | cons _ _ => exact h.elim
      | cons P Ps ih => intro vs h; cases vs with
        | nil => exact h.elim
        | cons v vs => simp [ih h.2]
    refine ⟨?_, fun p hp' => q _ _ (x1.trans (Ex.new hp')) (.tup (SqT.of upd_same) (dps_ez (Ex.new (T := T) hp').ez _ _ hp hd))⟩
    have : sizeLine = 16777216 := sizeLine_eq
    rw [hlen p1]
    omega⟩
section
variable {α β : Type} [DecidableEq α] [DecidableEq β] [Enc α] [Enc β]
theorem e_tup1 {x : α} {kk : Nat} (h : E T R X ρ a (is X.K x).p) (hs : starEach [a] X.env = (false, eval a X.env) :: starEach [] X.env := by rfl) : E T R X ρ (.Tuple [a] kk pos) (is X.K [x]).p :=
  e_tup (ds := [enc x]) (as_cons (P := (is X.K x).r) h as_nil hs) (by simp) (fun vs H p => match vs, p with
    | [v], p => .cons p.1 .nil) (encs_pure [x])
theorem e_tup2L {x y : α} {kk : Nat} (h : E T R X ρ a (is X.K x).p) (h' : E T R X ρ b (is X.K y).p) (hs : starEach [a, b] X.env = (false, eval a X.env) :: starEach [b] X.env := by rfl) (hs2 : starEach [b] X.env = (false, eval b X.env) :: starEach [] X.env := by rfl) : E T R X ρ (.Tuple [a, b] kk pos) (is X.K [x, y]).p :=
  e_tup (ds := [enc x, enc y]) (as_cons (P := (is X.K x).r) h (as_cons (P := (is X.K y).r) h' as_nil hs2) hs) (by simp) (fun vs H p => match vs, p with
    | [v, w], p => .cons p.1 (.cons p.2.1 .nil)) (encs_pure [x, y])
theorem e_tup3L {x y z : α} {kk : Nat} (h : E T R X ρ a (is X.K x).p) (h' : E T R X ρ b (is X.K y).p) (h'' : E T R X ρ c (is X.K z).p) (hs : starEach [a, b, c] X.env = (false, eval a X.env) :: starEach [b, c] X.env := by rfl) (hs1 : starEach [b, c] X.env = (false, eval b X.env) :: starEach [c] X.env := by rfl) (hs2 : starEach [c] X.env = (false, eval c X.env) :: starEach [] X.env := by rfl) :
    E T R X ρ (.Tuple [a, b, c] kk pos) (is X.K [x, y, z]).p :=
  e_tup (ds := [enc x, enc y, enc z]) (as_cons (P := (is X.K x).r) h (as_cons (P := (is X.K y).r) h' (as_cons (P := (is X.K z).r) h'' as_nil hs2) hs1) hs) (by simp) (fun vs H p => match vs, p with
    | [v, w, u], p => .cons p.1 (.cons p.2.1 (.cons p.2.2.1 .nil))) (encs_pure [x, y, z])
theorem e_tup2 {x : α} {y : β} {kk : Nat} (h : E T R X ρ a (is X.K x).p) (h' : E T R X ρ b (is X.K y).p) (hs : starEach [a, b] X.env = (false, eval a X.env) :: starEach [b] X.env := by rfl) (hs2 : starEach [b] X.env = (false, eval b X.env) :: starEach [] X.env := by rfl) : E T R X ρ (.Tuple [a, b] kk pos) (is X.K (x, y)).p :=
  e_tup (ds := [enc x, enc y]) (as_cons (P := (is X.K x).r) h (as_cons (P := (is X.K y).r) h' as_nil hs2) hs) (by simp) (fun vs H p => match vs, p with
    | [v, w], p => .cons p.1 (.cons p.2.1 .nil)) (by
      show (noL (enc x) && (noL (enc y) && true)) = true
      rw [show noL (enc x) = true from Enc.pure x, show noL (enc y) = true from Enc.pure y]
      rfl)
theorem e_tup0 {kk : Nat} : E T R X ρ (.Tuple [] kk pos) (is X.K ([] : List α)).p := e_tup (ds := []) as_nil (by simp) (fun vs H p => match vs, p with
    | [], _ => .nil) rfl
theorem n_lstA {xs : List α} {Ps : List RP} (h : As T R X ρ es Ps) (hl : xs.length ≤ 1000) (k : ∀ vs H, AllP Ps vs H → DpAll X.K H vs (encs xs)) : N T R X ρ (.List es pos) (lstO X.K xs) :=
  n_of (pe_lst h) fun σ H H0 Q en q => ⟨⟨H0, en⟩, fun vs H1 x1 p1 => by
    have hd := k vs H1 p1
    refine ⟨?_, fun p hp' => q _ (fun a => a = p) _ (fun a z => by rw [z]; exact x1.bk p hp') (x1.trans (Ex.new hp')) ⟨p, vs, rfl, rfl, upd_same, dps_ez (Ex.new (T := T) hp').ez _ _ (encs_pure xs) hd⟩⟩
    have : sizeLine = 16777216 := sizeLine_eq
    rw [DpAll.len hd]
    unfold encs
    rw [List.length_map]
    omega⟩
theorem n_lst0 : N T R X ρ (.List [] pos) (lstO X.K ([] : List α)) := n_lstA as_nil (by simp) (fun vs H p => match vs, p with
    | [], _ => .nil)
theorem n_lst1 {x : α} (h : E T R X ρ a (is X.K x).p) (hs : starEach [a] X.env = (false, eval a X.env) :: starEach [] X.env := by rfl) : N T R X ρ (.List [a] pos) (lstO X.K [x]) :=
  n_lstA (as_cons (P := (is X.K x).r) h as_nil hs) (by simp) (fun vs H p => match vs, p with
    | [v], p => .cons p.1 .nil)
end
end
end Cf
set_option maxHeartbeats 2000000
namespace Cf
open PySem PySem.Spec PyProof.Rows L2

section
variable {T : Tb} {R : Hp} {X : Cx} {ρ : List AV} {e a b c : Expr} {es : List Expr} {pos : Pos}
/-! ### built-ins by their names -/
theorem e_callB {id : String} {x : Str} {p : Pos} {r : List V → Hp → VK → Prop} {Ps : List RP} {P : V → Hp → Prop} (hc : CallR X (.builtin id) r) (hm : X.mg x = none) (hv : bootBuiltins x = some (.builtin id)) (ha : As T R X ρ (e :: es) Ps)
    (k : ∀ vs H Q, Ex T R H → AllP Ps vs H → (∀ v H', Ex T H H' → P v H' → Q v H') → r vs H Q) (hg : Gl X x := by rfl) (hn : x ≠ "__name__" := by decide) (hdb : (x == ("__debug__" : Str)) = false := by decide)
    (he : starEach (e :: es) X.env = (false, eval e X.env) :: starEach es X.env := by rfl) (hpl : (backTo pos (starEach es X.env)).any (·.1) = false := by rfl) : E T R X ρ (.Call (.Name x p) (e :: es) [] pos) P :=
  e_of (pe_callB hc hg hm hv ha hn hdb he hpl) fun σ H H0 Q en q => ⟨⟨H0, en⟩, fun vs H1 x1 p1 => k vs H1 Q (en.exR.trans x1) p1 fun v H' x2 p2 => q v H' (x1.trans x2) p2⟩
theorem n_callB {id : String} {x : Str} {p : Pos} {r : List V → Hp → VK → Prop} {Ps : List RP} {O : OP} (hc : CallR X (.builtin id) r) (hm : X.mg x = none) (hv : bootBuiltins x = some (.builtin id)) (ha : As T R X ρ (e :: es) Ps)
    (k : ∀ vs H Q, Ex T R H → AllP Ps vs H → (∀ v S H', (∀ a, S a → H a = none) → Ex T H H' → O.p v S H' → Q v H') → r vs H Q) (hg : Gl X x := by rfl) (hn : x ≠ "__name__" := by decide) (hdb : (x == ("__debug__" : Str)) = false := by decide)
    (he : starEach (e :: es) X.env = (false, eval e X.env) :: starEach es X.env := by rfl) (hpl : (backTo pos (starEach es X.env)).any (·.1) = false := by rfl) : N T R X ρ (.Call (.Name x p) (e :: es) [] pos) O :=
  n_of (pe_callB hc hg hm hv ha hn hdb he hpl) fun σ H H0 Q en q => ⟨⟨H0, en⟩, fun vs H1 x1 p1 => k vs H1 Q (en.exR.trans x1) p1 fun v S H' hS x2 p2 => q v S H' (fun a ha => x1.bk a (hS a ha)) (x1.trans x2) p2⟩
theorem e_callT {id : String} {x : Str} {p : Pos} {r : List V → Hp → VK → Prop} {Ps : List RP} {P : V → Hp → Prop} (hc : CallR X (.type id) r) (hm : X.mg x = none) (hv : bootBuiltins x = some (.type id)) (ha : As T R X ρ (e :: es) Ps)
    (k : ∀ vs H Q, Ex T R H → AllP Ps vs H → (∀ v H', Ex T H H' → P v H' → Q v H') → r vs H Q) (hg : Gl X x := by rfl) (hn : x ≠ "__name__" := by decide) (hdb : (x == ("__debug__" : Str)) = false := by decide)
    (he : starEach (e :: es) X.env = (false, eval e X.env) :: starEach es X.env := by rfl) (hpl : (backTo pos (starEach es X.env)).any (·.1) = false := by rfl) : E T R X ρ (.Call (.Name x p) (e :: es) [] pos) P :=
  e_of (pe_callTy hc hg hm hv ha hn hdb he hpl) fun σ H H0 Q en q => ⟨⟨H0, en⟩, fun vs H1 x1 p1 => k vs H1 Q (en.exR.trans x1) p1 fun v H' x2 p2 => q v H' (x1.trans x2) p2⟩
theorem n_callT {id : String} {x : Str} {p : Pos} {r : List V → Hp → VK → Prop} {Ps : List RP} {O : OP} (hc : CallR X (.type id) r) (hm : X.mg x = none) (hv : bootBuiltins x = some (.type id)) (ha : As T R X ρ (e :: es) Ps)
    (k : ∀ vs H Q, Ex T R H → AllP Ps vs H → (∀ v S H', (∀ a, S a → H a = none) → Ex T H H' → O.p v S H' → Q v H') → r vs H Q) (hg : Gl X x := by rfl) (hn : x ≠ "__name__" := by decide) (hdb : (x == ("__debug__" : Str)) = false := by decide)
    (he : starEach (e :: es) X.env = (false, eval e X.env) :: starEach es X.env := by rfl) (hpl : (backTo pos (starEach es X.env)).any (·.1) = false := by rfl) : N T R X ρ (.Call (.Name x p) (e :: es) [] pos) O :=
  n_of (pe_callTy hc hg hm hv ha hn hdb he hpl) fun σ H H0 Q en q => ⟨⟨H0, en⟩, fun vs H1 x1 p1 => k vs H1 Q (en.exR.trans x1) p1 fun v S H' hS x2 p2 => q v S H' (fun a ha => x1.bk a (hS a ha)) (x1.trans x2) p2⟩
theorem as_one {P : RP} (h : E T R X ρ e P.p) (hs : starEach [e] X.env = (false, eval e X.env) :: starEach [] X.env) : As T R X ρ [e] [P] := as_cons h as_nil hs
theorem allP1 {P : RP} {vs : List V} {H : Hp} (h : AllP [P] vs H) : ∃ v, vs = [v] ∧ P.p v H := match vs, h with
  | [v], h => ⟨v, rfl, h.1⟩
theorem allP2 {P Q : RP} {vs : List V} {H : Hp} (h : AllP [P, Q] vs H) : ∃ v w, vs = [v, w] ∧ P.p v H ∧ Q.p w H := match vs, h with
  | [v, w], h => ⟨v, w, rfl, h.1, h.2.1⟩
theorem allP3 {P Q Z : RP} {vs : List V} {H : Hp} (h : AllP [P, Q, Z] vs H) : ∃ v w u, vs = [v, w, u] ∧ P.p v H ∧ Q.p w H ∧ Z.p u H := match vs, h with
  | [v, w, u], h => ⟨v, w, u, rfl, h.1, h.2.1, h.2.2.1⟩
section
variable {α β : Type} [DecidableEq α] [DecidableEq β] [Enc α] [Enc β] {xs : List α} {x : Str} {p : Pos}
theorem e_len (h : E T R X ρ e (seqR X.K xs).p) (hm : X.mg "len" = none) (hs : starEach [e] X.env = (false, eval e X.env) :: starEach [] X.env := by rfl) (hg : Gl X "len" := by rfl) (hpl : (backTo pos (starEach [] X.env)).any (·.1) = false := by rfl) : E T R X ρ (.Call (.Name "len" p) [e] [] pos) (is X.K (xs.length : Int)).p :=
  e_callB call_len_seq hm PySem.boot_len (as_one h hs) (fun vs H Q _ hp k => by
    obtain ⟨v, rfl, l, ws, rfl, h1, h2⟩ := allP1 hp
    refine ⟨l, ws, rfl, h1, k _ H (Ex.refl H) (is_int.mpr ?_)⟩
    rw [DpAll.len h2]
    simp [encs]) hg (by decide) (by decide) hs hpl
theorem e_lenS {y : Nm} (hl : y.1.length ≤ 1000000) (h : E T R X ρ e (is X.K y).p) (hm : X.mg "len" = none) (hs : starEach [e] X.env = (false, eval e X.env) :: starEach [] X.env := by rfl) (hg : Gl X "len" := by rfl) (hpl : (backTo pos (starEach [] X.env)).any (·.1) = false := by rfl) : E T R X ρ (.Call (.Name "len" p) [e] [] pos) (is X.K (y.1.length : Int)).p :=
  e_callB call_len hm PySem.boot_len (as_one (P := (is X.K y).r) h hs) (fun vs H Q _ hp k => by
    obtain ⟨v, rfl, h1⟩ := allP1 hp
    have h2 := is_nm.mp h1
    subst h2
    refine ⟨_, y.1.length, rfl, ?_, k _ H (Ex.refl H) (is_int.mpr rfl)⟩
    have : sizeLine = 16777216 := sizeLine_eq
    exact ⟨by omega, rfl⟩) hg (by decide) (by decide) hs hpl
theorem e_tupleOf (h : E T R X ρ e (seqR X.K xs).p) (hm : X.mg "tuple" = none) (hs : starEach [e] X.env = (false, eval e X.env) :: starEach [] X.env := by rfl) (hg : Gl X "tuple" := by rfl) (hpl : (backTo pos (starEach [] X.env)).any (·.1) = false := by rfl) : E T R X ρ (.Call (.Name "tuple" p) [e] [] pos) (is X.K xs).p :=
  e_callT call_tuple_of hm (by decide +kernel) (as_one h hs) (fun vs H Q _ hp k => by
    obtain ⟨v, rfl, l, ws, rfl, h1, h2⟩ := allP1 hp
    refine ⟨l, ws, rfl, ?_⟩
    rcases h1 with h1 | h1
    · exact .inl ⟨h1, fun q hq => k _ _ (Ex.new hq) (is_list.mpr ⟨q, ws, rfl, SqT.of upd_same, dps_ez (Ex.new (T := T) hq).ez _ _ (encs_pure xs) h2⟩)⟩
    · exact .inr ⟨h1, k _ H (Ex.refl H) (is_list.mpr ⟨l, ws, rfl, h1, h2⟩)⟩) hg (by decide) (by decide) hs hpl
theorem n_listOf (h : E T R X ρ e (seqR X.K xs).p) (hm : X.mg "list" = none) (hs : starEach [e] X.env = (false, eval e X.env) :: starEach [] X.env := by rfl) (hg : Gl X "list" := by rfl) (hpl : (backTo pos (starEach [] X.env)).any (·.1) = false := by rfl) : N T R X ρ (.Call (.Name "list" p) [e] [] pos) (lstO X.K xs) :=
  n_callT call_list_of hm (by decide +kernel) (as_one h hs) (fun vs H Q _ hp k => by
    obtain ⟨v, rfl, l, ws, rfl, h1, h2⟩ := allP1 hp
    exact ⟨l, ws, rfl, h1, fun q hq => k _ (fun a => a = q) _ (fun a z => by rw [z]; exact hq) (Ex.new hq) ⟨q, ws, rfl, rfl, upd_same, dps_ez (Ex.new (T := T) hq).ez _ _ (encs_pure xs) h2⟩⟩) hg (by decide) (by decide) hs hpl
theorem dps_bools {K : PySem.W.Frag} {H : Hp} : ∀ {vs : List V} {bs : List Bool}, DpAll K H vs (encs bs) → vs = bs.map V.bl
  | _, [], h => by cases h; rfl
  | _, b :: bs, h => by
    have h' : DpAll K H _ (PyData.bool b :: encs bs) := h
    cases h' with
    | cons h1 h2 =>
      cases h1
      rw [dps_bools h2] <;> rfl
theorem dps_ints {K : PySem.W.Frag} {H : Hp} : ∀ {vs : List V} {is : List Int}, DpAll K H vs (encs is) → vs = is.map V.int
  | _, [], h => by cases h; rfl
  | _, b :: bs, h => by
    have h' : DpAll K H _ (PyData.int b :: encs bs) := h
    cases h' with
    | cons h1 h2 =>
      cases h1
      rw [dps_ints h2] <;> rfl
theorem e_all {bs : List Bool} (h : E T R X ρ e (lstR X.K bs).p) (hm : X.mg "all" = none) (hc : X.calm = true := by rfl) (hs : starEach [e] X.env = (false, eval e X.env) :: starEach [] X.env := by rfl) (hg : Gl X "all" := by rfl) (hpl : (backTo pos (starEach [] X.env)).any (·.1) = false := by rfl) : E T R X ρ (.Call (.Name "all" p) [e] [] pos) (is X.K (bs.all id)).p :=
  e_callB (cr_all hc) hm (by decide +kernel) (as_one h hs) (fun vs H Q _ hp k => by
    obtain ⟨v, rfl, l, ws, rfl, h1, h2⟩ := allP1 hp
    exact ⟨l, bs, rfl, dps_bools h2 ▸ h1, k _ H (Ex.refl H) (is_bool.mpr rfl)⟩) hg (by decide) (by decide) hs hpl
theorem e_any {bs : List Bool} (h : E T R X ρ e (lstR X.K bs).p) (hm : X.mg "any" = none) (hc : X.calm = true := by rfl) (hs : starEach [e] X.env = (false, eval e X.env) :: starEach [] X.env := by rfl) (hg : Gl X "any" := by rfl) (hpl : (backTo pos (starEach [] X.env)).any (·.1) = false := by rfl) : E T R X ρ (.Call (.Name "any" p) [e] [] pos) (is X.K (bs.any id)).p :=
  e_callB (cr_any hc) hm (by decide +kernel) (as_one h hs) (fun vs H Q _ hp k => by
    obtain ⟨v, rfl, l, ws, rfl, h1, h2⟩ := allP1 hp
    exact ⟨l, bs, rfl, dps_bools h2 ▸ h1, k _ H (Ex.refl H) (is_bool.mpr rfl)⟩) hg (by decide) (by decide) hs hpl
theorem e_sum {ns : List Int} (h : E T R X ρ e (lstR X.K ns).p) (hm : X.mg "sum" = none) (hc : X.calm = true := by rfl) (hs : starEach [e] X.env = (false, eval e X.env) :: starEach [] X.env := by rfl) (hg : Gl X "sum" := by rfl) (hpl : (backTo pos (starEach [] X.env)).any (·.1) = false := by rfl) : E T R X ρ (.Call (.Name "sum" p) [e] [] pos) (is X.K ns.sum).p :=
  e_callB (cr_sum hc) hm (by decide +kernel) (as_one h hs) (fun vs H Q _ hp k => by
    obtain ⟨v, rfl, l, ws, rfl, h1, h2⟩ := allP1 hp
    exact ⟨l, ns, rfl, dps_ints h2 ▸ h1, k _ H (Ex.refl H) (is_int.mpr rfl)⟩) hg (by decide) (by decide) hs hpl
theorem e_min2 {m n : Int} (h : E T R X ρ a (is X.K m).p) (h' : E T R X ρ b (is X.K n).p) (hm : X.mg "min" = none) (hc : X.calm = true := by rfl) (hs : starEach [a, b] X.env = (false, eval a X.env) :: starEach [b] X.env := by rfl) (hs2 : starEach [b] X.env = (false, eval b X.env) :: starEach [] X.env := by rfl) (hg : Gl X "min" := by rfl)
    (hpl : (backTo pos (starEach [b] X.env)).any (·.1) = false := by rfl) : E T R X ρ (.Call (.Name "min" p) [a, b] [] pos) (is X.K (min m n)).p :=
  e_callB (call_min2 hc) hm (by decide +kernel) (as_cons (P := (is X.K m).r) h (as_one (P := (is X.K n).r) h' hs2) hs) (fun vs H Q _ hp k => by
    obtain ⟨v, w, rfl, h1, h2⟩ := allP2 hp
    refine ⟨m, n, by rw [is_int.mp h1, is_int.mp h2], k _ H (Ex.refl H) (is_int.mpr ?_)⟩
    congr 1
    rw [Int.min_def]
    split <;> split <;> omega) hg (by decide) (by decide) hs hpl
/-- isinstance(x, T), T a built-in class -/
theorem e_isi {t : String} {Tn : Str} {p2 : Pos} {P : RP} {k : Bool} {ty : String} (h : E T R X ρ a P.p) (ht : ∀ v H, P.p v H → TyX X.K H v (.type ty)) (hk : kitB ty t = some k) (hm : X.mg "isinstance" = none) (hm2 : X.mg Tn = none) (hb : bootBuiltins Tn = some (.type t))
    (hs : starEach [a, .Name Tn p2] X.env = (false, eval a X.env) :: starEach [.Name Tn p2] X.env := by rfl) (hg : Gl X "isinstance" := by rfl) (hg2 : Gl X Tn := by rfl) (hn : Tn ≠ "__name__" := by decide) (hd : (Tn == ("__debug__" : Str)) = false := by decide) :
    E T R X ρ (.Call (.Name "isinstance" p) [a, .Name Tn p2] [] pos) (is X.K k).p := by
  have h2 : E T R X ρ (.Name Tn p2) (fun v _ => v = .ty t) := e_of (pe_bltn (v := .ty t) hg2 hm2 hb rfl hn hd) fun σ H H0 Q en q => q _ H (Ex.refl H) rfl
  exact e_callB call_isi hm (by decide +kernel) (as_cons h (as_one (P := ⟨fun v _ => v = .ty t, fun _ _ _ _ h => h⟩) h2 rfl) hs) (fun vs H Q _ hp kk => by
    obtain ⟨v, w, rfl, h1, rfl⟩ := allP2 hp
    exact ⟨v, _, _, _, k, rfl, .ty t, ht v H h1, kit_ty hk, kk _ H (Ex.refl H) (is_bool.mpr rfl)⟩) hg (by decide) (by decide) hs rfl
theorem ty_tup {K : PySem.W.Frag} {v : V} {H : Hp} (h : (is K xs).p v H) : TyX K H v (.type "tuple") := by
  obtain ⟨a, vs, rfl, h1, h2⟩ := is_list.mp h
  rcases h1 with (h1 | ⟨o, h1⟩) | ⟨o, its, n, h1, h3, _⟩
  · exact .base (.tup h1)
  · exact .fTuple h1
  · exact .kTuple h1 h3
theorem ty_nm {K : PySem.W.Frag} {v : V} {H : Hp} {y : Nm} (h : (is K y).p v H) : TyX K H v (.type "str") := by
  rw [is_nm.mp h]
  exact .base (.str _)
/-! ### subscripts -/
theorem atI_get {γ : Type} {xs : List γ} {i : Nat} {v : γ} (h : xs[i]? = some v) : atI xs (i : Int) = some v := by
  have hi := (List.getElem?_eq_some_iff.mp h).1
  unfold atI ixN
  rw [if_pos (by omega), if_pos (by omega)]
  show xs[(i : Int).toNat]? = some v
  rw [Int.toNat_natCast]
  exact h
/-- t[i], an open place within -/
theorem e_ixT {i : Nat} {y : α} (h : E T R X ρ a (is X.K xs).p) (h' : E T R X ρ b (is X.K (i : Int)).p) (hi : xs[i]? = some y) (hs : PlainIx b := by exact fun _ _ => rfl) : E T R X ρ (.Subscript a b pos) (is X.K y).p :=
  e_of (pe_ix ix_tup h h' hs) fun σ H H0 Q en q => ⟨⟨H0, en⟩, fun v H1 x1 p1 => ⟨⟨H0, en.step x1⟩, fun w H2 x2 p2 => by
    obtain ⟨l, vs, rfl, h1, h2⟩ := is_list.mp ((is X.K xs).st _ _ _ x2.ez p1)
    obtain ⟨u, e1, e2⟩ := DpAll.at' h2 (show (encs xs)[i]? = some (enc y) by unfold encs; rw [List.getElem?_map, hi]; rfl)
    exact ⟨l, vs, _, u, rfl, is_int.mp p2, h1, atI_get e1, q _ _ (x1.trans x2) e2⟩⟩⟩
theorem e_ixL {i : Nat} {y : α} (h : E T R X ρ a (lstR X.K xs).p) (h' : E T R X ρ b (is X.K (i : Int)).p) (hi : xs[i]? = some y) (hs : PlainIx b := by exact fun _ _ => rfl) : E T R X ρ (.Subscript a b pos) (is X.K y).p :=
  e_of (pe_ix ix_list h h' hs) fun σ H H0 Q en q => ⟨⟨H0, en⟩, fun v H1 x1 p1 => ⟨⟨H0, en.step x1⟩, fun w H2 x2 p2 => by
    obtain ⟨l, vs, rfl, h1, h2⟩ := (lstR X.K xs).st _ _ _ x2.ext p1
    obtain ⟨u, e1, e2⟩ := DpAll.at' h2 (show (encs xs)[i]? = some (enc y) by unfold encs; rw [List.getElem?_map, hi]; rfl)
    exact ⟨l, vs, _, u, rfl, is_int.mp p2, h1, atI_get e1, q _ _ (x1.trans x2) e2⟩⟩⟩
/-- the sides of a pair -/
theorem e_fst {y : α × β} (h : E T R X ρ a (is X.K y).p) {j : Nat} {p2 : Pos} : E T R X ρ (.Subscript a (.Constant (.int 0) j p2) pos) (is X.K y.1).p :=
  e_of (pe_ix ix_tup h pe_int (fun _ _ => rfl)) fun σ H H0 Q en q => ⟨⟨H0, en⟩, fun v H1 x1 p1 => by
    obtain ⟨l, u, w, rfl, h1, h2, h3⟩ := is_pair.mp p1
    exact ⟨l, _, 0, u, rfl, rfl, h1, rfl, q _ _ x1 h2⟩⟩
theorem e_snd {y : α × β} (h : E T R X ρ a (is X.K y).p) {j : Nat} {p2 : Pos} : E T R X ρ (.Subscript a (.Constant (.int 1) j p2) pos) (is X.K y.2).p :=
  e_of (pe_ix ix_tup h pe_int (fun _ _ => rfl)) fun σ H H0 Q en q => ⟨⟨H0, en⟩, fun v H1 x1 p1 => by
    obtain ⟨l, u, w, rfl, h1, h2, h3⟩ := is_pair.mp p1
    exact ⟨l, _, 1, w, rfl, rfl, h1, rfl, q _ _ x1 h3⟩⟩
/-! slices -/
theorem sIx_nat (n d i : Nat) (h : i ≤ n) : HT.sIx n d (some (i : Int)) = i := by
  unfold HT.sIx
  simp only
  split <;> omega
theorem DpAll.cut {K : PySem.W.Frag} {H : Hp} {vs : List V} {ds : List PyData} (lo hi : Option Int) (h : DpAll K H vs ds) : DpAll K H (cutV vs lo hi) ((ds.drop (HT.sIx ds.length 0 lo)).take (HT.sIx ds.length ds.length hi - HT.sIx ds.length 0 lo)) := by
  unfold cutV
  rw [DpAll.len h]
  exact DpAll.take _ (DpAll.drop _ h)
/-- t[i:] -/
theorem e_from {i : Nat} {p2 : Pos} (h : E T R X ρ a (is X.K xs).p) (h' : E T R X ρ b (is X.K (i : Int)).p) (hi : i ≤ xs.length) : E T R X ρ (.Subscript a (.Slice (some b) none none p2) pos) (is X.K (xs.drop i)).p :=
  e_of (pe_slice sl_tupA h (po_some h') po_none) fun σ H H0 Q en q => ⟨⟨H0, en⟩, fun v H1 x1 p1 => ⟨⟨H0, en.step x1⟩, fun w H2 x2 p2 => by
    obtain ⟨l, vs, rfl, h1, h2⟩ := is_list.mp ((is X.K xs).st _ _ _ x2.ez p1)
    have hl : vs.length = xs.length := by rw [DpAll.len h2]; simp [encs]
    refine ⟨(i : Int), is_int.mp p2, l, vs, rfl, h1, fun z => q _ _ (x1.trans x2) ?_, fun _ r hr => q _ _ ((x1.trans x2).trans (Ex.new hr)) ?_⟩
    · have z0 := z.1
      rw [hl, sIx_nat _ _ _ hi] at z0
      subst z0
      exact is_list.mpr ⟨l, vs, rfl, h1, h2⟩
    · refine is_list.mpr ⟨r, _, rfl, SqT.of upd_same, dps_ez (Ex.new (T := T) hr).ez _ _ (encs_pure _) ?_⟩
      have := DpAll.cut (some (i : Int)) none h2
      have e1 : (encs xs).length = xs.length := by simp [encs]
      rw [e1, sIx_nat _ _ _ hi] at this
      have e2 : ((encs xs).drop i).take (HT.sIx xs.length xs.length none - i) = encs (xs.drop i) := by
        show ((encs xs).drop i).take (xs.length - i) = _
        rw [List.take_of_length_le (by rw [List.length_drop, e1]; exact Nat.le_refl _)]
        unfold encs
        rw [List.map_drop]
      rw [e2] at this
      exact this⟩⟩
/-- t[:i] -/
theorem e_upto {i : Nat} {p2 : Pos} (h : E T R X ρ a (is X.K xs).p) (h' : E T R X ρ b (is X.K (i : Int)).p) (hi : i ≤ xs.length) : E T R X ρ (.Subscript a (.Slice none (some b) none p2) pos) (is X.K (xs.take i)).p :=
  e_of (pe_slice sl_tupA h po_none (po_some h')) fun σ H H0 Q en q => ⟨⟨H0, en⟩, fun v H1 x1 p1 => ⟨⟨H0, en.step x1⟩, fun w H2 x2 p2 => by
    obtain ⟨l, vs, rfl, h1, h2⟩ := is_list.mp ((is X.K xs).st _ _ _ x2.ez p1)
    have hl : vs.length = xs.length := by rw [DpAll.len h2]; simp [encs]
    refine ⟨(i : Int), is_int.mp p2, l, vs, rfl, h1, fun z => q _ _ (x1.trans x2) ?_, fun _ r hr => q _ _ ((x1.trans x2).trans (Ex.new hr)) ?_⟩
    · have z0 := z.2
      rw [hl, sIx_nat _ _ _ hi] at z0
      rw [z0, List.take_length]
      exact is_list.mpr ⟨l, vs, rfl, h1, h2⟩
    · refine is_list.mpr ⟨r, _, rfl, SqT.of upd_same, dps_ez (Ex.new (T := T) hr).ez _ _ (encs_pure _) ?_⟩
      have := DpAll.cut none (some (i : Int)) h2
      have e1 : (encs xs).length = xs.length := by simp [encs]
      rw [e1, sIx_nat _ _ _ hi] at this
      have e2 : ((encs xs).drop (HT.sIx xs.length 0 none)).take (i - HT.sIx xs.length 0 none) = encs (xs.take i) := by
        show ((encs xs).drop 0).take (i - 0) = _
        rw [List.drop_zero, Nat.sub_zero]
        unfold encs
        rw [List.map_take]
      rw [e2] at this
      exact this⟩⟩
/-! sums of sequences -/
theorem e_catT {ys : List α} (h : E T R X ρ a (is X.K xs).p) (h' : E T R X ρ b (is X.K ys).p) (hl : xs.length + ys.length ≤ 1000000) : E T R X ρ (.BinOp a .Add b pos) (is X.K (xs ++ ys)).p :=
  e_op2 (Pa := (is X.K xs).r) (Pb := (is X.K ys).r) op_catA h h' fun v w H Q _ p q k => by
    obtain ⟨l1, vs, rfl, h1, h2⟩ := is_list.mp p
    obtain ⟨l2, ws, rfl, h3, h4⟩ := is_list.mp q
    have e1 : vs.length = xs.length := by rw [DpAll.len h2]; simp [encs]
    have e2 : ws.length = ys.length := by rw [DpAll.len h4]; simp [encs]
    have : sizeLine = 16777216 := sizeLine_eq
    have ea : encs (xs ++ ys) = encs xs ++ encs ys := by unfold encs; rw [List.map_append]
    refine ⟨l1, l2, vs, ws, rfl, rfl, h1, h3, by omega, fun z => k _ H (Ex.refl H) ?_, fun _ z => k _ H (Ex.refl H) ?_, fun _ _ r hr => k _ _ (Ex.new hr) ?_⟩
    · have : xs = [] := List.eq_nil_of_length_eq_zero (by rw [← e1, z]; rfl)
      subst this
      exact is_list.mpr ⟨l2, ws, rfl, h3, h4⟩
    · have : ys = [] := List.eq_nil_of_length_eq_zero (by rw [← e2, z]; rfl)
      subst this
      rw [List.append_nil]
      exact is_list.mpr ⟨l1, vs, rfl, h1, h2⟩
    · refine is_list.mpr ⟨r, _, rfl, SqT.of upd_same, dps_ez (Ex.new (T := T) hr).ez _ _ (encs_pure _) ?_⟩
      rw [ea]
      exact DpAll.app h2 h4
end
end
end Cf
set_option maxHeartbeats 2000000
namespace Cf
open PySem PySem.Spec PyProof.Rows L2

/-- a tracked list -/
def lstX (K : PySem.W.Frag) {α : Type} [DecidableEq α] [Enc α] (xs : List α) : RP where
  p := fun v H => ∃ l vs, v = .ref l ∧ H l = some (.lst vs) ∧ DpAll K H vs (encs xs)
  st := fun v H H' e ⟨l, vs, h1, h2, h3⟩ => ⟨l, vs, h1, e l _ h2 (fun ps z => by cases z), dps_ez (Ez.of e) _ _ (encs_pure xs) h3⟩

theorem extend_tup (l : Addr) (items : Array Value) (n : Nat) (b : Addr) (items2 : Array Value) (n2 : Nat) (dd : Option Addr) (sl : Array (Option Value)) (hs0 : ¬(!items.isEmpty && Builtin.List.listTooLong (items.size + items2.size)) = true) (hs1 : items.size ≤ sizeLine) (hs2 : items.size + items2.size ≤ sizeLine + 1) :
    Meets (Builtin.«list.extend» ⟨[.ref l, .ref b], []⟩) (fun _ R s => s.heap.get? l = some { cls := .type "list", dict := none, data := .seq items n, slots := #[] } ∧ s.heap.get? b = some { cls := .type "tuple", dict := dd, data := .seq items2 n2, slots := sl } ∧ R (.ok (.ret Value.none)) { s with heap := s.heap.update l (Obj.mapSeq fun x => x ++ items2), toks := s.toks }) :=
  .of_wp fun prog w A R s h => by
    obtain ⟨hp, g, d, tk, os⟩ := s
    obtain ⟨hl, hb, h⟩ := h
    have q1 := AutoSeq1.idx_int
    have q2 := AutoSeq1.sub_tuple_tuple
    have q3 := AutoSeq1.sub_list_list
    have q4 := AutoSeq1.sub_tuple_list
    have q5 := AutoSeq1.sub_list_tuple
    have hz' : (items ++ items2).size ≤ sizeLine + 1 := by
      rw [Array.size_append]
      exact hs2
    wp_walk using (wpAny_updateSeq hl rfl (hz := hs1) (_hz' := hz')), wpAny_loadPart' hl, wpAny_loadPart' hb
    exact ⟨_, rfl, h⟩
section
variable {X : Cx}
/-- l.extend(t), t a tuple -/
def rExtendT (K : PySem.W.Frag) : V → List V → Hp → VK → Prop := fun x vs H Q => ∃ l b xs zs, x = .ref l ∧ vs = [.ref b] ∧ H l = some (.lst xs) ∧ SqT K H b zs ∧ xs.length + zs.length ≤ sizeLine ∧ Q .non (upd H l (.lst (xs ++ zs)))
theorem mt_extendT : MtM X "list.extend" (rExtendT X.K) := by
  intro pins s σ H x vs v us Q I rx rv h
  obtain ⟨l, b, xs, zs, rfl, rfl, hH, hB, hz, q⟩ := h
  cases rx
  obtain ⟨u, rfl, ru⟩ := rv.one
  cases ru
  obtain ⟨z, its, n, r, hl, e⟩ := I.lstM hH
  obtain ⟨its2, r2, ⟨⟨cls, dd, data, sl⟩, e2, hc, n2, hd⟩, z2⟩ := I.tuple hB
  have hl2 := r2.length
  simp only at hc hd
  subst hc hd
  have hsz : its.toArray.size + its2.toArray.size ≤ sizeLine := by rw [List.size_toArray, List.size_toArray]; omega
  have hlong : ¬ (!its.toArray.isEmpty && Builtin.List.listTooLong (its.toArray.size + its2.toArray.size)) = true := by
    rw [notLongL hsz, Bool.and_false]
    exact Bool.false_ne_true
  refine call_meets F.slot_list_extend ⟨_, e, rfl⟩ F.entry_list_extend (F.args_list_extend_2 _ _)
    (extend_tup l its.toArray n b its2.toArray n2 dd sl hlong (by rw [List.size_toArray]; omega) (by omega)) ⟨e, e2, ?_⟩
  refine ⟨.non, _, I.lset (its' := its ++ its2) hH e (by simp) (r.append r2) ?_, rfl, q⟩
  rw [List.length_append]
  omega
end

section
variable {T : Tb} {R : Hp} {X : Cx} {ρ : List AV} {e a b c : Expr} {es : List Expr} {pos : Pos} {Eo : Po}
section
variable {α : Type} [DecidableEq α] [Enc α] {xs ys : List α}
theorem tr_of_o {K : PySem.W.Frag} (v : V) (S : Addr → Prop) (H : Hp) (h : (lstO K xs).p v S H) : (lstX K xs).p v H := by
  obtain ⟨l, vs, h1, h2, h3, h4⟩ := h
  exact ⟨l, vs, h1, h3, h4⟩
theorem e_newX (h : N T R X ρ e (lstO X.K xs)) : E T R X ρ e (lstX X.K xs).p := e_new h tr_of_o
theorem e_ownX (i : Nat) {x : Str} (hr : ρ[i]? = some (.o (lstO X.K xs))) (hN : X.N[i]? = some x := by rfl) (hv : Vis X.env.scope x := by first | exact Or.inl rfl | exact Or.inr (Or.inl rfl) | exact Or.inr (Or.inr rfl)) (hd : (x == ("__debug__" : Str)) = false := by decide)
    (hcd : (x == ("__classdict__" : Str)) = false := by decide) : E T R X ρ (.Name x pos) (lstX X.K xs).p := e_own i hr tr_of_o hN hv hd hcd
/-- l + m -/
theorem n_cat (h : E T R X ρ a (lstX X.K xs).p) (h' : E T R X ρ b (lstX X.K ys).p) (hl : xs.length + ys.length ≤ 1000000) : N T R X ρ (.BinOp a .Add b pos) (lstO X.K (xs ++ ys)) :=
  n_op2 (Pa := lstX X.K xs) (Pb := lstX X.K ys) op_cat h h' fun v w H Q _ ⟨l1, vs, e1, h1, h2⟩ ⟨l2, ws, e2, h3, h4⟩ k => by
    have n1 : vs.length = xs.length := by rw [DpAll.len h2]; simp [encs]
    have n2 : ws.length = ys.length := by rw [DpAll.len h4]; simp [encs]
    have : sizeLine = 16777216 := sizeLine_eq
    have ea : encs (xs ++ ys) = encs xs ++ encs ys := by unfold encs; rw [List.map_append]
    refine ⟨l1, l2, vs, ws, e1, e2, h1, h3, by omega, fun r hr => k _ (fun z => z = r) _ (fun z e => by rw [e]; exact hr) (Ex.new hr) ⟨r, _, rfl, rfl, upd_same, dps_ez (Ex.new (T := T) hr).ez _ _ (encs_pure _) ?_⟩⟩
    rw [ea]
    exact DpAll.app h2 h4
theorem n_if {k : Bool} {O : OP} (h : B T R X ρ c k) (h1 : k = true → N T R X ρ a O) (h2 : k = false → N T R X ρ b O) : N T R X ρ (.IfExp c a b pos) O :=
  n_of (pe_ifExp h (n_when h1) (n_when h2)) fun σ H H0 Q en q => ⟨⟨H0, en⟩, fun H1 x1 => by
    cases k with
    | true => exact iteT ⟨rfl, ⟨H0, en.step x1⟩, fun v S H2 hS x2 p2 => q v S H2 (fun a ha => x1.bk a (hS a ha)) (x1.trans x2) p2⟩
    | false => exact iteF ⟨rfl, ⟨H0, en.step x1⟩, fun v S H2 hS x2 p2 => q v S H2 (fun a ha => x1.bk a (hS a ha)) (x1.trans x2) p2⟩⟩
end
/-! ### statements -/
theorem ss_when {sts : List Stmt} {φ : Prop} (h : φ → Ss T R X ρ sts Eo) : PSs X sts (fun D σ H => φ ∧ cS T R ρ Eo D σ H) := ⟨fun pins s σ H D I ⟨z, q⟩ => (h z).run pins s σ H D I q⟩
theorem s_if {k : Bool} {l m : List Stmt} (h : B T R X ρ c k) (h1 : k = true → Ss T R X ρ l Eo) (h2 : k = false → Ss T R X ρ m Eo) : S T R X ρ (.If c l m pos) Eo :=
  s_of (ps_if h (ss_when h1) (ss_when h2)) fun D σ H H0 en n r b c => ⟨⟨H0, en⟩, fun H1 x1 => by
    cases k with
    | true => exact iteT ⟨rfl, H0, en.step x1, n, r, b, c⟩
    | false => exact iteF ⟨rfl, H0, en.step x1, n, r, b, c⟩⟩
/-- a statement's name of a list of ours, by a method that puts a new content there -/
theorem s_meth {α : Type} [DecidableEq α] [Enc α] {xs ys : List α} {P : RP} {r : V → List V → Hp → VK → Prop} {id : String} {m x : Str} {p1 p2 p3 p4 : Pos} (i : Nat) (slot : Slot "list" m id) (hty : typeOf (.builtin id) = pure (.type "method_descriptor")) (hm : MtM X id r) (hr : ρ[i]? = some (.o (lstO X.K xs))) (h : E T R X ρ e P.p)
    (k : ∀ l vs v H Q, Ex T R H → H l = some (.lst vs) → DpAll X.K H vs (encs xs) → P.p v H → (∀ ws, (∀ H', Ez H H' → DpAll X.K H' ws (encs ys)) → Q .non (upd H l (.lst ws))) → r (.ref l) [v] H Q)
    (kn : ∀ H0 σ H, En T R H0 (ρ.set i (.o (lstO X.K ys))) σ H → Eo.nx H0 σ H)
    (hN : X.N[i]? = some x := by rfl) (hv : Vis X.env.scope x := by first | exact Or.inl rfl | exact Or.inr (Or.inl rfl) | exact Or.inr (Or.inr rfl)) (hd : (x == ("__debug__" : Str)) = false := by decide) (hcd : (x == ("__classdict__" : Str)) = false := by decide)
    (hbase : attributeBase (.Name x p1) m X.env (eval (.Name x p1) X.env) = eval (.Name x p1) X.env := by rfl)
    (hfew : ((backTo p3 (starEach [e] X.env)).all (fun x => !x.1) && (backToKw p3 (keywordEach [] X.env)).all (fun x => x.1.isSome) && decide (([e] : List Expr).length + ([] : List Keyword).length + (if ([] : List Keyword).isEmpty then 0 else 1) < 30)) = true := by rfl)
    (hline : (p2.endLine == p3.line) = true := by rfl) (hs : starEach [e] X.env = (false, eval e X.env) :: starEach [] X.env := by rfl) (hplain : (backTo p3 (starEach [] X.env)).any (·.1) = false := by rfl)
    (hsw : swapsWith (.Call (.Attribute (.Name x p1) m p2) [e] [] p3) none p4.line X.env = pure false := by rfl) : S T R X ρ (.Expr (.Call (.Attribute (.Name x p1) m p2) [e] [] p3) p4) Eo :=
  s_of (ps_expr (pe_bm PySem.F.plainAttrs_list slot hty (r := r) (fun pins s σ H x xs v us Q I r1 r2 h => hm pins s σ H x xs v us Q I r1 r2 h) (pe_var (pos := p1) hN hv hd hcd) (as_one h hs) hbase hfew hline hs hplain) hsw) fun D σ H H0 en n rt b c => by
    obtain ⟨F, w⟩ := en.own
    obtain ⟨v, h1, l, vs, rfl, hF, h3, h4⟩ : ∃ v, σ[i]? = some (some v) ∧ (lstO X.K xs).p v (F i) H := w.ok i _ hr
    refine ⟨_, h1, Or.inl ⟨rfl, _, Or.inl (Or.inl h3)⟩, ⟨H0, en⟩, fun us H1 x1 p1 => ?_⟩
    obtain ⟨u, rfl, hu⟩ := allP1 p1
    have h3' : H1 l = some (.lst vs) := x1.ext l _ h3 fun ps z => by cases z
    have h4' : DpAll X.K H1 vs (encs xs) := dps_ez x1.ez _ _ (encs_pure xs) h4
    refine k l vs u H1 _ (en.exR.trans x1) h3' h4' hu fun ws hws => ?_
    refine n _ _ (kn _ _ _ ((en.step x1).put hr h1 fun S hS => ?_))
    obtain ⟨l2, vs2, e2, rfl, _, _⟩ := hS
    cases e2
    exact ⟨rfl, rfl, l, ws, rfl, rfl, upd_same, hws _ (Ez.put h3' rfl)⟩
section
variable {α : Type} [DecidableEq α] [Enc α] {xs ys : List α}
/-- x.append(e) -/
theorem s_append (i : Nat) {z : α} {x : Str} {p1 p2 p3 p4 : Pos} (hr : ρ[i]? = some (.o (lstO X.K xs))) (hl : xs.length ≤ 1000000) (h : E T R X ρ e (is X.K z).p) (kn : ∀ H0 σ H, En T R H0 (ρ.set i (.o (lstO X.K (xs ++ [z])))) σ H → Eo.nx H0 σ H)
    (hN : X.N[i]? = some x := by rfl) (hv : Vis X.env.scope x := by first | exact Or.inl rfl | exact Or.inr (Or.inl rfl) | exact Or.inr (Or.inr rfl)) (hd : (x == ("__debug__" : Str)) = false := by decide) (hcd : (x == ("__classdict__" : Str)) = false := by decide)
    (hbase : attributeBase (.Name x p1) "append" X.env (eval (.Name x p1) X.env) = eval (.Name x p1) X.env := by rfl)
    (hfew : ((backTo p3 (starEach [e] X.env)).all (fun x => !x.1) && (backToKw p3 (keywordEach [] X.env)).all (fun x => x.1.isSome) && decide (([e] : List Expr).length + ([] : List Keyword).length + (if ([] : List Keyword).isEmpty then 0 else 1) < 30)) = true := by rfl)
    (hline : (p2.endLine == p3.line) = true := by rfl) (hs : starEach [e] X.env = (false, eval e X.env) :: starEach [] X.env := by rfl) (hplain : (backTo p3 (starEach [] X.env)).any (·.1) = false := by rfl)
    (hsw : swapsWith (.Call (.Attribute (.Name x p1) "append" p2) [e] [] p3) none p4.line X.env = pure false := by rfl) : S T R X ρ (.Expr (.Call (.Attribute (.Name x p1) "append" p2) [e] [] p3) p4) Eo :=
  s_meth (P := (is X.K z).r) i PySem.F.slot_list_append PySem.F.type_list_append mt_append hr h (fun l vs v H Q _ h1 h2 h3 q => by
    have n1 : vs.length = xs.length := by rw [DpAll.len h2]; simp [encs]
    have : sizeLine = 16777216 := sizeLine_eq
    refine ⟨l, vs, v, rfl, rfl, h1, by omega, q _ fun H' ez => ?_⟩
    rw [encs_snoc]
    exact DpAll.app (dps_ez ez _ _ (encs_pure xs) h2) (.cons (dp_ez ez _ _ (Enc.pure z) h3) .nil)) kn hN hv hd hcd hbase hfew hline hs hplain hsw
/-- x.extend(l), l a list -/
theorem s_extendL (i : Nat) {x : Str} {p1 p2 p3 p4 : Pos} (hr : ρ[i]? = some (.o (lstO X.K xs))) (hl : xs.length + ys.length ≤ 1000000) (h : E T R X ρ e (lstX X.K ys).p) (kn : ∀ H0 σ H, En T R H0 (ρ.set i (.o (lstO X.K (xs ++ ys)))) σ H → Eo.nx H0 σ H)
    (hN : X.N[i]? = some x := by rfl) (hv : Vis X.env.scope x := by first | exact Or.inl rfl | exact Or.inr (Or.inl rfl) | exact Or.inr (Or.inr rfl)) (hd : (x == ("__debug__" : Str)) = false := by decide) (hcd : (x == ("__classdict__" : Str)) = false := by decide)
    (hbase : attributeBase (.Name x p1) "extend" X.env (eval (.Name x p1) X.env) = eval (.Name x p1) X.env := by rfl)
    (hfew : ((backTo p3 (starEach [e] X.env)).all (fun x => !x.1) && (backToKw p3 (keywordEach [] X.env)).all (fun x => x.1.isSome) && decide (([e] : List Expr).length + ([] : List Keyword).length + (if ([] : List Keyword).isEmpty then 0 else 1) < 30)) = true := by rfl)
    (hline : (p2.endLine == p3.line) = true := by rfl) (hs : starEach [e] X.env = (false, eval e X.env) :: starEach [] X.env := by rfl) (hplain : (backTo p3 (starEach [] X.env)).any (·.1) = false := by rfl)
    (hsw : swapsWith (.Call (.Attribute (.Name x p1) "extend" p2) [e] [] p3) none p4.line X.env = pure false := by rfl) : S T R X ρ (.Expr (.Call (.Attribute (.Name x p1) "extend" p2) [e] [] p3) p4) Eo :=
  s_meth (P := lstX X.K ys) i PySem.F.slot_list_extend PySem.F.type_list_extend mt_extend hr h (fun l vs v H Q _ h1 h2 ⟨l2, ws, e2, h3, h4⟩ q => by
    subst e2
    have n1 : vs.length = xs.length := by rw [DpAll.len h2]; simp [encs]
    have n2 : ws.length = ys.length := by rw [DpAll.len h4]; simp [encs]
    have : sizeLine = 16777216 := sizeLine_eq
    refine ⟨l, l2, vs, ws, rfl, rfl, h1, h3, by omega, q _ fun H' ez => ?_⟩
    have ea : encs (xs ++ ys) = encs xs ++ encs ys := by unfold encs; rw [List.map_append]
    rw [ea]
    exact DpAll.app (dps_ez ez _ _ (encs_pure xs) h2) (dps_ez ez _ _ (encs_pure ys) h4)) kn hN hv hd hcd hbase hfew hline hs hplain hsw
/-- x.extend(t), t a tuple -/
theorem s_extendT (i : Nat) {x : Str} {p1 p2 p3 p4 : Pos} (hr : ρ[i]? = some (.o (lstO X.K xs))) (hl : xs.length + ys.length ≤ 1000000) (h : E T R X ρ e (is X.K ys).p) (kn : ∀ H0 σ H, En T R H0 (ρ.set i (.o (lstO X.K (xs ++ ys)))) σ H → Eo.nx H0 σ H)
    (hN : X.N[i]? = some x := by rfl) (hv : Vis X.env.scope x := by first | exact Or.inl rfl | exact Or.inr (Or.inl rfl) | exact Or.inr (Or.inr rfl)) (hd : (x == ("__debug__" : Str)) = false := by decide) (hcd : (x == ("__classdict__" : Str)) = false := by decide)
    (hbase : attributeBase (.Name x p1) "extend" X.env (eval (.Name x p1) X.env) = eval (.Name x p1) X.env := by rfl)
    (hfew : ((backTo p3 (starEach [e] X.env)).all (fun x => !x.1) && (backToKw p3 (keywordEach [] X.env)).all (fun x => x.1.isSome) && decide (([e] : List Expr).length + ([] : List Keyword).length + (if ([] : List Keyword).isEmpty then 0 else 1) < 30)) = true := by rfl)
    (hline : (p2.endLine == p3.line) = true := by rfl) (hs : starEach [e] X.env = (false, eval e X.env) :: starEach [] X.env := by rfl) (hplain : (backTo p3 (starEach [] X.env)).any (·.1) = false := by rfl)
    (hsw : swapsWith (.Call (.Attribute (.Name x p1) "extend" p2) [e] [] p3) none p4.line X.env = pure false := by rfl) : S T R X ρ (.Expr (.Call (.Attribute (.Name x p1) "extend" p2) [e] [] p3) p4) Eo :=
  s_meth (P := (is X.K ys).r) i PySem.F.slot_list_extend PySem.F.type_list_extend mt_extendT hr h (fun l vs v H Q _ h1 h2 h3 q => by
    obtain ⟨l2, ws, rfl, h3, h4⟩ := is_list.mp h3
    have n1 : vs.length = xs.length := by rw [DpAll.len h2]; simp [encs]
    have n2 : ws.length = ys.length := by rw [DpAll.len h4]; simp [encs]
    have : sizeLine = 16777216 := sizeLine_eq
    refine ⟨l, l2, vs, ws, rfl, rfl, h1, h3, by omega, q _ fun H' ez => ?_⟩
    have ea : encs (xs ++ ys) = encs xs ++ encs ys := by unfold encs; rw [List.map_append]
    rw [ea]
    exact DpAll.app (dps_ez ez _ _ (encs_pure xs) h2) (dps_ez ez _ _ (encs_pure ys) h4)) kn hN hv hd hcd hbase hfew hline hs hplain hsw
end

/-! ### for -/
/-- a heap without what the slots own -/
noncomputable def bare (F : Nat → Addr → Prop) (H : Hp) : Hp := fun a => open Classical in if ∃ i, F i a then none else H a
theorem bare_own {F : Nat → Addr → Prop} {H : Hp} {a : Addr} (h : ∃ i, F i a) : bare F H a = none := by unfold bare; exact if_pos h
theorem bare_off {F : Nat → Addr → Prop} {H : Hp} {a : Addr} (h : ¬ ∃ i, F i a) : bare F H a = H a := by unfold bare; exact if_neg h
theorem bare_ex {H0 H : Hp} {σ : L2.St} {F : Nat → Addr → Prop} (en : En T R H0 ρ σ H) (w : Own R H0 ρ σ H F) : Ex T H0 (bare F H) ∧ Ex T (bare F H) H := by
  refine ⟨⟨fun a o h n => ?_, fun a h => ?_, fun t => ?_⟩, ⟨fun a o h n => ?_, fun a h => ?_, fun t => en.tab⟩⟩
  · rw [bare_off (fun ⟨i, hi⟩ => by rw [w.new i a hi] at h; cases h)]
    exact en.ex.ext a o h n
  · by_cases q : ∃ i, F i a
    · obtain ⟨i, hi⟩ := q
      exact w.new i a hi
    · rw [bare_off q] at h
      exact en.ex.bk a h
  · intro p hp
    obtain ⟨ps, h1, h2, h3⟩ := en.tab p hp
    have off : ∀ a o, H a = some o → mutO o = false → bare F H a = some o := fun a o h m => by
      have hn : ¬ ∃ i, F i a := fun ⟨i, hi⟩ => by
        obtain ⟨o', e1, e2⟩ := w.has i a hi
        rw [h] at e1
        cases e1
        rw [m] at e2
        cases e2
      rw [bare_off hn]
      exact h
    refine ⟨ps, off _ _ h1 rfl, h2, fun pos cv hc => ?_⟩
    obtain ⟨c, e1, e2⟩ := h3 pos cv hc
    exact ⟨c, e1, off _ _ e2 rfl⟩
  · by_cases q : ∃ i, F i a
    · rw [bare_own q] at h
      cases h
    · rw [bare_off q] at h
      exact h
  · by_cases q : ∃ i, F i a
    · exact bare_own q
    · rw [bare_off q]
      exact h
theorem ez_bare {H H' : Hp} {F : Nat → Addr → Prop} {σ : L2.St} {H0 : Hp} (w : Own R H0 ρ σ H F) (x : Ex T (bare F H) H') : Ez H H' := fun a o h i => by
  have hn : ¬ ∃ j, F j a := fun ⟨j, hj⟩ => by
    obtain ⟨o', e1, e2⟩ := w.has j a hj
    rw [h] at e1
    cases e1
    rw [mut_imm e2] at i
    cases i
  exact x.ez a o (by rw [bare_off hn]; exact h) i
/-- for tg in e: the slots ahead of a turn hang on what was taken (inv); each turn gives inv of one more -/
theorem s_for {α : Type} {xs : List α} {gt : α → TP} {tg iter : Expr} {body : List Stmt} {g : TG} {js : List Nat} (inv : List α → List AV) (ρ' : List α → α → List AV)
    (hw : W T R X ρ tg iter True (xs.map gt)) (pg : PG X tg g) (w0 : Wk ρ (inv [])) (hg : ∀ pre a post, xs = pre ++ a :: post → Tg T R (inv pre) g (gt a) (ρ' pre a) js)
    (hb : ∀ pre a post, xs = pre ++ a :: post → Ss T R X (ρ' pre a) body { nx := En1 T R (inv (pre ++ [a])), ct := En1 T R (inv (pre ++ [a])), rt := Eo.rt })
    (hd : ∀ H0 σ H, En T R H0 (inv xs) σ H → Eo.nx H0 σ H)
    (hp : PassesOwn (model X.prog X.w) X.A X.env X.xe := by exact PassesOwn.never) (hc : X.calm = true := by rfl) (hs : ∀ x, foldedSetIterable iter X.env x = pure x := by intro _; rfl) : S T R X ρ (.For tg iter body [] pos) Eo := by
  have hb' : PSs X body (fun D σ H => ∃ pre a post, xs = pre ++ a :: post ∧ cS T R (ρ' pre a) { nx := En1 T R (inv (pre ++ [a])), ct := En1 T R (inv (pre ++ [a])), rt := Eo.rt } D σ H) :=
    ⟨fun pins s σ H D I ⟨pre, a, post, h1, h2⟩ => (hb pre a post h1).run pins s σ H D I h2⟩
  refine s_of (ps_for hp hc hw pg hb' hs) fun D σ H H0 en n r b c => ⟨⟨H0, en⟩, fun J H1 an G Y x1 yl gG hA hfr => ?_⟩
  have hlen : (xs.map gt).length = xs.length := by simp
  obtain ⟨F, w⟩ := en.own
  have w1 : Own R H0 ρ σ H1 F := w.step x1.ext
  have en1 : En T R H0 ρ σ H1 := en.step x1
  obtain ⟨xa, xb⟩ := bare_ex en1 w1
  have eb : En T R (bare F H1) (inv []) σ H1 := (show En T R (bare F H1) ρ σ H1 from ⟨en.ex0.trans xa, xb, en1.tab, en.len, F, w1.one, fun i a ha => bare_own ⟨i, ha⟩, w1.has, w1.ok⟩).weak w0
  have back : ∀ ρ σ H', En T R (bare F H1) ρ σ H' → En T R H0 ρ σ H' := fun ρ σ H' h => by
    obtain ⟨F', w'⟩ := h.own
    exact ⟨en.ex0, xa.trans h.ex, h.tab, h.len, F', w'.one, fun i a ha => xa.bk a (w'.new i a ha), w'.has, w'.ok⟩
  have hAn : ∀ H', Ex T (bare F H1) H' → AncOk an H' := fun H' x pa o z => by
    have hmu : mutO o = true := yl.nt pa o z
    have hn : ¬ ∃ i, F i pa := fun ⟨i, hi⟩ => by
      rcases hfr trivial pa o z with hz | hz
      · obtain ⟨o', e1, _⟩ := w.has i pa hi
        rw [hz] at e1
        cases e1
      · have z0 := w.new i pa hi
        rw [en.ex0.ext pa o hz (mut_ntbl hmu)] at z0
        cases z0
    exact x.ext pa o (by rw [bare_off hn]; exact hA pa o z) (mut_ntbl hmu)
  have hG : ∀ H', Ex T (bare F H1) H' → G H' := fun H' x => yl.st H1 H' (ez_bare w1 x) (hAn H' x) gG
  refine for_it (g := g) (tb := fun D σ H => ∃ pre a post, xs = pre ++ a :: post ∧ cS T R (ρ' pre a) { nx := En1 T R (inv (pre ++ [a])), ct := En1 T R (inv (pre ++ [a])), rt := Eo.rt } D σ H) (D := D) yl.wk
    (fun k σ' H' => En T R (bare F H1) (inv (xs.take k)) σ' H') (by simpa using eb) (fun k σ' H' _ h => hG H' h.ex) ?_ ?_
  · intro k x σ' H2 H3 hk e2 y
    have hk' : k < xs.length := by rwa [hlen] at hk
    have hx : xs = xs.take k ++ xs[k] :: xs.drop (k + 1) := by
      rw [List.getElem_cons_drop, List.take_append_drop]
    have hP : (xs.map gt)[k]? = some (gt xs[k]) := by rw [List.getElem?_map, List.getElem?_eq_getElem hk']; rfl
    obtain ⟨x2, p2⟩ := yl.ye k H2 x H3 _ (hG H2 e2.ex) y hP
    have et : xs.take k ++ [xs[k]] = xs.take (k + 1) := by rw [List.take_add_one, List.getElem?_eq_getElem hk']; rfl
    refine (hg _ _ _ hx).run _ σ' H3 x _ (e2.step x2) p2 fun σ2 e4 _ => ⟨xs.take k, xs[k], xs.drop (k + 1), hx, _, e4, fun σ5 H5 e5 => ?_, fun v H5 x5 p5 => r v H5 x5 p5, fun _ _ z => z.elim, fun σ5 H5 e5 => ?_⟩
    · rw [← et]
      exact e5
    · rw [← et]
      exact e5
  · intro σ' H' e2
    rw [hlen, List.take_length] at e2
    exact n σ' H' (hd _ _ _ (back _ _ _ e2))
end
end Cf
set_option maxHeartbeats 2000000
namespace Cf
open PySem PySem.Spec PyProof.Rows L2

/-! ### promises -/
/-- what is promised: for z with φ z, arguments as Ps z tells give what Pf z tells -/
def spF (T : Tb) {ζ : Type} (Ps : ζ → List RP) (φ : ζ → Prop) (Pf : ζ → Hp → V → Hp → Prop) : Sp := fun vs H Q _ => ∃ z, φ z ∧ AllP (Ps z) vs H ∧ LamX.Tabs T H ∧ ∀ v H', Ex T H H' → Pf z H v H' → Q v H'
/-- a new thing -/
def nw (O : OP) (H : Hp) (v : V) (H' : Hp) : Prop := ∃ S, (∀ a, S a → H a = none) ∧ O.p v S H'
/-- a def under its name -/
structure Fdef (K : PySem.W.Frag) (mg : Str → Option Value) (x : Str) (st : Stmt) : Prop where
  ex : ∃ f fd, FunD K x x (defArgs st) (defBody st) (defScope st) [] [] f fd ∧ mg x = some (.ref f)
structure Cal (P : Program) (w : World) (K : PySem.W.Frag) (mg : Str → Option Value) (base : Heap) (k : Nat) (x : Str) (sp : Sp) : Prop where
  ex : ∃ f fd ps, FnOk P w K mg base CX0 k f fd ps sp ∧ mg x = some (.ref f) ∧ PySem.W.keepIn K (.ref f) = true ∧ Binds K fd ps []
abbrev Bx (P : Program) (w : World) (K : PySem.W.Frag) (mg : Str → Option Value) (base : Heap) (N : List Str) (x : Str) (st : Stmt) (f : Addr) (cdv : Value) (A : Around) (outer : List Env) (s : Shared) (H : Hp) (E : XK) : Cx :=
  (cxOf CX0 P w K mg base N x (defScope st) f cdv A outer s H E).nox
theorem allP_len {H : Hp} : ∀ {Ps : List RP} {vs : List V}, AllP Ps vs H → vs.length = Ps.length
  | [], [], _ => rfl
  | _ :: _, _ :: _, h => by simp [allP_len h.2]
  | [], _ :: _, h => h.elim
  | _ :: _, [], h => h.elim
theorem allP_at {H : Hp} : ∀ {Ps : List RP} {vs : List V} {i : Nat} {P : RP}, AllP Ps vs H → Ps[i]? = some P → ∃ v, vs[i]? = some v ∧ P.p v H
  | [], _, _, _, _, e => by simp at e
  | _ :: _, [], _, _, h, _ => h.elim
  | Q :: Ps, v :: vs, 0, P, h, e => by simp at e; subst e; exact ⟨v, rfl, h.1⟩
  | Q :: Ps, v :: vs, i + 1, P, h, e => by
    obtain ⟨w, h1, h2⟩ := allP_at (i := i) h.2 (by simpa using e)
    exact ⟨w, by simpa using h1, h2⟩
/-- the slots at a def's entry -/
def ent (n : Nat) (Ps : List RP) : List AV := Ps.map AV.r ++ List.replicate n .u
theorem en_start {T : Tb} {H : Hp} {Ps : List RP} {vs : List V} {N : List Str} (hT : LamX.Tabs T H) (h : AllP Ps vs H) (hN : Ps.length ≤ N.length) : En T H H (ent (N.length - Ps.length) Ps) (L2.start N vs) H := by
  have hl := allP_len h
  refine ⟨Ex.refl H, Ex.refl H, hT, ?_, fun _ _ => False, fun _ _ _ h => h.elim, fun _ _ h => h.elim, fun _ _ h => h.elim, fun i a ha => ?_⟩
  · unfold L2.start ent
    simp only [List.length_append, List.length_map, List.length_replicate]
    omega
  · unfold ent at ha
    by_cases hi : i < Ps.length
    · rw [List.getElem?_append_left (by simpa using hi), List.getElem?_map] at ha
      cases q : Ps[i]? with
      | none => rw [q] at ha; cases ha
      | some P =>
        rw [q] at ha
        cases ha
        obtain ⟨v, h1, h2⟩ := allP_at h q
        refine ⟨v, ?_, h2⟩
        unfold L2.start
        rw [List.getElem?_append_left (by simp; omega), List.getElem?_map, h1]
        rfl
    · rw [List.getElem?_append_right (by simpa using hi)] at ha
      rw [List.getElem?_replicate] at ha
      split at ha
      · cases ha
        trivial
      · cases ha
section
variable {P : Program} {w : World} {K : PySem.W.Frag} {mg : Str → Option Value} {base : Heap} {T : Tb}
/-- a def keeps its promise, by its body -/
theorem cal_of {ζ : Type} {Ps : ζ → List RP} {φ : ζ → Prop} {Pf : ζ → Hp → V → Hp → Prop} {x : Str} {st : Stmt} {N ps : List Str} {k : Nat} (F : Fdef K mg x st) (S : FnScope N ps (defScope st)) (hlen : ∀ z, (Ps z).length = ps.length)
    (hb : ∀ (kV doc pm : Value) (an : Option Addr) (cdv ct : Value) (us : List Value), us.length = ps.length → bindArgs (PySem.W.fnOf x x (defArgs st) (defBody st) (defScope st) .none kV doc pm an cdv ct) ⟨us, []⟩ = pure (ps.zip us))
    (body : ∀ z f cdv A outer s H E, φ z → Room k (A.deeper (envOfC x (defScope st) s.heap.objs.size f cdv)) → Ss T H (Bx P w K mg base N x st f cdv A outer s H E) (ent (N.length - ps.length) (Ps z)) (defBody st) { rt := Pf z H, nx := fun H0 σ H' => Ex T H H' ∧ Pf z H .non H' }) :
    Cal P w K mg base (k + 1) x (spF T Ps φ Pf) := by
  obtain ⟨f, fd, F, hm⟩ := F.ex
  refine ⟨f, fd, ps, F.ok S (fun vs H Q E ⟨z, _, h, _⟩ => (allP_len h).trans (hlen z)) (fun cdv A outer s H vs Q E hr ⟨z, hz, h, hT, q⟩ => ?_), hm, F.kp, F.bindsN hb⟩
  refine ⟨_, (body z f cdv A outer s H E hz hr).nox, H, ?_, fun σ' H' h => q _ H' h.1 h.2, fun v H' x p => q v H' x p, fun _ _ z => z.elim, fun _ _ z => z.elim⟩
  have hle : ps.length ≤ N.length := by
    have := congrArg List.length S.pre
    rw [List.length_take] at this
    omega
  rw [← hlen z]
  exact en_start hT h (by rw [hlen z]; exact hle)
end
section
variable {T : Tb} {R : Hp} {X : Cx} {ρ : List AV} {e : Expr} {es : List Expr} {pos : Pos} {ζ : Type} {Ps : ζ → List RP} {φ : ζ → Prop} {Pf : ζ → Hp → V → Hp → Prop} {k j : Nat} {x : Str} {p : Pos}
/-- a call of a def -/
theorem e_call {Pr : V → Hp → Prop} (c : Cal X.prog X.w X.K X.mg X.base k x (spF T Ps φ Pf)) (hr : Room j X.A) (hk : k ≤ j) (z : ζ) (hz : φ z) (ha : As T R X ρ (e :: es) (Ps z)) (hp : ∀ H v H', Ex T R H → Ex T H H' → Pf z H v H' → Pr v H') (hg : Gl X x := by rfl)
    (hdb : (x == ("__debug__" : Str)) = false := by decide) (he : starEach (e :: es) X.env = (false, eval e X.env) :: starEach es X.env := by rfl) (hpl : (backTo pos (starEach es X.env)).any (·.1) = false := by rfl) : E T R X ρ (.Call (.Name x p) (e :: es) [] pos) Pr := by
  obtain ⟨f, fd, ps, F, hm, kp, b⟩ := c.ex
  refine e_of (pe_call F (hr.mono hk) hg hm kp b .nil pass0 ha hdb he hpl) fun σ H H0 Q en q => ⟨⟨H0, en⟩, fun vs H1 x1 p1 => ⟨z, hz, ?_, x1.tb en.tab, fun v H' x2 p2 => q v H' (x1.trans x2) (hp H1 v H' (en.exR.trans x1) x2 p2)⟩⟩
  rw [List.append_nil]
  exact p1
theorem n_call {O : OP} (c : Cal X.prog X.w X.K X.mg X.base k x (spF T Ps φ Pf)) (hr : Room j X.A) (hk : k ≤ j) (z : ζ) (hz : φ z) (ha : As T R X ρ (e :: es) (Ps z)) (hp : ∀ H v H', Pf z H v H' → nw O H v H') (hg : Gl X x := by rfl)
    (hdb : (x == ("__debug__" : Str)) = false := by decide) (he : starEach (e :: es) X.env = (false, eval e X.env) :: starEach es X.env := by rfl) (hpl : (backTo pos (starEach es X.env)).any (·.1) = false := by rfl) : N T R X ρ (.Call (.Name x p) (e :: es) [] pos) O := by
  obtain ⟨f, fd, ps, F, hm, kp, b⟩ := c.ex
  refine n_of (pe_call F (hr.mono hk) hg hm kp b .nil pass0 ha hdb he hpl) fun σ H H0 Q en q => ⟨⟨H0, en⟩, fun vs H1 x1 p1 => ⟨z, hz, ?_, x1.tb en.tab, fun v H' x2 p2 => ?_⟩⟩
  · rw [List.append_nil]
    exact p1
  · obtain ⟨S, h1, h2⟩ := hp H1 v H' p2
    exact q v S H' (fun a ha => x1.bk a (h1 a ha)) (x1.trans x2) h2
end
/-! ### comprehensions given to names -/
section
variable {T : Tb} {R : Hp} {X : Cx} {ρ : List AV} {Eo : Po} {α β : Type} [DecidableEq β] [Enc β]
theorem s_lcP {xs : List α} {gt : α → TP} {elt tg iter : Expr} {ifs : List Expr} {scope : Scope} {pos spos py : Pos} {y : Str} {g : TG} {js : List Nat} (yi : Nat) (own : List (Str × Nat)) (ρ' : α → List AV) (p : α → Bool) (f : α → β)
    (hw : W T R X ρ tg iter False (xs.map gt)) (hN : X.N.Nodup) (ok : BlkOk X.N X.env.scope scope own) (hj : ∀ j ∈ js, j ∈ own.map (·.2)) (hl : xs.length ≤ 1000000)
    (hg : ∀ a ∈ xs, Tg T R (wipeA ρ (own.map (·.2))) g (gt a) (ρ' a) js)
    (pg : ∀ s H C cl fp, PG (Blk X scope s H C cl fp) tg g)
    (ht : ∀ s H C cl fp, PTs (Blk X scope s H C cl fp) ifs (ttP T R xs ρ' p))
    (he : ∀ s H C cl fp, PE (Blk X scope s H C cl fp) elt (teP T R X.K xs ρ' p f))
    (kn : ∀ H0 σ H, En T R H0 (ρ.set yi (.o (lstO X.K ((xs.filter p).map f)))) σ H → Eo.nx H0 σ H)
    (hy : X.N[yi]? = some y := by rfl) (hyl : X.env.scope.names.lookup y = some .local := by rfl) (hsw : swapsWith (.ListComp elt [⟨tg, iter, ifs, 0⟩] scope pos) (some (.Name y py)) spos.line X.env = pure true := by exact sw_true rfl rfl rfl (by decide +kernel))
    (hc : X.calm = true := by rfl) (hs : ∀ x, foldedSetIterable iter X.env x = pure x := by intro _; rfl) : S T R X ρ (.Assign [.Name y py] (.ListComp elt [⟨tg, iter, ifs, 0⟩] scope pos) spos) Eo :=
  s_of (ps_setLc hc hN hy hyl hsw hw ok pg ht he hs) fun D σ H H0 en n r b c => lc_read hj hl hg σ H H0 _ en fun v S H' hS x p => n _ _ (kn _ _ _ (en.set_n x hS p))
/-- the same, the name a cell of the def: an assignment as any -/
theorem s_lcC {xs : List α} {gt : α → TP} {elt tg iter : Expr} {ifs : List Expr} {scope : Scope} {pos spos py : Pos} {y : Str} {g : TG} {js : List Nat} (yi : Nat) (own : List (Str × Nat)) (ρ' : α → List AV) (p : α → Bool) (f : α → β)
    (hw : W T R X ρ tg iter False (xs.map gt)) (hN : X.N.Nodup) (ok : BlkOk X.N X.env.scope scope own) (hj : ∀ j ∈ js, j ∈ own.map (·.2)) (hl : xs.length ≤ 1000000)
    (hg : ∀ a ∈ xs, Tg T R (wipeA ρ (own.map (·.2))) g (gt a) (ρ' a) js)
    (pg : ∀ s H C cl fp, PG (Blk X scope s H C cl fp) tg g)
    (ht : ∀ s H C cl fp, PTs (Blk X scope s H C cl fp) ifs (ttP T R xs ρ' p))
    (he : ∀ s H C cl fp, PE (Blk X scope s H C cl fp) elt (teP T R X.K xs ρ' p f))
    (kn : ∀ H0 σ H, En T R H0 (ρ.set yi (.o (lstO X.K ((xs.filter p).map f)))) σ H → Eo.nx H0 σ H)
    (hy : X.N[yi]? = some y := by rfl) (hyl : Loc X.env.scope y := by exact Or.inr rfl) (hsw : swapsWith (.ListComp elt [⟨tg, iter, ifs, 0⟩] scope pos) (some (.Name y py)) spos.line X.env = pure false := by rfl)
    (hf : X.fn y = true ∨ X.env.scope.names.lookup y = some .local := by first | exact .inl rfl | exact .inr rfl)
    (hc : X.calm = true := by rfl) (hs : ∀ x, foldedSetIterable iter X.env x = pure x := by intro _; rfl) : S T R X ρ (.Assign [.Name y py] (.ListComp elt [⟨tg, iter, ifs, 0⟩] scope pos) spos) Eo :=
  s_setN yi hN (n_lcP own ρ' p f hw hN ok hj hl hg pg ht he hc hs) kn hy hyl hsw hf
end
/-! ### enumerate -/
section
variable {T : Tb} {R : Hp} {X : Cx} {ρ : List AV} {α : Type} [DecidableEq α] [Enc α]
/-- the i-th and i -/
def numd (xs : List α) : List (Int × α) := xs.zipIdx.map fun p => ((p.2 : Int), p.1)
theorem numd_at {xs : List α} {i : Nat} {q : Int × α} (h : (numd xs)[i]? = some q) : ∃ y, xs[i]? = some y ∧ q = ((i : Int), y) := by
  unfold numd at h
  rw [List.getElem?_map, List.getElem?_zipIdx] at h
  cases e : xs[i]? with
  | none => rw [e] at h; cases h
  | some y =>
    rw [e] at h
    cases h
    exact ⟨y, rfl, by simp⟩
theorem numd_len (xs : List α) : (numd xs).length = xs.length := by unfold numd; simp
theorem w_enumL {xs : List α} {e : Expr} {e1 e2 : Expr} {tk : Nat} {tp p pos : Pos} (h : E T R X ρ e (lstR X.K xs).p) (hm : X.mg "enumerate" = none) (hg : Gl X "enumerate" := by rfl) (hs : starEach [e] X.env = [(false, eval e X.env)] := by rfl) (hs2 : starEach [e] X.env = (false, eval e X.env) :: starEach [] X.env := by rfl) :
    W T R X ρ (.Tuple [e1, e2] tk tp) (.Call (.Name "enumerate" p) [e] [] pos) False ((numd xs).map (is X.K)) :=
  w_of (pi_enum hg hm (as_one (P := lstR X.K xs) h hs2) hs) fun σ H H0 K en q => ⟨⟨H0, en⟩, fun us H' x p => by
    obtain ⟨v, rfl, l, vs, rfl, h3, h4⟩ := allP1 p
    refine ⟨l, vs, rfl, h3, ?_⟩
    have hlen : vs.length = ((numd xs).map (is X.K)).length := by rw [DpAll.len h4]; simp [encs, numd_len]
    have no : False → ∀ {Q : Prop}, Q := fun z _ => z.elim
    have mk : ∀ an : Anc, (∀ H, Ez H' H → AncOk an H → SqL X.K H l vs) → (∀ p o, an = some (p, o) → mutO o = true) → Yl T (Ite X.K l) an (fun H => Ez H' H ∧ AncOk an H) ((numd xs).map (is X.K)) (YPair (fun i => some (.int (i : Nat))) (fun i => vs[i]?)) := fun an hs hmu => by
      refine ⟨?_, fun H H'' e a' g => ⟨g.1.trans e, a'⟩, hmu, fun i H z H'' P g y hP => ?_⟩
      · rw [← hlen]
        exact walk_enum.mono (fun H g => hs H g.1 g.2) fun _ _ _ _ _ _ y => y
      · obtain ⟨Ta, u, w, rfl, hTa, rfl, e1, e2⟩ := y
        cases e1
        refine ⟨Ex.new hTa, ?_⟩
        rw [List.getElem?_map] at hP
        cases e : (numd xs)[i]? with
        | none => rw [e] at hP; cases hP
        | some qq =>
          rw [e] at hP
          cases hP
          obtain ⟨y, hy, rfl⟩ := numd_at e
          obtain ⟨d, d1, d2⟩ := DpAll.at h4 e2
          have : d = enc y := by
            unfold encs at d1
            rw [List.getElem?_map, hy] at d1
            exact (Option.some.inj d1).symm
          subst this
          refine is_pair.mpr ⟨Ta, _, _, rfl, SqT.of upd_same, is_int.mpr rfl, ?_⟩
          exact dp_ez (g.1.trans (Ex.new (T := T) hTa).ez) _ _ (Enc.pure y) d2
    by_cases h5 : H' l = some (.lst vs)
    · exact q _ H' (some (l, .lst vs)) _ _ x (mk _ (fun H _ a => SqL.of (a l _ rfl)) (fun p o z => by cases z; rfl)) ⟨Ez.refl H', fun p o z => by cases z; exact h5⟩ (fun p o z => by cases z; exact h5) fun z => no z
    · have h6 : ∀ H, Ez H' H → SqL X.K H l vs := fun H ez => by
        rcases h3 with (h3 | ⟨o, h3⟩) | h3
        · exact absurd h3 h5
        · exact .inl (.inr ⟨o, ez _ _ h3 rfl⟩)
        · exact .inr h3
      exact q _ H' none _ _ x (mk _ (fun H ez _ => h6 H ez) (fun p o z => by cases z)) ⟨Ez.refl H', anc_none⟩ anc_none fun z => no z⟩
end
end Cf
set_option maxHeartbeats 4000000
/-! enumerate of a tuple -/
namespace Cf
open PySem PySem.Spec PyProof.Rows L2
open AutoSeq1 (wpAny_loadPart')

abbrev tupIt (l : Addr) : Obj := { cls := .type "tuple_iterator", data := .fields #[.ref l, .int 0 0] }
abbrev enumOf (it : Addr) : Obj := { cls := .type "enumerate", data := .fields #[.none, .bool false, .ref it, rawInt 0, .none, .none] }
theorem meets_enumT (l : Addr) (items : Array Value) (n : Nat) (dct : Option Addr) (sl : Array (Option Value)) :
    Meets (Builtin.«enumerate.__new__» ⟨[.type "enumerate", .ref l], []⟩) (fun _ R s => s.heap.get? l = some { cls := .type "tuple", dict := dct, data := .seq items n, slots := sl } ∧
      R (.ok (.ret (.ref (s.heap.push (tupIt l)).objs.size))) { s with heap := (s.heap.push (tupIt l)).push (enumOf s.heap.objs.size) }) :=
  .of_wp fun prog w A R s h => by
    obtain ⟨hp, g, d, tk, os⟩ := s
    obtain ⟨hl, h⟩ := h
    have hsub := sub_enumerate
    have hL : Heap.IsTuple (Shared.heap ⟨hp, g, d, tk, os⟩) l items := ⟨_, hl, rfl, n, rfl⟩
    wp_walk using wpAny_loadPart' hl
    refine wpAny_stack_any fun st => wpAny_pure ?_
    split
    · rename_i c _ _ _ _ _
      cases (c == Value.type "enumerate")
      · wp_walk using wpAny_loadPart' hl, wpAny_pyIter_tuple hL
        exact ⟨_, rfl, h⟩
      · wp_walk using wpAny_loadPart' hl, wpAny_pyIter_tuple hL
        exact ⟨_, rfl, h⟩
    · wp_walk using wpAny_loadPart' hl, wpAny_pyIter_tuple hL
      exact ⟨_, rfl, h⟩
section
variable {prog : Program} {w : World} {A : Around} {E : Value → Shared → Prop} {s : Shared}
theorem call_enumT {l : Addr} {items : Array Value} {Q : Value → Shared → Prop} (hL : s.heap.IsTuple l items)
    (h : ∀ h', IsEnum h' (s.heap.objs.size + 1) s.heap.objs.size 0 .none → h'.IsTupleIter s.heap.objs.size l 0 → (∀ b o, s.heap.get? b = some o → h'.get? b = some o) → Q (.ref (s.heap.objs.size + 1)) { s with heap := h' }) :
    wpAny (model prog w) A (call (.type "enumerate") [.ref l]) Q E s := by
  obtain ⟨⟨cl, dct, dt, sl⟩, hl, hc, n, hd⟩ := hL
  simp only at hc hd
  subst hc hd
  refine callType_new F.called_enumerate (by decide) (F.typeCall_enumerate_1 _) (F.newCall_enumerate_1 _) (fun obj => F.args_object_init_2 obj _) F.entry_enumerate_new (meets_enumT l items n dct sl) ⟨hl, ?_⟩
  have hz : (s.heap.push (tupIt l)).objs.size = s.heap.objs.size + 1 := Heap.size_push ..
  have he : IsEnum ((s.heap.push (tupIt l)).push (enumOf s.heap.objs.size)) (s.heap.objs.size + 1) s.heap.objs.size 0 .none := by
    have q := Heap.get?_push_size (s.heap.push (tupIt l)) (o := enumOf s.heap.objs.size) rfl
    rw [hz] at q
    exact q
  show _ ∧ _
  rw [hz]
  exact ⟨⟨_, he, rfl⟩, h _ he ⟨_, Heap.get?_push_of_some _ (Heap.get?_push_size _ rfl), rfl, rfl⟩ fun b o x => Heap.get?_push_of_some _ (Heap.get?_push_of_some _ x)⟩
end
/-- the tuple at a, each item in a new pair -/
def Itet (K : PySem.W.Frag) (a : Addr) : It :=
  ⟨fun i H => ∃ (xs : List V) (x : V), SqT K H a xs ∧ xs[i]? = some x, fun i H v H' => ∃ T x, v = .ref T ∧ H T = none ∧ H' = upd H T (.tup [.int (i : Nat), x]) ∧ ∀ xs, SqT K H a xs → xs[i]? = some x, fun i H => ∃ xs : List V, SqT K H a xs ∧ xs.length ≤ i⟩
def enSt (a e it : Addr) (i : Nat) (h : Heap) : Prop := (∃ old, IsEnum h e it ((i : Nat) : Int) old) ∧ h.IsTupleIter it a i ∧ e ≠ it ∧ e ≠ a ∧ a ≠ it
theorem turn_enumT {P : Program} {w : World} {K : PySem.W.Frag} {elts : List Expr} {kk : Nat} {tpos : Pos} (a e it : Addr) : Turn P w K (.Tuple elts kk tpos) (Itet K a) [e, it] e (enSt a e it) where
  mem := List.mem_cons_self
  obj := fun i h st b hb => by
    obtain ⟨⟨old, he⟩, ⟨o, ho, hc, hd⟩, _⟩ := st
    rcases List.mem_cons.mp hb with z | z
    · subst z
      exact ⟨_, he, fun v q => by cases q⟩
    · rw [List.mem_singleton] at z
      subst z
      exact ⟨o, ho, fun v q => by rw [hd] at q; cases q⟩
  keep := fun i h h' st k => by
    obtain ⟨⟨old, he⟩, hi, n1, n2, n3⟩ := st
    exact ⟨⟨old, k e List.mem_cons_self _ he⟩, hi.at fun o q => k it (List.mem_cons_of_mem _ List.mem_cons_self) o q, n1, n2, n3⟩
  item := by
    intro X hP hw hK hc i pins s σ H E I hf st hg
    subst hP hw hK
    obtain ⟨⟨old, he⟩, hit, n1, n2, n3⟩ := st
    obtain ⟨xs, x, hq, hx⟩ := hg
    obtain ⟨its, rv, p, hz⟩ := I.tuple hq
    obtain ⟨u, hu, ru⟩ := rv.get hx
    have hi : i < its.toArray.size := by
      have := (List.getElem?_eq_some_iff.mp hu).1
      simpa using this
    have hel : e < s.heap.objs.size := Heap.lt_size he
    have hil : it < s.heap.objs.size := by
      obtain ⟨_, q, _⟩ := hit
      exact Heap.lt_size q
    have hT : s.heap.IsTuple a its.toArray := p
    refine wpAny_pyNext_enum_itemD (Draws.tuple (A := X.A.in1) (I.ok.hd hc) it a n3 its.toArray) he ⟨hit, hT⟩ hi n1 (by simp [n1, n2]) fun y h' tk hy ho hst hT' hsz hk => ?_
    have ey : y = u := by
      rw [show its.toArray[i]? = its[i]? by simp, hu] at hy
      exact (Option.some.inj hy).symm
    subst ey
    refine ⟨_, rfl, wpAny_letOwnedTupleGo_enum (s := { s with heap := h', toks := tk + 1 }) ho fun h'' he' sb => ?_⟩
    have hT2 : h''.get? s.heap.objs.size = some { cls := .type "tuple", data := .seq #[.int i tk, y] } := (sb.2 _ (Nat.ne_of_gt hel)).trans hT'
    have new : ObjOk X.prog X.w (upd H s.heap.objs.size (.tup [.int (i : Nat), x])) h'' s.heap.objs.size (.tup [.int (i : Nat), x]) := by
      refine ⟨?_, [.int i tk, y], .cons ⟨_, rfl⟩ (.cons ru .nil), ⟨_, hT2, rfl, _, rfl⟩⟩
      show 2 ≤ sizeLine
      decide
    have I1 : Inv X pins σ (upd H s.heap.objs.size (.tup [.int (i : Nat), x])) { s with heap := h'', toks := tk + 1 } := by
      refine I.turnedNew (ch := [e, it]) (fun b ob hb q => ?_) hf (Nat.le_refl _) new
      rw [sb.2 b (fun z => hb (by simp [z]))]
      exact hk b ob (fun z => hb (by simp [z])) (fun z => hb (by simp [z])) q
    refine ⟨.ref s.heap.objs.size, _, I1, rfl, ⟨_, x, rfl, I.hok.fresh (Nat.le_refl _), rfl, fun ys hy => by rw [I.tuple_inj hy hq]; exact hx⟩, ⟨⟨y, ?_⟩, hst.1.at fun o q => (sb.2 it (Ne.symm n1)).trans q, n1, n2, n3⟩, fun b hb => ?_⟩
    · have e1 : ((i + 1 : Nat) : Int) = (i : Int) + 1 := by omega
      rw [e1]
      exact he'
    · have hb' : b < s.heap.objs.size := by
        rcases List.mem_cons.mp hb with z | z
        · rw [z]; exact hel
        · rw [List.mem_singleton] at z
          rw [z]; exact hil
      rw [upd_ne (Nat.ne_of_lt hb')]
      exact (hf b hb).1
  done := by
    intro X hP hw hK hc i pins s σ H E I hf st hg
    subst hP hw hK
    obtain ⟨⟨old, he⟩, hit, n1, n2, n3⟩ := st
    obtain ⟨xs, hq, hx⟩ := hg
    obtain ⟨its, rv, p, hz⟩ := I.tuple hq
    obtain ⟨f0, f1, f2, f3, f4, f5⟩ := hf it (by simp)
    have hl := rv.length
    have hT : s.heap.IsTuple a its.toArray := p
    have key : ∀ Q : Option Value → Shared → Prop, (∀ h', Heap.ExtBut it s.heap h' → Q none { s with heap := h' }) → wpAny (model X.prog X.w) X.A (pyNext (.ref e)) Q E s := fun Q hQ => by
      have hT0 : s.TypeIs (.ref e) "enumerate" := ⟨_, he, rfl⟩
      unfold pyNext
      refine wpAny_bind (wpAny_attempt (wpAny_callSpecial?_slot (name := Str.ofString "__next__") hT0 F.slot_enumerate_next (wpAny_call_entry F.slot_enumerate_next hT0 F.entry_enumerate_next ?_ (F.args_enumerate_next_1 _))))
      show wpAny _ _ (field (.ref e) 2 >>= _) _ _ _
      refine wpAny_bind (wpAny_field he rfl (x := .ref it) rfl ?_)
      refine wpAny_bind (wpAny_nextOf_tuple_end (A := X.A.in1) (I.ok.hd hc) hit hT (by simp; omega) fun h' x he' hx' => ?_)
      obtain ⟨o, ho, hc'⟩ := hx'
      refine wpAny_bind (wpAny_isInstance (T := "StopIteration") (b := true) ⟨o, ho, hc'⟩ isSubtype_stop ?_)
      exact wpAny_pure (hQ _ he')
    exact key _ fun h' eb => ⟨rfl, I.turned (t' := s.toks) (fun b o hb q => eb b o hb q) f0 f1 f3 f4 f5⟩
  self := fun A i s Q E st h => by
    obtain ⟨⟨_, he⟩, _⟩ := st
    exact wpAny_pyIter_enum he h
def iEnumT (K : PySem.W.Frag) (ta : TA) : TI := fun σ H R => ta σ H fun vs H1 => ∃ a xs, vs = [.ref a] ∧ SqT K H1 a xs ∧ R (Itet K a) H1
theorem pi_enumT {X : Cx} {e : Expr} {ta : TA} {p pos tpos : Pos} {elts : List Expr} {kk : Nat} (hg : Gl X "enumerate") (hm : X.mg "enumerate" = none) (ha : PA X [e] ta) (hs : starEach [e] X.env = [(false, eval e X.env)] := by rfl) :
    PI X (.Tuple elts kk tpos) (.Call (.Name "enumerate" p) [e] [] pos) (iEnumT X.K ta) := by
  refine ⟨fun pins s σ H R I h => ?_⟩
  refine Call_ (ld_blt I hg hm boot_enumerate (PyProof.Rows.callWith_type1 (thn (ha.run pos pins s σ H _ I h) fun us s1 ⟨vs, H1, I1, r1, q1⟩ => ?_) hs rfl))
  obtain ⟨a, xs, rfl, hq, q⟩ := q1
  obtain ⟨u, rfl, ru⟩ := r1.one
  cases ru
  obtain ⟨its, rv, p', hz⟩ := I1.tuple hq
  have hT : s1.heap.IsTuple a its.toArray := p'
  have hal : a < s1.heap.objs.size := by
    obtain ⟨o, h1, _⟩ := hT
    exact Heap.lt_size h1
  refine call_enumT hT fun h' he hit hk => wpAny_pyIter_enum he ?_
  have I2 : Inv X pins σ H1 { s1 with heap := h' } := I1.kept (t' := s1.toks) hk
  refine ⟨s1.heap.objs.size + 1, [s1.heap.objs.size + 1, s1.heap.objs.size], _, _, H1, rfl, I2, turn_enumT a (s1.heap.objs.size + 1) s1.heap.objs.size, ⟨⟨.none, he⟩, hit, Nat.succ_ne_self _, Nat.ne_of_gt (Nat.lt_succ_of_lt hal), Nat.ne_of_lt hal⟩, fun b hb => ?_, q⟩
  have hle : s1.heap.objs.size ≤ b := by
    rcases List.mem_cons.mp hb with z | z
    · rw [z]
      exact Nat.le_succ _
    · rw [List.mem_singleton] at z
      rw [z]
      exact Nat.le_refl _
  exact I1.fpOk hle (I1.hok.fresh hle)
section
variable {T : Tb} {R : Hp} {X : Cx} {ρ : List AV} {α : Type} [DecidableEq α] [Enc α]
theorem w_enumT {xs : List α} {e : Expr} {e1 e2 : Expr} {tk : Nat} {tp p pos : Pos} {fr : Prop} (h : E T R X ρ e (is X.K xs).p) (hm : X.mg "enumerate" = none) (hg : Gl X "enumerate" := by rfl) (hs : starEach [e] X.env = [(false, eval e X.env)] := by rfl) (hs2 : starEach [e] X.env = (false, eval e X.env) :: starEach [] X.env := by rfl) :
    W T R X ρ (.Tuple [e1, e2] tk tp) (.Call (.Name "enumerate" p) [e] [] pos) fr ((numd xs).map (is X.K)) :=
  w_of (pi_enumT hg hm (as_one (P := (is X.K xs).r) h hs2) hs) fun σ H H0 K en q => ⟨⟨H0, en⟩, fun us H' x p => by
    obtain ⟨v, rfl, hv⟩ := allP1 p
    obtain ⟨l, vs, rfl, h3, h4⟩ := is_list.mp hv
    refine ⟨l, vs, rfl, h3, ?_⟩
    have hlen : vs.length = ((numd xs).map (is X.K)).length := by rw [DpAll.len h4]; simp [encs, numd_len]
    have yl : Yl T (Itet X.K l) none (fun H => Ez H' H) ((numd xs).map (is X.K)) (YPair (fun i => some (.int (i : Nat))) (fun i => vs[i]?)) := by
      refine ⟨⟨fun i H hi g => ?_, fun H g => ?_, fun i H z H'' hi g y => ?_⟩, fun H H'' e a' g => g.trans e, fun p o z => (by cases z), fun i H z H'' P g y hP => ?_⟩
      · exact ⟨vs, vs[i]'(by omega), sqt_ez g h3, by simp [show i < vs.length by omega]⟩
      · exact ⟨vs, sqt_ez g h3, by omega⟩
      · obtain ⟨Ta, u, h1, h2, h3', h4'⟩ := y
        exact ⟨Ta, .int (i : Nat), u, h1, h2, h3', rfl, h4' vs (sqt_ez g h3)⟩
      · obtain ⟨Ta, u, w, rfl, hTa, rfl, e1, e2⟩ := y
        cases e1
        refine ⟨Ex.new hTa, ?_⟩
        rw [List.getElem?_map] at hP
        cases e : (numd xs)[i]? with
        | none => rw [e] at hP; cases hP
        | some qq =>
          rw [e] at hP
          cases hP
          obtain ⟨y, hy, rfl⟩ := numd_at e
          obtain ⟨d, d1, d2⟩ := DpAll.at h4 e2
          have : d = enc y := by
            unfold encs at d1
            rw [List.getElem?_map, hy] at d1
            exact (Option.some.inj d1).symm
          subst this
          refine is_pair.mpr ⟨Ta, _, _, rfl, SqT.of upd_same, is_int.mpr rfl, ?_⟩
          exact dp_ez (g.trans (Ex.new (T := T) hTa).ez) _ _ (Enc.pure y) d2
    exact q _ H' none _ _ x yl (Ez.refl H') anc_none fun _ p o z => by cases z⟩
end
section
variable {T : Tb} {R : Hp} {X : Cx} {ρ : List AV} {e : Expr} {k : Bool}
theorem b_cm (h : Cm T R X ρ e k) : B T R X ρ e k := h.tst
theorem e_cm (h : Cm T R X ρ e k) : E T R X ρ e (is X.K k).p := h.val
end
end Cf
set_option maxHeartbeats 4000000
/-! lambdas with one parameter, as keys of sorted -/
namespace Cf
open PySem PySem.Spec PyProof.Rows L2 NdefX

mutual
theorem dp_ext {K : PySem.W.Frag} {H H' : Hp} (x : LamX.ExtN H H') : ∀ (d : PyData) (v : V), Dp K H v d → Dp K H' v d
  | .none, _, h => by cases h; exact .non
  | .bool _, _, h => by cases h; exact .bl _
  | .int _, _, h => by cases h; exact .int _
  | .str _, _, h => by cases h; exact .str _
  | .dict _, _, h => by cases h
  | .list ds, _, h => by
    cases h with
    | lst h1 h2 => exact .lst (sql_ex x h1) (dps_ext x ds _ h2)
  | .tuple ds, _, h => by
    cases h with
    | tup h1 h2 => exact .tup (sqt_ex x h1) (dps_ext x ds _ h2)
theorem dps_ext {K : PySem.W.Frag} {H H' : Hp} (x : LamX.ExtN H H') : ∀ (ds : List PyData) (vs : List V), DpAll K H vs ds → DpAll K H' vs ds
  | [], _, h => by cases h; exact .nil
  | d :: ds, _, h => by
    cases h with
    | cons h1 h2 => exact .cons (dp_ext x d _ h1) (dps_ext x ds _ h2)
end

/-- the object of a lambda with that body -/
def LamO (f : Addr) (F : NF) (b : Expr) : HO := .ext fun h => ∃ (o : Obj) (pm ctv : Value), h.get? f = some o ∧ o = PySem.W.kla_obj "<lambda>" F.qual F.params b F.scope F.cl pm F.c ctv
theorem lamO_at {P : Program} {w : World} {H : Hp} {h : Heap} {f : Addr} {F : NF} {b : Expr} (k : HOk P w H h) (e : H f = some (LamO f F b)) : ∃ pm ctv : Value, h.get? f = some (PySem.W.kla_obj "<lambda>" F.qual F.params b F.scope F.cl pm F.c ctv) := by
  obtain ⟨⟨o, pm, ctv, h1, h2⟩, _⟩ := k f _ e
  subst h2
  exact ⟨pm, ctv, h1⟩
theorem lamO_tbl {f : Addr} {F : NF} {b : Expr} (ps : Array Value) : LamO f F b ≠ .tbl ps := fun z => by unfold LamO at z; cases z
abbrev lamN (X : Cx) (params : Arguments) (scope : Scope) (c' : Addr) : NF := ⟨"<lambda>", X.env.qual ++ "<lambda>", params, [], scope, cloFrom X.env.cells scope.names [], c'⟩
/-- a table that stays but for one more code object -/
theorem tabs_more {T : Tb} {H : Hp} {Pt c' : Addr} {q : Str} {ps : Array Value} {pos : Pos} (hT : LamX.Tabs T H) (hm : (Pt, q) ∈ T) (hu : ∀ p ∈ T, p.1 = Pt → p.2 = q) (hP : H Pt = some (.tbl ps)) (nC : H c' = none) :
    LamX.Tabs T (upd (upd H Pt (.tbl (ps ++ #[rawInt pos.line, rawInt pos.col, .ref c']))) c' (LamX.CodeO c' q)) := by
  have hs : ∀ b o, H b = some o → (∀ z, o ≠ .tbl z) → upd (upd H Pt (.tbl (ps ++ #[rawInt pos.line, rawInt pos.col, .ref c']))) c' (LamX.CodeO c' q) b = some o := fun b o e n => by
    have n1 : b ≠ c' := ne_of_none e nC
    have n2 : b ≠ Pt := fun z => by
      subst z
      rw [hP] at e
      exact n ps (Option.some.inj e).symm
    rw [upd_ne n1, upd_ne n2]
    exact e
  intro p hp
  obtain ⟨zs, g1, g2, g3⟩ := hT p hp
  by_cases hb : p.1 = Pt
  · have e2 := hu p hp hb
    rw [hb, hP] at g1
    cases g1
    have eL : (ps ++ #[rawInt pos.line, rawInt pos.col, Value.ref c']).toList = ps.toList ++ [rawInt pos.line, rawInt pos.col, Value.ref c'] := by simp
    refine ⟨_, ?_, by rw [eL]; exact PySem.TriplesOk_snoc _ _ _ _ g2, fun pos' cv hcv => ?_⟩
    · rw [hb, upd_ne (ne_of_none hP nC), upd_same]
    · rw [eL] at hcv
      rcases LamX.among_app _ g2 hcv with z | z
      · obtain ⟨c0, k1, k2⟩ := g3 pos' cv z
        exact ⟨c0, k1, hs _ _ k2 LamX.codeO_ne⟩
      · refine ⟨c', z, ?_⟩
        rw [e2]
        exact upd_same
  · refine ⟨zs, ?_, g2, fun pos' cv hcv => ?_⟩
    · rw [upd_ne (ne_of_none g1 nC), upd_ne hb]
      exact g1
    · obtain ⟨c0, k1, k2⟩ := g3 pos' cv hcv
      exact ⟨c0, k1, hs _ _ k2 LamX.codeO_ne⟩
section
variable {X : Cx} {pins : List (Addr × Obj)} {σ : L2.St} {H : Hp} {s : Shared}
theorem inv_lam {F : NF} {b : Expr} {t' : Nat} {pm ctv : Value} (I : Inv X pins σ H s) :
    Inv X pins σ (upd H s.heap.objs.size (LamO s.heap.objs.size F b)) { s with heap := s.heap.push (PySem.W.kla_obj "<lambda>" F.qual F.params b F.scope F.cl pm F.c ctv), toks := t' } := by
  have g := Heap.get?_push_size s.heap (o := PySem.W.kla_obj "<lambda>" F.qual F.params b F.scope F.cl pm F.c ctv) rfl
  exact I.laid (a := s.heap.objs.size) (fun _ _ e => Heap.get?_push_of_some _ e) (Nat.le_refl _) ⟨⟨_, pm, ctv, g, rfl⟩, ⟨_, g⟩, fun h1 h2 ⟨o, p, t, z1, z2⟩ st => ⟨o, p, t, st _ z1, z2⟩⟩
/-- lambda: its object is new, and known -/
theorem lam_made {T : Tb} {c Pt : Addr} {params : Arguments} {body : Expr} {scope : Scope} {pos : Pos} {E Q : Value → Shared → Prop} (I : Inv X pins σ H s) (TB : LamX.TabB X.base X.mg c Pt) (hc : X.env.code = .ref c)
    (hm : (Pt, X.env.qual ++ "<lambda>") ∈ T) (hu : ∀ p ∈ T, p.1 = Pt → p.2 = X.env.qual ++ "<lambda>") (hT : LamX.Tabs T H) (hdef : defaultsOf params X.env = ([], [])) (hfree : ∀ y ∈ scope.names, y.2 = .free → ∃ c, X.env.cells.lookup y.1 = some c)
    (h : ∀ (f c' : Addr) (H1 : Hp) (s' : Shared), Inv X pins σ H1 s' → Ex T H H1 → H1 f = some (LamO f (lamN X params scope c') body) → H1 c' = some (LamX.CodeO c' (X.env.qual ++ "<lambda>")) → Q (.ref f) s') :
    wpAny (model X.prog X.w) X.A (eval (.Lambda params body scope pos) X.env) Q E s := by
  obtain ⟨ps, hP, h3, h4⟩ := hT _ hm
  have bP : s.heap.BuiltinsAt X.mg Pt := TB.bm.keeps I.bk
  have hP' : s.heap.get? Pt = some { cls := .none, data := .fields ps } := I.hok Pt _ hP
  refine PySem.W.kla_eval hdef ?_
  cases q : codeAmong pos ps.toList with
  | none =>
    refine PySem.W.kla_makeFunction (mg := X.mg) (c := c) (P := Pt) (ps := ps) (closure_ok hfree) I.ok.glob (I.mod.glob.keeps I.bk) hc (TB.code.keeps I.bk) hP' h3 q TB.gP bP fun c' ctv h' tk k1 k2 k3 k4 k5 => ?_
    obtain ⟨c2, oc, vs, t, e2, z1, z2, z3⟩ := k4
    cases e2
    have nC : H c' = none := I.hok.fresh k2
    have I1 := LamX.inv_table (t' := tk) (more := #[rawInt pos.line, rawInt pos.col, .ref c']) (h' := h') I hP (fun b o hb e => k1 b o hb e) k5 k2 ⟨oc, vs, t, z1, z2, z3⟩
    have nF := I1.hok.fresh (a := h'.objs.size) (Nat.le_refl _)
    have I2 := inv_lam (F := lamN X params scope c') (b := body) (t' := tk) (pm := (X.mg "__name__").getD .none) (ctv := ctv) I1
    have T1 := tabs_more (pos := pos) hT hm hu hP nC
    refine h h'.objs.size c' _ _ I2 ⟨fun b o e n => ?_, fun b e => upd_none (upd_none (upd_none e)), fun _ => T1.ext fun b o e => ?_⟩ upd_same ?_
    · have n1 : b ≠ c' := ne_of_none e nC
      have n2 : b ≠ Pt := fun z => by
        subst z
        rw [hP] at e
        exact n ps (Option.some.inj e).symm
      have e1 : upd (upd H Pt (.tbl (ps ++ #[rawInt pos.line, rawInt pos.col, .ref c']))) c' (LamX.CodeO c' (X.env.qual ++ "<lambda>")) b = some o := by
        rw [upd_ne n1, upd_ne n2]
        exact e
      exact (upd_ne (ne_of_none e1 nF)).trans e1
    · exact (upd_ne (ne_of_none e nF)).trans e
    · exact (upd_ne (Nat.ne_of_lt k3)).trans upd_same
  | some cv =>
    obtain ⟨c', rfl, hco⟩ := h4 pos cv q
    refine PySem.W.kla_makeFunctionHit (mg := X.mg) (c := c) (P := Pt) (ps := ps) (closure_ok hfree) I.ok.glob (I.mod.glob.keeps I.bk) hc (TB.code.keeps I.bk) hP' h3 q bP fun ctv h' tk k1 k2 => ?_
    have I1 : Inv X pins σ H { s with heap := h', toks := tk } := I.kept k1
    have nF : H h'.objs.size = none := I1.hok.fresh (Nat.le_refl _)
    have I2 := inv_lam (F := lamN X params scope c') (b := body) (t' := tk) (pm := (X.mg "__name__").getD .none) (ctv := ctv) I1
    exact h h'.objs.size c' _ _ I2 (Ex.new nF) upd_same ((upd_ne (ne_of_none hco nF)).trans hco)
end
/-- a lambda with one parameter called -/
theorem lam_run {P : Program} {w : World} {K : PySem.W.Frag} {mg : Str → Option Value} {base : Heap} {A : Around} {outer : List Env} {s : Shared} {H : Hp} {N fr : List Str} {p : Str} {F : NF} {b : Expr} {f : Addr} {k : Nat} {ws : List (Option V)} {v : V} {u : Value} {t : TE} {Q : VK}
    (S : NScope N [p] fr F.scope) (hr : Room (k + 1) A) (e0 : Env0 P w K mg base A outer s H) (hf : H f = some (LamO f F b)) (hc : H F.c = some (LamX.CodeO F.c F.qual)) (C : CellsAt F.cl fr ws s.heap H) (rv : L2.RelV v u)
    (hb : ∀ (pm ctv : Value), bindArgs (PySem.W.kla_fn "<lambda>" F.qual F.params b F.scope F.cl pm (.ref F.c) ctv) ⟨[u], []⟩ = pure [(p, u)])
    (ht : Room k (A.deeper (envF F f s.heap.objs.size)) → PE (ncx C8.CX0 P w K mg base N F f A outer s H C8.E0) b t) (q : t (startF N [v] ws) H Q) :
    codeAny (model P w) A (.call (.ref f) ⟨[u], []⟩) (CR C8.CX0 outer P w H s Q C8.E0) s := by
  obtain ⟨pm, ctv, ho⟩ := lamO_at e0.hok hf
  have lim : s.heap.NoLimit := e0.mod.nolimit.keeps fun b o e => (e0.bs b o e).1
  obtain ⟨⟨oc, zs, tt, g1, g2, g3⟩, _, _⟩ := e0.hok F.c _ hc
  refine PySem.W.kla_callFunE hr.depth ho rfl S.co S.gen rfl ⟨F.c, oc, zs, tt, rfl, g1, g2, g3⟩ ?_
  rw [hb pm ctv]
  refine wpAny_pure (wpAny_newFunctionEnv S.nocell (fun y hy => ?_) (fun h₁ hns hsb => ⟨lim.fresh _ hsb, ?_⟩) S.kind)
  · rw [List.mem_singleton.mp hy]
    exact S.par p (List.mem_singleton.mpr rfl)
  show codeAny _ _ (.expr b (envF F f s.heap.objs.size)) _ _
  have kp : ∀ b o, s.heap.get? b = some o → h₁.get? b = some o := fun b o e => hsb.extBut b o (Nat.ne_of_lt (Heap.lt_size e)) (Heap.get?_push_of_some _ e)
  have J : Inv (ncx C8.CX0 P w K mg base N F f A outer s H C8.E0) [] (startF N [v] ws) H { s with heap := h₁, toks := s.toks + [(p, u)].length } :=
    inv_startN S hr.hd e0 rfl (.cons rv .nil) C hns kp
  refine PySem.W.kla_codeExpr (wpAny_mono ((ht (hr.deeper _)).run [] _ _ H Q J q) (fun u' s' hq => ?_) fun e s' hq => hq)
  obtain ⟨v', H', J', rv', q'⟩ := hq
  exact ⟨v', H', J'.os, J'.bare, J'.base, J'.hok, rv', q'⟩
end Cf
set_option maxHeartbeats 4000000
/-! sorted(.., key=lambda ..) -/
namespace Cf
open PySem PySem.Spec PyProof.Rows L2 NdefX PySem.W

/-- what a run leaves -/
structure Ran (X : Cx) (H H' : Hp) (s s' : Shared) : Prop where
  os : s'.os = s.os
  bare : AllBare s'.gens
  un : Un (frs X.stack) [] H H' s.heap s'.heap
  hok : HOk X.prog X.w H' s'.heap
section
variable {X : Cx} {pins : List (Addr × Obj)} {σ : L2.St} {H H1 H2 : Hp} {s s1 s2 : Shared}
theorem Ran.inv (r : Ran X H H1 s s1) (I : Inv X pins σ H s) : Inv X pins σ H1 s1 := I.call' r.os r.un r.hok r.bare fun b hb => absurd hb (by simp)
theorem Ran.trans (a : Ran X H H1 s s1) (b : Ran X H1 H2 s1 s2) : Ran X H H2 s s2 := ⟨b.os.trans a.os, b.bare, a.un.trans b.un, b.hok⟩
/-- things that the frame does not know of -/
theorem Ran.kept {h' : Heap} {t' : Nat} (r : Ran X H H1 s s1) (k : ∀ b o, s.heap.get? b = some o → s1.heap.get? b ≠ none → True) (k1 : ∀ b o u, H1 b = some u → s1.heap.get? b = some o → h'.get? b = some o)
    (k2 : ∀ b o, s.heap.get? b = some o → ∀ o', s1.heap.get? b = some o' → h'.get? b = some o') : Ran X H H1 s { s1 with heap := h', toks := t' } := by
  refine ⟨r.os, r.bare, ⟨fun b o e n x y => k2 b o e _ (r.un.keep b o e n x y), fun b o e n x y => ?_, r.un.free, fun b o e y => ?_, r.un.tups, r.un.frzs, r.un.tbls⟩, fun b u e => ?_⟩
  · obtain ⟨sl, z⟩ := r.un.slot b o e n x y
    exact ⟨sl, k2 b o e _ z⟩
  · obtain ⟨o', z⟩ := r.un.there b o e y
    exact ⟨o', k2 b o e _ z⟩
  · refine (r.hok b u e).stay (fun d v hd q => ?_) (fun d q => q) fun d xs q => q
    rcases hd with z | z
    · subst z
      exact k1 d v u e q
    · exact k1 d v _ z q
theorem Ran.start (I : Inv X pins σ H s) {h' : Heap} {t' : Nat} (k : ∀ b o, s.heap.get? b = some o → h'.get? b = some o) : Ran X H H s { s with heap := h', toks := t' } :=
  ⟨rfl, I.bare, Un.kept k, I.hok.kept k⟩
/-- one thing more that is known -/
theorem Ran.more {a : Addr} {o : HO} (r : Ran X H H1 s s1) (hn : s.heap.objs.size ≤ a) (h1 : H1 a = none) (h0 : H a = none) (new : ObjOk X.prog X.w (upd H1 a o) s1.heap a o) : Ran X H (upd H1 a o) s s1 := by
  have off : ∀ b u, H1 b = some u → upd H1 a o b = some u := fun b u e => by rw [upd_ne (ne_of_none e h1)]; exact e
  refine ⟨r.os, r.bare, ⟨r.un.keep, r.un.slot, fun b ob e n y => ?_, r.un.there, fun b xs e => off _ _ (r.un.tups b xs e), fun b ob u e => off _ _ (r.un.frzs b ob u e), fun b ps e => ?_⟩, fun b u e => ?_⟩
  · rw [upd_ne fun z => by subst z; exact absurd (Heap.lt_size e) (Nat.not_lt.mpr hn)]
    exact r.un.free b ob e n y
  · obtain ⟨m, z⟩ := r.un.tbls b ps e
    exact ⟨m, off _ _ z⟩
  · by_cases q : b = a
    · subst q
      rw [upd_same] at e
      cases e
      exact new
    · rw [upd_ne q] at e
      exact (r.hok b u e).stay (fun d v hd q => q) (fun d q => off _ _ q) fun d xs q => off _ _ q
end
theorem freed_none (h : Heap) (a : Addr) : (h.update a fun _ => ⟨.none, none, .freed, #[]⟩).get? a = none := by
  show (match (h.objs.modify a fun _ => (⟨.none, none, .freed, #[]⟩ : Obj))[a]? with
    | some ⟨_, _, .freed, _⟩ => none
    | o => o) = none
  rw [Array.getElem?_modify, if_pos rfl]
  cases h.objs[a]? <;> rfl
theorem each_dps {K : PySem.W.Frag} {H : Hp} {α : Type} [DecidableEq α] [Enc α] : ∀ {us : List Value} {xs : List α}, EachIs (fun u a => ∃ v, L2.RelV v u ∧ (is K a).p v H) us xs → ∃ vs, Vals vs us ∧ DpAll K H vs (encs xs)
  | _, _, .nil => ⟨[], .nil, .nil⟩
  | _, _, .cons ⟨v, h1, h2⟩ t => by
    obtain ⟨vs, h3, h4⟩ := each_dps t
    exact ⟨v :: vs, .cons h1 h3, .cons h2 h4⟩
theorem dps_each {K : PySem.W.Frag} {H : Hp} {α : Type} [DecidableEq α] [Enc α] : ∀ {us : List Value} {vs : List V} {xs : List α}, Vals vs us → DpAll K H vs (encs xs) → EachIs (fun u a => ∃ v, L2.RelV v u ∧ (is K a).p v H) us xs
  | _, _, [], r, h => by
    have h : DpAll K H _ [] := h
    cases h
    cases r
    exact .nil
  | _, _, x :: xs, r, h => by
    have h : DpAll K H _ (enc x :: encs xs) := h
    cases h with
    | cons h1 h2 => cases r with
      | cons r1 r2 => exact .cons ⟨_, r1, h1⟩ (dps_each r2 h2)
theorem reads_each {X : Cx} {pins : List (Addr × Obj)} {σ : L2.St} {H : Hp} {s : Shared} (I : Inv X pins σ H s) : ∀ {us : List Value} {vs : List V} {ds : List PyData}, Vals vs us → DpAll X.K H vs ds → EachIs (fun u d => ∃ as, Reads s.heap u d as) us ds
  | _, _, [], r, h => by
    cases h
    cases r
    exact .nil
  | _, _, d :: ds, r, h => by
    cases h with
    | cons h1 h2 => cases r with
      | cons r1 r2 => exact .cons (Dp.reads I d _ _ h1 r1) (reads_each I r2 h2)
theorem EachIs.len {α β : Type} {R : α → β → Prop} : ∀ {as : List α} {bs : List β}, EachIs R as bs → as.length = bs.length
  | _, _, .nil => rfl
  | _, _, .cons _ t => by simp [EachIs.len t]
theorem vals_len {vs : List V} {us : List Value} (h : Vals vs us) : us.length = vs.length := h.length.symm
theorem vals_at : ∀ {vs : List V} {us : List Value} {i : Nat} {u : Value}, Vals vs us → us[i]? = some u → ∃ v, vs[i]? = some v ∧ L2.RelV v u
  | _, _, i, u, .nil, e => by simp at e
  | _, _, 0, u, .cons r _, e => by simp at e; subst e; exact ⟨_, rfl, r⟩
  | _, _, i + 1, u, .cons _ t, e => by
    obtain ⟨v, h1, h2⟩ := vals_at (i := i) t (by simpa using e)
    exact ⟨v, by simpa using h1, h2⟩
section
variable {X : Cx} {pins : List (Addr × Obj)} {σ : L2.St} {H : Hp} {s : Shared} {α : Type} [DecidableEq α] [Enc α] {T : Tb}
theorem sort_lam {A : Around} {f : Addr} {xs : List α} {key : α → PyData} {vs : List Value} {vV : List V} {g : Heap} {t0 : Nat} {D : Addr} {n : Nat} {P : PySem.Fin → Shared → Prop} {E : Value → Shared → Prop} (I : Inv X pins σ H s) (k0 : ∀ b o, s.heap.get? b = some o → g.get? b = some o)
    (hD : g.get? D = some (seqObj "list" vs.toArray n)) (hDn : s.heap.objs.size ≤ D) (rv : Vals vV vs) (hd : DpAll X.K H vV (encs xs)) (hL : xs.length ≤ 1000000) (hal : AllAlike (xs.map key)) (hsk : Sortable (xs.map key)) (hu : ∀ a ∈ xs, A.units + (key a).depth < cLine)
    (turn : ∀ (H' : Hp) (s' : Shared) (a : α) (v : V) (u : Value), a ∈ xs → Ran X H H' s s' → Ex T H H' → L2.RelV v u → (is X.K a).p v H' →
      codeAny (model X.prog X.w) A (.call (.ref f) ⟨[u], []⟩) (CR C8.CX0 X.stack X.prog X.w H' s' (fun w H'' => Ex T H' H'' ∧ Dp X.K H'' w (key a)) C8.E0) s')
    (fin : ∀ (H' : Hp) (s' : Shared) (out : List V), Ran X H (upd H' D (.lst out)) s s' → Ex T H H' → H' D = none → DpAll X.K (upd H' D (.lst out)) out (encs (xs.mergeSort (dataLe false key))) → P (.done (.ret .none)) s') :
    wpAny (model X.prog X.w) A (ksk_tree D (.ref f) false) P E { s with heap := g, toks := t0 } := by
  have hlen : vs.length = xs.length := by rw [vals_len rv, DpAll.len hd]; simp [encs]
  have hS : sizeLine = 16777216 := sizeLine_eq
  have hZ : vs.length ≤ sizeLine := by omega
  have hDlt : D < g.objs.size := Heap.lt_size hD
  have nD : H D = none := I.hok.fresh hDn
  have nfr : ∀ b, s.heap.objs.size ≤ b → b ∉ frs X.stack := fun b hb z => by
    rcases List.mem_cons.mp (I.stkSub _ z) with e | e
    · have h1 := I.lt
      rw [← e] at h1
      exact Nat.lt_irrefl _ (Nat.lt_of_lt_of_le h1 hb)
    · exact I.nofs hb e
  obtain ⟨e1, hD1⟩ : ∃ e1, (g.update D (Obj.mapSeq fun _ => (#[] : Array Value))).get? D = some (seqObj "list" #[] e1) := ⟨_, get?_update_seq hD fun _ => #[]⟩
  have hkS : ((g.update D (Obj.mapSeq fun _ => (#[] : Array Value))).push (seqObj "tuple" vs.toArray 0)).objs.size = g.objs.size + 1 := by rw [size_push', Heap.size_update]
  unfold ksk_tree
  refine wpAny_bind (listItems_at hD rfl ?_)
  refine wpAny_bind (listUpdate_at hD rfl ?_ (by rw [List.size_toArray]; exact hZ) (Nat.zero_le _))
  refine wpAny_bind (seqEpoch_at hD1 rfl ?_)
  refine wpAny_bind (wpAny_newTuple ?_ (by show vs.length ≤ _; exact hZ))
  refine wpAny_bind (wpAny_newList ?_ (Nat.zero_le _))
  refine wpAny_holding ?_
  obtain ⟨kS, ekS⟩ : ∃ kS, kS = ((g.update D (Obj.mapSeq fun _ => (#[] : Array Value))).push (seqObj "tuple" vs.toArray 0)).objs.size := ⟨_, rfl⟩
  obtain ⟨g1, eg1⟩ : ∃ g1, g1 = ((g.update D (Obj.mapSeq fun _ => (#[] : Array Value))).push (seqObj "tuple" vs.toArray 0)).push (seqObj "list" #[] 0) := ⟨_, rfl⟩
  have hkD : kS ≠ D := by rw [ekS, hkS]; exact Nat.ne_of_gt (Nat.lt_succ_of_lt hDlt)
  have hgs : s.heap.objs.size ≤ g.objs.size := Nat.le_trans hDn (Nat.le_of_lt hDlt)
  have hkn : s.heap.objs.size ≤ kS := by rw [ekS, hkS]; exact Nat.le_succ_of_le hgs
  have a1 : g1.get? kS = some (seqObj "list" #[] 0) := by rw [eg1, ekS]; exact Heap.get?_push_size _ rfl
  have a2 : g1.get? D = some (seqObj "list" #[] e1) := by rw [eg1]; exact Heap.get?_push_of_some _ (Heap.get?_push_of_some _ hD1)
  have a3 : ∀ b o, s.heap.get? b = some o → g1.get? b = some o := fun b o e => by
    have hb : b ≠ D := Nat.ne_of_lt (Nat.lt_of_lt_of_le (Heap.lt_size e) hDn)
    rw [eg1]
    exact Heap.get?_push_of_some _ (Heap.get?_push_of_some _ ((Heap.get?_update_ne _ _ _ _ hb).trans (k0 b o e)))
  show wpAny _ _ (ksk_rest D (.ref f) false vs.toArray e1 (.ref ((g.update D (Obj.mapSeq fun _ => (#[] : Array Value))).push (seqObj "tuple" vs.toArray 0)).objs.size)) P E { s with heap := ((g.update D (Obj.mapSeq fun _ => (#[] : Array Value))).push (seqObj "tuple" vs.toArray 0)).push (seqObj "list" #[] 0), toks := t0 }
  rw [← ekS, ← eg1]
  unfold ksk_rest
  refine wpAny_bind (wpAny_rule ?_)
  first
    | rw [List.forIn_toArray]
    | (rw [← Array.forIn_toList]; simp only [List.toList_toArray])
  refine wpAny_bind (ksk_fold (fun i s' => ∃ (H' : Hp) (kv : List V) (kA : Array Value) (e : Nat), Ran X H H' s s' ∧ Ex T H H' ∧ H' D = none ∧ H' kS = none ∧ s'.heap.get? kS = some (seqObj "list" kA e) ∧ s'.heap.get? D = some (seqObj "list" #[] e1) ∧ Vals kv kA.toList ∧ DpAll X.K H' kv ((xs.take i).map key)) vs 0 { s with heap := g1, toks := t0 }
    ⟨H, [], #[], 0, Ran.start I a3, Ex.refl H, nD, I.hok.fresh hkn, a1, a2, .nil, by rw [List.take_zero]; exact .nil⟩ ?step ?done)
  case step =>
    rintro j x s' hx ⟨H', kv, kA, e, r, ex, n1, n2, b1, b2, rk, hk⟩
    simp only [Nat.zero_add] at hk ⊢
    obtain ⟨v, hv, rx⟩ := vals_at rv hx
    obtain ⟨d, hd1, hd2⟩ := DpAll.at hd hv
    have hj : j < xs.length := by
      have := (List.getElem?_eq_some_iff.mp hx).1
      omega
    have hdx : d = enc xs[j] := by
      unfold encs at hd1
      rw [List.getElem?_map, List.getElem?_eq_getElem hj] at hd1
      exact (Option.some.inj hd1).symm
    subst hdx
    have hz : kA.size ≤ vs.length := by
      have h1 := vals_len rk
      rw [DpAll.len hk, List.length_map, List.length_take, Array.length_toList] at h1
      omega
    have hp : (is X.K xs[j]).p v H' := (is X.K xs[j]).st v H H' ex.ez hd2
    refine wpAny_bind (wpAny_attempt (wpAny_call (codeAny_mono (turn H' s' xs[j] v x (List.getElem_mem hj) r ex rx hp) fun rr s2 hq => ?_)))
    cases rr with
    | error e => exact (show False from hq).elim
    | ok fl =>
      cases fl with
      | next => exact False.elim hq
      | brk => exact False.elim hq
      | cont => exact False.elim hq
      | ret u =>
        obtain ⟨kw, H2, q1, q2, q3, q4, q5, q6, q7⟩ := hq
        have r2 : Ran X H' H2 s' s2 := ⟨q1, q2, q3, q4⟩
        have m1 : s2.heap.get? kS = some (seqObj "list" kA e) := q3.keep kS _ b1 n2 (nfr _ hkn) (by simp)
        have m2 : s2.heap.get? D = some (seqObj "list" #[] e1) := q3.keep D _ b2 n1 (nfr _ hDn) (by simp)
        have n1' : H2 D = none := q3.free D _ b2 n1 (by simp)
        have n2' : H2 kS = none := q3.free kS _ b1 n2 (by simp)
        have su := Heap.SameBut.update s2.heap kS (Obj.mapSeq (·.push u))
        obtain ⟨c2, hc2⟩ : ∃ c2, (s2.heap.update kS (Obj.mapSeq (·.push u))).get? kS = some (seqObj "list" (kA.push u) c2) := ⟨_, get?_update_seq m1 (·.push u)⟩
        refine wpAny_bind (listUpdate_at m1 rfl ?_ (Nat.le_trans hz hZ) (Nat.le_trans (Nat.le_of_eq (Array.size_push ..)) (Nat.succ_le_succ (Nat.le_trans hz hZ))))
        have r3 : Ran X H H2 s { s2 with heap := s2.heap.update kS (Obj.mapSeq (·.push u)) } := by
          refine Ran.kept (t' := s2.toks) (r.trans r2) (fun _ _ _ _ => trivial) (fun b o z hb q => ?_) fun b o hb o' q => ?_
          · exact (su.2 b (ne_of_none hb n2')).trans q
          · exact (su.2 b (Nat.ne_of_lt (Nat.lt_of_lt_of_le (Heap.lt_size hb) hkn))).trans q
        have et : (xs.take (j + 1)).map key = (xs.take j).map key ++ [key xs[j]] := by
          rw [List.take_add_one, List.getElem?_eq_getElem hj, List.map_append]
          rfl
        refine wpAny_pure ⟨rfl, H2, kv ++ [kw], kA.push u, c2, r3, ex.trans q6, n1', n2', hc2, (su.2 D hkD.symm).trans m2, ?_, ?_⟩
        · rw [Array.toList_push]
          exact rk.append (.cons q5 .nil)
        · rw [et]
          exact DpAll.app (dps_ext q6.ext _ _ hk) (.cons q7 .nil)
  case done =>
    rintro s' ⟨H', kv, kA, e, r, ex, n1, n2, b1, b2, rk, hk⟩
    have e3 : xs.take (0 + vs.length) = xs := List.take_of_length_le (by omega)
    rw [e3] at hk
    have J := r.inv I
    have hk' := reads_each J rk hk
    have hsz : kA.size = vs.length := by
      have h1 := vals_len rk
      rw [DpAll.len hk, List.length_map, Array.length_toList] at h1
      omega
    refine wpAny_bind (listItems_at b1 rfl ?_)
    have fo : ∀ b, b ≠ kS → (s'.heap.update kS fun _ => ⟨.none, none, .freed, #[]⟩).get? b = s'.heap.get? b := fun b hb => Heap.get?_update_ne _ _ _ _ hb
    refine keyH_end (κ := dataKind s'.heap (xs.map key)) (h₁ := s'.heap.update kS fun _ => ⟨.none, none, .freed, #[]⟩) (fun b o hb q => ?_) (freed_none _ _) b1 b2 hkD (SortsAt.data hk' hal hsk fun d hd => ?_) hsz hZ fun h3 tk3 c k3 n3 => ?_
    · by_cases z : b = kS
      · subst z
        rw [freed_none] at q
        cases q
      · rwa [fo b z] at q
    · obtain ⟨a, ha, rfl⟩ := List.mem_map.mp hd
      exact hu a ha
    · have ko : KeyedOut false (xs.map key) vs (sortVals (dataKind s'.heap (xs.map key)) false kA.toList vs) := ⟨s'.heap, kA.toList, hal, rfl, hk'⟩
      have hd' : DpAll X.K H' vV (encs xs) := dps_ez ex.ez _ _ (encs_pure xs) hd
      obtain ⟨out, ro, ho⟩ := each_dps (keyedOut_each (R := fun u a => ∃ v, L2.RelV v u ∧ (is X.K a).p v H') key ko (dps_each rv hd'))
      have kb : ∀ b o, b ≠ D → b ≠ kS → s'.heap.get? b = some o → h3.get? b = some o := fun b o z1 z2 q => k3 b o z1 (by rw [fo b z2]; exact q)
      have r4 : Ran X H H' s { s' with heap := h3, toks := tk3 } := by
        refine Ran.kept (t' := tk3) r (fun _ _ _ _ => trivial) (fun b o z hb q => ?_) fun b o hb o' q => ?_
        · exact kb b o (ne_of_none hb n1) (ne_of_none hb n2) q
        · have hb := Heap.lt_size hb
          exact kb b o' (Nat.ne_of_lt (Nat.lt_of_lt_of_le hb hDn)) (Nat.ne_of_lt (Nat.lt_of_lt_of_le hb hkn)) q
      have hol : out.length = xs.length := by
        have h1 := DpAll.len ho
        rw [h1]
        unfold encs
        rw [List.length_map, List.length_mergeSort]
      refine fin H' _ out (r4.more hDn n1 nD ⟨by omega, _, c, ro, n3⟩) ex n1 ?_
      exact dps_ez (Ex.new (T := T) n1).ez _ _ (encs_pure _) ho
end
end Cf
set_option maxHeartbeats 4000000
/-! sorted(.., key=lambda p: ..), told by what is sorted -/
namespace Cf
open PySem PySem.Spec PyProof.Rows L2 NdefX PySem.W

/-- what a lambda may read of its maker's slots -/
def capA : AV → AV
  | .t P => .t P
  | .r P => .r P
  | _ => .u
def lamSlots (N : List Str) (js : List Nat) (ρ : List AV) (a : AV) : List AV := a :: ((js.map fun j => capA (ρ.getD j .u)) ++ List.replicate (N.length - 1 - js.length) .u)
theorem slotAt_capA {R R' H0 H : Hp} {T : Tb} {ρ : List AV} {σ : L2.St} {j : Nat} (en : En T R H0 ρ σ H) : SlotOk H H (fun _ => False) (capA (ρ.getD j .u)) (some (slotAt σ j)) := by
  rw [List.getD_eq_getElem?_getD]
  cases q : ρ[j]? with
  | none => trivial
  | some a =>
    obtain ⟨S, hs⟩ := en.slot q
    cases a with
    | u => trivial
    | o O => trivial
    | t P =>
      obtain ⟨v, h1, h2⟩ := hs
      exact ⟨v, by rw [slotAt_of h1], h2⟩
    | r P =>
      obtain ⟨v, h1, h2⟩ := hs
      exact ⟨v, by rw [slotAt_of h1], P.st _ _ _ en.exR.ext h2⟩
theorem en_lam {T : Tb} {R H0 H : Hp} {ρ : List AV} {σ : L2.St} {N : List Str} {js : List Nat} {v : V} {P : TP} (en : En T R H0 ρ σ H) (hv : P.p v H) (hl : 1 + js.length ≤ N.length) :
    En T H H (lamSlots N js ρ (.t P)) (startF N [v] (js.map (slotAt σ))) H := by
  refine ⟨Ex.refl H, Ex.refl H, en.tab, ?_, fun _ _ => False, fun _ _ _ h => h.elim, fun _ _ h => h.elim, fun _ _ h => h.elim, fun i a ha => ?_⟩
  · unfold startF lamSlots
    simp only [List.length_append, List.length_map, List.length_replicate, List.length_cons, List.length_nil]
    omega
  · unfold lamSlots at ha
    unfold startF
    cases i with
    | zero =>
      simp at ha
      subst ha
      exact ⟨v, rfl, hv⟩
    | succ i =>
      simp only [List.getElem?_cons_succ] at ha
      show SlotOk H H _ a (([some v] ++ (js.map (slotAt σ) ++ List.replicate (N.length - 1 - (js.map (slotAt σ)).length) none))[i + 1]?)
      rw [List.getElem?_append_right (by simp)]
      simp only [List.length_cons, List.length_nil, Nat.zero_add, Nat.add_sub_cancel]
      by_cases hi : i < js.length
      · rw [List.getElem?_append_left (by simpa using hi), List.getElem?_map, List.getElem?_eq_getElem hi] at ha
        cases ha
        rw [List.getElem?_append_left (by simpa using hi), List.getElem?_map, List.getElem?_eq_getElem hi]
        exact slotAt_capA (R' := R) en
      · rw [List.getElem?_append_right (by simpa using hi), List.getElem?_replicate] at ha
        split at ha
        · cases ha
          trivial
        · cases ha
/-- a lambda that stands -/
def lamP (X : Cx) (params : Arguments) (scope : Scope) (body : Expr) : TP where
  p := fun v H => ∃ f c', v = .ref f ∧ H f = some (LamO f (lamN X params scope c') body) ∧ H c' = some (LamX.CodeO c' (X.env.qual ++ "<lambda>"))
  st := fun v H H' e ⟨f, c', h1, h2, h3⟩ => ⟨f, c', h1, e _ _ h2 rfl, e _ _ h3 rfl⟩
/-- what a maker of lambdas knows of itself -/
structure Mk (T : Tb) (X : Cx) : Prop where
  ex : ∃ c Pt, LamX.TabB X.base X.mg c Pt ∧ X.env.code = .ref c ∧ (Pt, X.env.qual ++ "<lambda>") ∈ T ∧ ∀ p ∈ T, p.1 = Pt → p.2 = X.env.qual ++ "<lambda>"
/-- its scopes: the lambda's names, the parameter, the captured ones, where those stand -/
structure LamSc (X : Cx) (scope : Scope) (N : List Str) (p : Str) (fr : List Str) (js : List Nat) : Prop where
  sc : NScope N [p] fr scope
  free : ∀ y ∈ scope.names, y.2 = .free → X.env.scope.names.lookup y.1 = some .cell ∨ X.env.scope.names.lookup y.1 = some .free
  has : ∀ y ∈ fr, (y, NameKind.free) ∈ scope.names
  at_ : js.map (fun j => X.N[j]?) = fr.map some
section
variable {T : Tb} {R : Hp} {X : Cx} {ρ : List AV} {e body : Expr} {pos p1 lpos kp : Pos} {params : Arguments} {scope : Scope} {N fr : List Str} {p : Str} {js : List Nat} {j : Nat}
theorem e_lam (M : Mk T X) (L : LamSc X scope N p fr js) (hdef : defaultsOf params X.env = ([], [])) : E T R X ρ (.Lambda params body scope pos) (lamP X params scope body).p := by
  obtain ⟨c, Pt, TB, hc, hm, hu⟩ := M.ex
  refine ⟨fun pins s σ H Q I ⟨⟨H0, en⟩, q⟩ => ?_⟩
  exact lam_made I TB hc hm hu en.tab hdef (fun y hy e => (L.free y hy e).elim (fun z => I.ok.has _ (.inl z)) fun z => I.ok.has _ (.inr z)) fun f c' H1 s' I1 x h1 h2 => ⟨.ref f, H1, I1, rfl, q _ H1 x ⟨f, c', rfl, h1, h2⟩⟩
theorem args_sorted_key (a v : Value) : argsOk "sorted" ⟨[a], [(Str.ofString "key", v)]⟩ := by unfold argsOk; kernel_rfl
theorem args_sort_key (a v : Value) : argsOk "list.sort" ⟨[a], [(Str.ofString "key", v)]⟩ := by unfold argsOk; kernel_rfl
variable {α : Type} [DecidableEq α] [Enc α]
/-- the key's reading, wherever the lambda runs -/
abbrev KeyE (T : Tb) (R : Hp) (X : Cx) (ρ : List AV) (params : Arguments) (scope : Scope) (body : Expr) (N : List Str) (js : List Nat) (k : Nat) (xs : List α) (key : α → PyData) : Prop :=
  ∀ (A : Around) (outer : List Env) (s : Shared) (H : Hp) (f c' : Addr) (a : α), a ∈ xs → Room k (A.deeper (envF (lamN X params scope c') f s.heap.objs.size)) →
    Cf.E T H (ncx C8.CX0 X.prog X.w X.K X.mg X.base N (lamN X params scope c') f A outer s H C8.E0) (lamSlots N js ρ (.t (is X.K a))) body (fun v H' => Dp X.K H' v (key a))
/-- each call of the key -/
theorem key_turn {pins : List (Addr × Obj)} {σ : L2.St} {H H0 : Hp} {s : Shared} {f c' : Addr} {k : Nat} {xs : List α} {key : α → PyData} (I : Inv X pins σ H s) (en : En T R H0 ρ σ H) (L : LamSc X scope N p fr js) (hr : Room j X.A) (hk : k + 3 ≤ j)
    (hf : H f = some (LamO f (lamN X params scope c') body)) (hc : H c' = some (LamX.CodeO c' (X.env.qual ++ "<lambda>")))
    (hb : ∀ (q : Str) (cl : List (Str × Addr)) (pm cv ctv u : Value), bindArgs (PySem.W.kla_fn "<lambda>" q params body scope cl pm cv ctv) ⟨[u], []⟩ = pure [(p, u)])
    (ke : KeyE T R X ρ params scope body N js k xs key) :
    ∀ (H' : Hp) (s' : Shared) (a : α) (v : V) (u : Value), a ∈ xs → Ran X H H' s s' → Ex T H H' → L2.RelV v u → (is X.K a).p v H' →
      codeAny (model X.prog X.w) X.A.in1.in1 (.call (.ref f) ⟨[u], []⟩) (CR C8.CX0 X.stack X.prog X.w H' s' (fun w H'' => Ex T H' H'' ∧ Dp X.K H'' w (key a)) C8.E0) s' := by
  intro H' s' a v u ha r x rv hv
  have J := r.inv I
  have en' := en.step x
  have hN : 1 + js.length ≤ N.length := by
    have q1 := congrArg List.length L.sc.pre
    have q2 := congrArg List.length L.at_
    rw [List.length_map, List.length_map] at q2
    rw [List.length_take, List.length_append] at q1
    simp only [List.length_cons, List.length_nil] at q1
    omega
  have hr2 : Room (k + 1) X.A.in1.in1 := Room.in1 (Room.in1 (hr.mono (by omega)))
  refine lam_run (F := lamN X params scope c') (ws := js.map (slotAt σ)) L.sc hr2 J.env0.in1.in1 (x.ez _ _ hf rfl) (x.ez _ _ hc rfl) (cells_of J (Caps.made J.ok L.free L.has L.at_)) rv (fun pm ctv => hb _ _ pm _ ctv u) (fun hr3 => ke _ _ s' H' f c' a ha hr3) ?_
  exact ⟨⟨H', en_lam en' hv hN⟩, fun w H'' x2 p2 => ⟨x2, p2⟩⟩
/-- what stands behind each of both -/
theorem sort_end {pins : List (Addr × Obj)} {σ : L2.St} {H H0 : Hp} {s : Shared} {f c' : Addr} {k : Nat} {xs : List α} {key : α → PyData} {vs : List Value} {vV : List V} {g : Heap} {t0 D n : Nat} {Q : VK} {Er : Value → Shared → Prop} (I : Inv X pins σ H s) (en : En T R H0 ρ σ H) (L : LamSc X scope N p fr js) (hr : Room j X.A) (hk : k + 3 ≤ j)
    (k0 : ∀ b o, s.heap.get? b = some o → g.get? b = some o) (hD : g.get? D = some (seqObj "list" vs.toArray n)) (hDn : s.heap.objs.size ≤ D) (rv : Vals vV vs) (hd : DpAll X.K H vV (encs xs)) (hL : xs.length ≤ 1000000)
    (hf : H f = some (LamO f (lamN X params scope c') body)) (hc : H c' = some (LamX.CodeO c' (X.env.qual ++ "<lambda>")))
    (hal : AllAlike (xs.map key)) (hsk : Sortable (xs.map key)) (hu : ∀ a ∈ xs, (key a).depth ≤ 100)
    (hb : ∀ (q : Str) (cl : List (Str × Addr)) (pm cv ctv u : Value), bindArgs (PySem.W.kla_fn "<lambda>" q params body scope cl pm cv ctv) ⟨[u], []⟩ = pure [(p, u)])
    (ke : KeyE T R X ρ params scope body N js k xs key)
    (q : ∀ v S H', (∀ a, S a → H a = none) → Ex T H H' → (lstO X.K (xs.mergeSort (dataLe false key))).p v S H' → Q v H') :
    wpAny (model X.prog X.w) X.A.in1.in1 (Builtin.«list.sort» ⟨[.ref D], [(Str.ofString "key", .ref f)]⟩) (fun fi s' => fi = .done (.ret .none) ∧ EP X pins σ Q (.ref D) s') Er { s with heap := g, toks := t0 } := by
  rw [ksk_t1]
  refine sort_lam (T := T) (A := X.A.in1.in1) I k0 hD hDn rv hd hL hal hsk (fun a ha => ?_) (key_turn I en L hr hk hf hc hb ke) fun H' s' out r x nD ho => ⟨rfl, ?_⟩
  · have h1 := hu a ha
    have h2 := hr.un
    show X.A.units + 1 + 1 + (key a).depth < cLine
    omega
  · refine ⟨.ref D, _, r.inv I, rfl, q _ (fun a => a = D) _ (fun a z => by rw [z]; exact I.hok.fresh hDn) (x.trans (Ex.new nD)) ⟨D, out, rfl, rfl, upd_same, ho⟩⟩
/-- sorted(l, key=lambda p: ..), l a list -/
theorem n_sortL {k : Nat} {xs : List α} {key : α → PyData} (h : E T R X ρ e (lstX X.K xs).p) (hm : X.mg "sorted" = none) (hL : xs.length ≤ 1000000) (M : Mk T X) (L : LamSc X scope N p fr js) (hr : Room j X.A) (hk : k + 3 ≤ j)
    (hal : AllAlike (xs.map key)) (hsk : Sortable (xs.map key)) (hu : ∀ a ∈ xs, (key a).depth ≤ 100) (hdef : defaultsOf params X.env = ([], []))
    (hb : ∀ (q : Str) (cl : List (Str × Addr)) (pm cv ctv u : Value), bindArgs (PySem.W.kla_fn "<lambda>" q params body scope cl pm cv ctv) ⟨[u], []⟩ = pure [(p, u)])
    (ke : KeyE T R X ρ params scope body N js k xs key)
    (hs : starEach [e] X.env = (false, eval e X.env) :: starEach [] X.env := by rfl) (hg : Gl X "sorted" := by rfl)
    (he : backTo pos (starEach [e] X.env) = (false, eval e X.env) :: backTo pos (starEach [] X.env) := by rfl) (hpl : (backTo pos (starEach [e] X.env)).any (·.1) = false := by rfl)
    (hks : (backToKw pos (keywordEach [⟨some "key", .Lambda params body scope lpos, kp⟩] X.env)).filterMap (·.1) = [Str.ofString "key"] := by rfl) :
    Cf.N T R X ρ (.Call (.Name "sorted" p1) [e] [⟨some "key", .Lambda params body scope lpos, kp⟩] pos) (lstO X.K (xs.mergeSort (dataLe false key))) := by
  refine ⟨fun pins s σ H Q I ⟨⟨H0, en⟩, q⟩ => ?_⟩
  refine wpAny_Call_Name_kw (ld_blt I hg hm boot_sorted ?_)
  refine PyProof.Rows.callWith_kw (thn ((as_one h hs).run pos pins s σ H (fun vs H1 => Ex T H H1 ∧ AllP [lstX X.K xs] vs H1) I ⟨⟨H0, en⟩, fun vs H1 x1 p1 => ⟨x1, p1⟩⟩) fun us s1 ⟨vs, H1, I1, r1, x1, p1⟩ => ?_) he hpl rfl rfl
  obtain ⟨v, rfl, l, vV, rfl, h3, h4⟩ := allP1 p1
  obtain ⟨u, rfl, ru⟩ := r1.one
  cases ru
  refine thn ((pk_cons (e_lam (T := T) (R := R) (ρ := ρ) M L hdef) pk_nil).run pos pins s1 σ H1 (fun zs H2 => ∃ v, zs = [v] ∧ Ex T H1 H2 ∧ (lamP X params scope body).p v H2) I1 ⟨⟨H0, en.step x1⟩, fun v H2 x2 p2 => ⟨v, rfl, x2, p2⟩⟩) fun ws s2 ⟨zs, H2, I2, r2, z, e0, x2, f, c', e1, hf, hc⟩ => ?_
  subst e0 e1
  obtain ⟨u, rfl, ru⟩ := r2.one
  cases ru
  rw [hks]
  obtain ⟨hz, its, n, rv, hll, hp⟩ := I2.lstM (x2.ext l _ h3 fun ps z => by cases z)
  have h4' := dps_ez x2.ez _ _ (encs_pure xs) h4
  have hS : sizeLine = 16777216 := sizeLine_eq
  refine sorted_of_sort (vs := its) ⟨_, hp, rfl, _, rfl⟩ (by rw [vals_len rv]; exact hz) (args_sorted_key _ _) (fun _ => args_sort_key _ _) fun Er => ?_
  exact sort_end I2 ((en.step x1).step x2) L hr hk (fun _ _ => copyHeap_old) (copyHeap_at s2.heap its) (Nat.le_succ _) rv h4' hL hf hc hal hsk hu hb ke fun v S H' hS' x3 p3 => q v S H' (fun a ha => (x1.trans x2).bk a (hS' a ha)) ((x1.trans x2).trans x3) p3
end
/-! ### dicts whose keys lie in tuples, read -/
def kdlRaw {prog : Program} {w : World} {d ep : Nat} {es : Array DictEntry} (lo : (d == sysModules) = false) : KdlSrc prog w "dict" d d es.size (fun i v => ∃ hi : i < es.size, v = es[i].key) (fun h => h.DictRaw d es ep) where
  type := fun _ m => m.typeIs
  there := fun _ m => let ⟨_, ho, _⟩ := m; ⟨Heap.lt_size ho, Heap.lt_size ho⟩
  keep := fun _ _ m k => m.at fun o e => k d (.inl rfl) o e
  notList := by decide
  notTuple := by decide
  hint := fun _ _ _ _ m q => kdl_hint_dict m.typeIs q
  iter := fun _ s hh m => by
    obtain ⟨o, ho, _⟩ := id m
    exact ⟨_, _, fun _ _ q => wpAny_pyIter_dict_raw lo m q, Walks.rawKeys hh _ d (Nat.ne_of_lt (Heap.lt_size ho)) es ep, ⟨⟨_, Heap.get?_push_size _ rfl, rfl, rfl⟩, m.at fun o e => Heap.get?_push_of_some _ e⟩⟩
section
variable {α : Type} [DecidableEq α] [Enc α]
/-- the dict at d has these entries -/
def DRaw (d : Addr) (es : Array DictEntry) (ep : Nat) : HO := .ext fun h => h.DictRaw d es ep
/-- a dict with the keys xs, never written again -/
def keysT (K : PySem.W.Frag) (xs : List α) : TP where
  p := fun v H => ∃ (d : Addr) (es : Array DictEntry) (ep : Nat) (as : List Addr), v = .ref d ∧ (d == sysModules) = false ∧ H d = some (DRaw d es ep) ∧ es.toList.map (·.key) = as.map Value.ref ∧ DpAll K H (as.map V.ref) (encs xs)
  st := fun v H H' e ⟨d, es, ep, as, h1, h2, h3, h4, h5⟩ => ⟨d, es, ep, as, h1, h2, e _ _ h3 rfl, h4, dps_ez e _ _ (encs_pure xs) h5⟩
theorem vals_refs : ∀ as : List Addr, Vals (as.map V.ref) (as.map Value.ref)
  | [] => .nil
  | a :: as => .cons rfl (vals_refs as)
variable {T : Tb} {R : Hp} {X : Cx} {ρ : List AV} {e body : Expr} {pos p1 lpos kp : Pos} {params : Arguments} {scope : Scope} {N fr : List Str} {p : Str} {js : List Nat} {j : Nat}
theorem items_eq {es : Array DictEntry} {as : List Addr} {acc : Array Value} (h : es.toList.map (·.key) = as.map Value.ref) (hi : ItemsOf (fun i v => ∃ hi : i < es.size, v = es[i].key) acc es.size) : acc.toList = as.map Value.ref := by
  rw [← h]
  apply List.ext_getElem?
  intro i
  rw [List.getElem?_map, Array.getElem?_toList, Array.getElem?_toList]
  by_cases hl : i < es.size
  · have hl2 : i < acc.size := by rw [hi.1]; exact hl
    obtain ⟨_, e⟩ := hi.2 i acc[i] (Array.getElem?_eq_getElem hl2)
    rw [Array.getElem?_eq_getElem hl2, Array.getElem?_eq_getElem hl, e]
    rfl
  · rw [Array.getElem?_eq_none (by rw [hi.1]; omega), Array.getElem?_eq_none (by omega)]
    rfl
/-- sorted(d, key=lambda p: ..), d such a dict -/
theorem n_sortD {k : Nat} {xs : List α} {key : α → PyData} (h : E T R X ρ e (keysT X.K xs).p) (hm : X.mg "sorted" = none) (hcl : X.calm = true) (hL : xs.length ≤ 1000000) (M : Mk T X) (L : LamSc X scope N p fr js) (hr : Room j X.A) (hk : k + 3 ≤ j)
    (hal : AllAlike (xs.map key)) (hsk : Sortable (xs.map key)) (hu : ∀ a ∈ xs, (key a).depth ≤ 100) (hdef : defaultsOf params X.env = ([], []))
    (hb : ∀ (q : Str) (cl : List (Str × Addr)) (pm cv ctv u : Value), bindArgs (PySem.W.kla_fn "<lambda>" q params body scope cl pm cv ctv) ⟨[u], []⟩ = pure [(p, u)])
    (ke : KeyE T R X ρ params scope body N js k xs key)
    (hs : starEach [e] X.env = (false, eval e X.env) :: starEach [] X.env := by rfl) (hg : Gl X "sorted" := by rfl)
    (he : backTo pos (starEach [e] X.env) = (false, eval e X.env) :: backTo pos (starEach [] X.env) := by rfl) (hpl : (backTo pos (starEach [e] X.env)).any (·.1) = false := by rfl)
    (hks : (backToKw pos (keywordEach [⟨some "key", .Lambda params body scope lpos, kp⟩] X.env)).filterMap (·.1) = [Str.ofString "key"] := by rfl) :
    Cf.N T R X ρ (.Call (.Name "sorted" p1) [e] [⟨some "key", .Lambda params body scope lpos, kp⟩] pos) (lstO X.K (xs.mergeSort (dataLe false key))) := by
  refine ⟨fun pins s σ H Q I ⟨⟨H0, en⟩, q⟩ => ?_⟩
  refine wpAny_Call_Name_kw (ld_blt I hg hm boot_sorted ?_)
  refine PyProof.Rows.callWith_kw (thn ((as_one (P := (keysT X.K xs).r) h hs).run pos pins s σ H (fun vs H1 => Ex T H H1 ∧ AllP [(keysT X.K xs).r] vs H1) I ⟨⟨H0, en⟩, fun vs H1 x1 p1 => ⟨x1, p1⟩⟩) fun us s1 ⟨vs, H1, I1, r1, x1, p1⟩ => ?_) he hpl rfl rfl
  obtain ⟨v, e2, p2⟩ := allP1 p1
  subst e2
  obtain ⟨u, rfl, ru⟩ := r1.one
  refine thn ((pk_cons (e_lam (T := T) (R := R) (ρ := ρ) M L hdef) pk_nil).run pos pins s1 σ H1 (fun zs H2 => ∃ v, zs = [v] ∧ Ex T H1 H2 ∧ (lamP X params scope body).p v H2) I1 ⟨⟨H0, en.step x1⟩, fun v H2 x2 p2 => ⟨v, rfl, x2, p2⟩⟩) fun ws s2 ⟨zs, H2, I2, r2, z, e0, x2, f, c', e1, hf, hc⟩ => ?_
  subst e0 e1
  obtain ⟨d, es, ep, as, rfl, lo, h3, h4, h5⟩ := (keysT X.K xs).st _ _ _ x2.ez p2
  cases ru
  obtain ⟨u, rfl, ru⟩ := r2.one
  cases ru
  rw [hks]
  obtain ⟨hraw, _, _⟩ := I2.hok d _ h3
  have hn : es.size = xs.length := by
    have l1 := congrArg List.length h4
    have l2 := DpAll.len h5
    simp only [List.length_map, Array.length_toList] at l1 l2
    rw [l1, l2]
    simp [encs]
  have hS : sizeLine = 16777216 := sizeLine_eq
  refine call_function_entry_kw kind_sorted plain_sorted entry_sorted (args_sorted_key _ _) ?_
  unfold Builtin.«sorted»
  refine wpAny_bind (m := checkCount "sorted" 1 1 _) (wpAny_pure ?_)
  refine wpAny_bind (PySem.W.kdu_collect (A := X.A.in1) (kdlRaw lo) (I2.ok.hd hcl) hraw (by omega) fun h' tk acc hkp hacc => ?_)
  have hac := items_eq h4 hacc
  have I3 : Inv X pins σ H2 { s2 with heap := h', toks := tk } := I2.kept hkp
  have hal' : acc.toList.length ≤ sizeLine := by rw [Array.length_toList, hacc.1, hn]; omega
  refine wpAny_bind (wpAny_newList ?_ hal')
  have hoL : (h'.push (seqObj "list" acc.toList.toArray 0)).get? h'.objs.size = some (seqObj "list" acc.toList.toArray 0) := Heap.get?_push_size _ rfl
  refine wpAny_bind (wpAny_holding (wpAny_call_entry_kw slot_list_sort ⟨_, hoL, rfl⟩ entry_list_sort
    (wpAny_mono (sort_end (Q := Q) (Er := X.xe) I3 (((en.step x1).step x2)) L hr hk (fun b o e => Heap.get?_push_of_some _ e) hoL (Nat.le_refl _) (by rw [hac]; exact vals_refs as) h5 hL hf hc hal hsk hu hb ke fun v S H' hS' x3 p3 => q v S H' (fun a ha => (x1.trans x2).bk a (hS' a ha)) ((x1.trans x2).trans x3) p3)
      (fun fi s' hfi => ?_) fun _ _ e => e) (args_sort_key _ _)))
  obtain ⟨rfl, ep⟩ := hfi
  exact ⟨_, rfl, wpAny_pure ⟨_, rfl, ep⟩⟩
end
end Cf
set_option maxHeartbeats 4000000
/-! dict([(key, flag), ..]) with keys in tuples -/
namespace Cf
open PySem PySem.Spec PyProof.Rows L2 PySem.W

mutual
/-- data as a key -/
def nk : PyData → NestedKey
  | .none => .none
  | .bool b => .num (if b then 1 else 0)
  | .int i => .num i
  | .str x => .text x
  | .list _ => .none
  | .dict _ => .none
  | .tuple xs => .tup (nks xs)
def nks : List PyData → List NestedKey
  | [] => []
  | x :: xs => nk x :: nks xs
end
mutual
theorem nk_eqv : ∀ x y : PyData, noL x = true → noL y = true → nk x = nk y → PyData.eqv x y = true
  | .list _, _, hx, _, _ => Bool.noConfusion (show false = true from hx)
  | .dict _, _, hx, _, _ => Bool.noConfusion (show false = true from hx)
  | _, .list _, _, hy, _ => Bool.noConfusion (show false = true from hy)
  | _, .dict _, _, hy, _ => Bool.noConfusion (show false = true from hy)
  | .none, .none, _, _, _ => rfl
  | .none, .bool _, _, _, h => NestedKey.noConfusion (show NestedKey.none = .num _ from h)
  | .none, .int _, _, _, h => NestedKey.noConfusion (show NestedKey.none = .num _ from h)
  | .none, .str _, _, _, h => NestedKey.noConfusion (show NestedKey.none = .text _ from h)
  | .none, .tuple _, _, _, h => NestedKey.noConfusion (show NestedKey.none = .tup _ from h)
  | .bool _, .none, _, _, h => NestedKey.noConfusion (show NestedKey.num _ = .none from h)
  | .bool a, .bool b, _, _, h => by
    have h : NestedKey.num _ = NestedKey.num _ := h
    injection h with h
    cases a <;> cases b <;> first | rfl | (exact absurd h (by decide))
  | .bool a, .int j, _, _, h => by
    have h : NestedKey.num _ = NestedKey.num j := h
    injection h with h
    subst h
    cases a <;> rfl
  | .bool _, .str _, _, _, h => NestedKey.noConfusion (show NestedKey.num _ = .text _ from h)
  | .bool _, .tuple _, _, _, h => NestedKey.noConfusion (show NestedKey.num _ = .tup _ from h)
  | .int _, .none, _, _, h => NestedKey.noConfusion (show NestedKey.num _ = .none from h)
  | .int i, .bool b, _, _, h => by
    have h : NestedKey.num i = NestedKey.num _ := h
    injection h with h
    subst h
    cases b <;> rfl
  | .int i, .int j, _, _, h => by
    have h : NestedKey.num i = NestedKey.num j := h
    injection h with h
    subst h
    exact beq_self_eq_true i
  | .int _, .str _, _, _, h => NestedKey.noConfusion (show NestedKey.num _ = .text _ from h)
  | .int _, .tuple _, _, _, h => NestedKey.noConfusion (show NestedKey.num _ = .tup _ from h)
  | .str _, .none, _, _, h => NestedKey.noConfusion (show NestedKey.text _ = .none from h)
  | .str _, .bool _, _, _, h => NestedKey.noConfusion (show NestedKey.text _ = .num _ from h)
  | .str _, .int _, _, _, h => NestedKey.noConfusion (show NestedKey.text _ = .num _ from h)
  | .str x, .str y, _, _, h => by
    have h : NestedKey.text x = NestedKey.text y := h
    injection h with h
    subst h
    exact beq_self_eq_true x
  | .str _, .tuple _, _, _, h => NestedKey.noConfusion (show NestedKey.text _ = .tup _ from h)
  | .tuple _, .none, _, _, h => NestedKey.noConfusion (show NestedKey.tup _ = .none from h)
  | .tuple _, .bool _, _, _, h => NestedKey.noConfusion (show NestedKey.tup _ = .num _ from h)
  | .tuple _, .int _, _, _, h => NestedKey.noConfusion (show NestedKey.tup _ = .num _ from h)
  | .tuple _, .str _, _, _, h => NestedKey.noConfusion (show NestedKey.tup _ = .text _ from h)
  | .tuple xs, .tuple ys, hx, hy, h => by
    have h : NestedKey.tup (nks xs) = NestedKey.tup (nks ys) := h
    injection h with h
    exact nks_eqv xs ys hx hy h
theorem nks_eqv : ∀ xs ys : List PyData, noLs xs = true → noLs ys = true → nks xs = nks ys → PyData.eqvAll xs ys = true
  | [], [], _, _, _ => rfl
  | [], _ :: _, _, _, h => by cases h
  | _ :: _, [], _, _, h => by cases h
  | x :: xs, y :: ys, hx, hy, h => by
    have hx : (noL x && noLs xs) = true := hx
    have hy : (noL y && noLs ys) = true := hy
    rw [Bool.and_eq_true] at hx hy
    have h : nk x :: nks xs = nk y :: nks ys := h
    injection h with h1 h2
    show (PyData.eqv x y && PyData.eqvAll xs ys) = true
    rw [nk_eqv x y hx.1 hy.1 h1, nks_eqv xs ys hx.2 hy.2 h2]
    rfl
end
mutual
theorem nk_depth : ∀ x : PyData, (nk x).depth ≤ x.depth
  | .none => Nat.zero_le _
  | .bool _ => Nat.zero_le _
  | .int _ => Nat.zero_le _
  | .str _ => Nat.zero_le _
  | .list _ => Nat.zero_le _
  | .dict _ => Nat.zero_le _
  | .tuple xs => Nat.succ_le_succ (nks_depth xs)
theorem nks_depth : ∀ xs : List PyData, NestedKey.depthAll (nks xs) ≤ PyData.depthAll xs
  | [] => Nat.zero_le _
  | x :: xs => by
    show max (nk x).depth (NestedKey.depthAll (nks xs)) ≤ max x.depth (PyData.depthAll xs)
    have h1 := nk_depth x
    have h2 := nks_depth xs
    omega
end
section
variable {X : Cx} {pins : List (Addr × Obj)} {σ : L2.St} {H : Hp} {s : Shared}
mutual
theorem nk_is (I : Inv X pins σ H s) : ∀ (d : PyData) (v : V) (u : Value), noL d = true → Dp X.K H v d → L2.RelV v u → NestedIs s.heap (nk d) u
  | .none, _, _, _, h, r => by
    cases h
    cases r
    exact .none
  | .bool b, _, _, _, h, r => by
    cases h
    cases r
    exact .bool rfl
  | .int i, _, _, _, h, r => by
    cases h
    obtain ⟨t, rfl⟩ := r
    exact .int i t
  | .str x, _, _, _, h, r => by
    cases h
    obtain ⟨t, rfl⟩ := r
    exact .text x t
  | .list _, _, _, n, _, _ => by cases n
  | .dict _, _, _, n, _, _ => by cases n
  | .tuple ds, _, _, n, h, r => by
    cases h with
    | tup h1 h2 =>
      cases r
      obtain ⟨its, rv, ⟨o, z1, z2, m, z3⟩, z4⟩ := I.tuple h1
      exact .tup z1 z2 z3 (by simpa using nks_is I ds _ its n h2 rv)
theorem nks_is (I : Inv X pins σ H s) : ∀ (ds : List PyData) (vs : List V) (us : List Value), noLs ds = true → DpAll X.K H vs ds → Vals vs us → NestedAll s.heap (nks ds) us
  | [], _, _, _, h, r => by
    cases h
    cases r
    exact .nil
  | d :: ds, _, _, n, h, r => by
    have n : (noL d && noLs ds) = true := n
    rw [Bool.and_eq_true] at n
    cases h with
    | cons h1 h2 => cases r with
      | cons r1 r2 => exact .cons (nk_is I d _ _ n.1 h1 r1) (nks_is I ds _ _ n.2 h2 r2)
end
end
/-- each once, the first ones -/
def putU {α : Type} [DecidableEq α] (acc : List α) (x : α) : List α := if memb x acc then acc else acc ++ [x]
def uniq {α : Type} [DecidableEq α] (xs : List α) : List α := xs.foldl putU []
theorem nk_inj {α : Type} [DecidableEq α] [Enc α] {a b : α} (h : nk (enc a) = nk (enc b)) : a = b := by
  have h1 := nk_eqv (enc a) (enc b) (Enc.pure a) (Enc.pure b) h
  have h2 : PyData.eqv (enc a) (enc b) = decide (a = b) := Enc.eqv a b
  rw [h2] at h1
  exact of_decide_eq_true h1
section
variable {α : Type} [DecidableEq α] [Enc α] {K : PySem.W.Frag} {H : Hp}
/-- the entries stand for these -/
abbrev Ents (K : PySem.W.Frag) (H : Hp) (xs : List (NestedKey × Addr × Value)) (us : List α) : Prop := EachIs (fun x u => x.1 = nk (enc u) ∧ Dp K H (.ref x.2.1) (enc u)) xs us
theorem ents_find {xs : List (NestedKey × Addr × Value)} {us : List α} (h : Ents K H xs us) (u : α) : (atKey xs (nk (enc u))).isSome = memb u us := by
  unfold atKey
  rw [Option.isSome_map]
  induction h with
  | nil => rfl
  | @cons x w xs us h1 t ih =>
    rw [List.find?_cons]
    by_cases q : w = u
    · subst q
      rw [decide_eq_true h1.1]
      exact (memb_iff.mpr List.mem_cons_self).symm
    · have : x.1 ≠ nk (enc u) := fun z => q (nk_inj (h1.1.symm.trans z))
      rw [decide_eq_false this]
      refine Eq.trans ih ?_
      unfold memb
      rw [decide_eq_decide, List.mem_cons]
      exact ⟨.inr, fun z => z.resolve_left fun e => q e.symm⟩
theorem ents_map {k : NestedKey} {v : Value} : ∀ {xs : List (NestedKey × Addr × Value)} {us : List α}, Ents K H xs us → Ents K H (xs.map (putAt k v)) us
  | _, _, .nil => .nil
  | _, _, .cons h1 t => .cons (by unfold putAt; split <;> exact h1) (ents_map t)
theorem ents_snoc {x : NestedKey × Addr × Value} {u : α} (h1 : x.1 = nk (enc u) ∧ Dp K H (.ref x.2.1) (enc u)) : ∀ {xs : List (NestedKey × Addr × Value)} {us : List α}, Ents K H xs us → Ents K H (xs ++ [x]) (us ++ [u])
  | _, _, .nil => .cons h1 .nil
  | _, _, .cons h2 t => .cons h2 (ents_snoc h1 t)
theorem ents_put {xs : List (NestedKey × Addr × Value)} {us : List α} (h : Ents K H xs us) {a : Addr} {u : α} (v : Value) (hd : Dp K H (.ref a) (enc u)) : Ents K H (storedH xs (nk (enc u)) a v) (putU us u) := by
  unfold storedH putU
  rw [ents_find h u]
  split
  · exact ents_map h
  · exact ents_snoc ⟨rfl, hd⟩ h
theorem ents_all : ∀ {ps : List (NestedKey × Addr × Value)} {ws : List α} {xs : List (NestedKey × Addr × Value)} {us : List α}, Ents K H xs us → Ents K H ps ws → Ents K H (storedAllH xs ps) (ws.foldl putU us)
  | _, _, _, _, h, .nil => h
  | p :: ps, w :: ws, xs, us, h, .cons h1 t => by
    have h3 := ents_put h p.2.2 h1.2
    have e : storedAllH xs (p :: ps) = storedAllH (storedH xs (nk (enc w)) p.2.1 p.2.2) ps := by rw [← h1.1]; rfl
    rw [e]
    show Ents K H _ (ws.foldl putU (putU us w))
    exact ents_all h3 t
theorem ents_dps : ∀ {xs : List (NestedKey × Addr × Value)} {us : List α}, Ents K H xs us → DpAll K H ((xs.map (·.2.1)).map V.ref) (encs us)
  | _, _, .nil => .nil
  | _, _, .cons h1 t => .cons h1.2 (ents_dps t)
theorem ents_len {xs : List (NestedKey × Addr × Value)} {us : List α} (h : Ents K H xs us) : xs.length = us.length := EachIs.len h
end
section
variable {X : Cx} {pins : List (Addr × Obj)} {σ : L2.St} {H : Hp} {s : Shared} {β : Type} [DecidableEq β] [Enc β]
/-- pairs in a list: where they stand, what they hold -/
theorem pairs_in (I : Inv X pins σ H s) : ∀ {ws : List V} {us : List Value} (ps : List (List β × Bool)), DpAll X.K H ws (encs ps) → Vals ws us → ∃ (Tl : List Addr) (es : List (NestedKey × Addr × Value)), us = Tl.map Value.ref ∧ Tl.length = es.length ∧
    Ents X.K H es (ps.map (·.1)) ∧ (∀ x ∈ es, NestedIs s.heap x.1 (.ref x.2.1)) ∧ ∀ (j : Nat) (a : Addr) (x : NestedKey × Addr × Value), Tl[j]? = some a → es[j]? = some x → s.heap.IsTuple a #[.ref x.2.1, x.2.2]
  | _, _, [], h, r => by
    have h : DpAll X.K H _ [] := h
    cases h
    cases r
    exact ⟨[], [], rfl, rfl, .nil, fun x hx => absurd hx (by simp), fun j a x e => by simp at e⟩
  | _, _, p :: ps, h, r => by
    have h : DpAll X.K H _ (enc p :: encs ps) := h
    cases h with
    | cons h1 h2 => cases r with
      | cons r1 r2 =>
        obtain ⟨Tl, es, e1, e2, e3, e4, e5⟩ := pairs_in I ps h2 r2
        obtain ⟨a, x, y, rfl, q1, q2, q3⟩ := is_pair.mp (show (is X.K p).p _ H from h1)
        cases r1
        obtain ⟨b, zs, rfl, g1, g2⟩ := is_list.mp q2
        obtain ⟨its, rv, tp, _⟩ := I.tuple q1
        cases rv with
        | cons c1 c2 => cases c2 with
          | cons c3 c4 =>
            cases c4
            cases c1
            rename_i yv
            refine ⟨a :: Tl, (nk (enc p.1), b, yv) :: es, by rw [e1]; rfl, by simp [e2], .cons ⟨rfl, q2⟩ e3, fun x hx => ?_, fun j a' x ea ex => ?_⟩
            · rcases List.mem_cons.mp hx with z | z
              · subst z
                exact nk_is I (enc p.1) (.ref b) (.ref b) (Enc.pure p.1) q2 rfl
              · exact e4 x z
            · cases j with
              | zero =>
                simp at ea ex
                subst ea ex
                exact tp
              | succ j => exact e5 j a' x (by simpa using ea) (by simpa using ex)
/-- dict(l), l a list of pairs (key, flag) -/
def rDictN (K : PySem.W.Frag) (ps : List (List β × Bool)) : List V → Hp → VK → Prop := fun vs H Q => ∃ l ws, vs = [.ref l] ∧ H l = some (.lst ws) ∧ DpAll K H ws (encs ps) ∧
  ∀ (d : Addr) (es : Array DictEntry) (ep : Nat) (as : List Addr), H d = none → (d == sysModules) = false → es.toList.map (·.key) = as.map Value.ref → DpAll K H (as.map V.ref) (encs (uniq (ps.map (·.1)))) → Q (.ref d) (upd H d (DRaw d es ep))
theorem cr_dictN {ps : List (List β × Bool)} (hcl : X.calm = true) (hun : X.A.units + 40 < cLine) (hl : ps.length ≤ 1000000) (hde : Enc.dep (List β) ≤ 8) : CallR X (.type "dict") (rDictN X.K ps) := by
  intro pins s σ H xs us Q I r q
  obtain ⟨l, ws, rfl, h1, h2, q⟩ := q
  obtain ⟨u, rfl, ru⟩ := vals1 r
  cases ru
  obtain ⟨hz, its, n, rv, hll, hp⟩ := I.lstM h1
  obtain ⟨Tl, es, e1, e2, e3, e4, e5⟩ := pairs_in I ps h2 rv
  subst e1
  have hes : es.length = ps.length := by rw [ents_len e3, List.length_map]
  have hS : sizeLine = 16777216 := sizeLine_eq
  have hd8 : ∀ x ∈ es, x.1.depth ≤ 8 := by
    have : ∀ (es : List (NestedKey × Addr × Value)) (us : List (List β)), Ents X.K H es us → ∀ x ∈ es, x.1.depth ≤ 8 := fun es us hh => by
      induction hh with
      | nil => intro x hx; simp at hx
      | @cons y w ys ws' g1 g2 ih =>
        intro x hx
        rcases List.mem_cons.mp hx with z | z
        · subst z
          rw [g1.1]
          exact Nat.le_trans (nk_depth _) (Nat.le_trans (Enc.depth w) hde)
        · exact ih x z
    exact this es _ e3
  have PA := PySem.PairArg.list (prog := X.prog) (w := X.w) l (Tl.map Value.ref).toArray (fun j => Tl.getD j 0) (es.map fun x => (Value.ref x.2.1, x.2.2))
  refine PySem.call_dict_pairsH (knd := nestedKind X.prog X.w) (ps := es) (A := X.A) PA (I.ok.hd hcl) (show X.A.units + 1 + 1 + 8 < cLine by omega) ⟨⟨_, n, hp, rfl, rfl, rfl⟩, ?_, fun j k v hj => ?_⟩ ⟨by simp, fun i key v hr => ?_⟩ (fun h' hk x hx => ?_) (by simp; omega) fun h' tk hd' hk => ?_
  · simp [e2]
  · rw [List.getElem?_map] at hj
    cases qx : es[j]? with
    | none => rw [qx] at hj; cases hj
    | some x =>
      rw [qx] at hj
      cases hj
      have hjl : j < Tl.length := by
        rw [e2]
        exact (List.getElem?_eq_some_iff.mp qx).1
      have et : Tl[j]? = some Tl[j] := List.getElem?_eq_getElem hjl
      refine ⟨?_, .inl ?_⟩
      · simp [List.getD_eq_getElem?_getD, et]
      · show s.heap.IsTuple (Tl.getD j 0) _
        rw [List.getD_eq_getElem?_getD, et]
        exact e5 j _ x et qx
  · have hr : (es.map fun x => (Value.ref x.2.1, x.2.2))[i]? = some (key, v) := hr
    rw [List.getElem?_map] at hr
    cases qx : es[i]? with
    | none => rw [qx] at hr; cases hr
    | some x =>
      rw [qx] at hr
      cases hr
      exact ⟨x.1, x.2.1, rfl, rfl⟩
  · refine ⟨NestedIs.at (fun b o vs m eb _ => ?_) _ _ (e4 x hx), hd8 x hx⟩
    refine hk b o (Nat.ne_of_lt (Heap.lt_size eb)) (by simp) eb
  · obtain ⟨o, des, ep, ho, hc, hdat, hde', his, hnd⟩ := hd'
    have e6 := ents_all (.nil : Ents X.K H [] ([] : List (List β))) e3
    have hm : (s.heap.objs.size == sysModules) = false := beq_eq_false_iff_ne.mpr (Nat.ne_of_gt I.big)
    refine ⟨.ref s.heap.objs.size, upd H s.heap.objs.size (DRaw s.heap.objs.size des ep), I.laid (t' := tk) (fun b o e => hk b o (by simp) e) (Nat.le_refl _) ⟨⟨o, ho, hc, hdat⟩, ⟨o, ho⟩, fun h1 h2 ⟨o, g1, g2⟩ st => ⟨o, st _ g1, g2⟩⟩, rfl, q _ des ep ((storedAllH [] es).map (·.2.1)) (I.hok.fresh (Nat.le_refl _)) hm ?_ (ents_dps e6)⟩
    rw [hde']
    simp [entryOfKey]
variable {T : Tb} {R : Hp} {ρ : List AV} {e : Expr} {p pos : Pos}
theorem e_dictN {ps : List (List β × Bool)} (h : E T R X ρ e (lstX X.K ps).p) (hm : X.mg "dict" = none) (hl : ps.length ≤ 1000000) (hde : Enc.dep (List β) ≤ 8) (hun : X.A.units + 40 < cLine) (hcl : X.calm = true := by rfl)
    (hs : starEach [e] X.env = (false, eval e X.env) :: starEach [] X.env := by rfl) (hg : Gl X "dict" := by rfl) (hpl : (backTo pos (starEach [] X.env)).any (·.1) = false := by rfl) : E T R X ρ (.Call (.Name "dict" p) [e] [] pos) (keysT X.K (uniq (ps.map (·.1)))).p :=
  e_callT (cr_dictN hcl hun hl hde) hm (by decide +kernel) (as_one h hs) (fun vs H Q _ hp k => by
    obtain ⟨v, rfl, l, ws, rfl, h1, h2⟩ := allP1 hp
    refine ⟨l, ws, rfl, h1, h2, fun d es ep as hd hm he hk => k _ _ (Ex.new hd) ⟨d, es, ep, as, rfl, hm, upd_same, he, ?_⟩⟩
    exact dps_ez (Ex.new (T := T) hd).ez _ _ (encs_pure _) hk) hg (by decide) (by decide) hs hpl
end
end Cf
set_option maxHeartbeats 4000000
/-! tuples whose methods are called -/
namespace Cf
open PySem PySem.Spec PyProof.Rows L2 PySem.W

section
variable (K : PySem.W.Frag) {α : Type} [DecidableEq α] [Enc α]
/-- a tuple known to its object -/
def isX (xs : List α) : TP where
  p := fun v H => ∃ (a : Addr) (vs : List V) (o : Obj), v = .ref a ∧ H a = some (.frz o (.tup vs)) ∧ o.dict = none ∧ DpAll K H vs (encs xs)
  st := fun v H H' e ⟨a, vs, o, h1, h2, h3, h4⟩ => ⟨a, vs, o, h1, e _ _ h2 rfl, h3, dps_ez e _ _ (encs_pure xs) h4⟩
end
section
variable {K : PySem.W.Frag} {α : Type} [DecidableEq α] [Enc α]
theorem is_of_X {xs : List α} {v : V} {H : Hp} (h : (isX K xs).p v H) : (is K xs).p v H := by
  obtain ⟨a, vs, o, h1, h2, _, h4⟩ := h
  exact is_list.mpr ⟨a, vs, h1, .inl (.inr ⟨o, h2⟩), h4⟩
end
section
variable {T : Tb} {R : Hp} {X : Cx} {ρ : List AV} {e a b : Expr} {es : List Expr} {pos apos cpos : Pos}
variable {α : Type} [DecidableEq α] [Enc α]
theorem e_ofX {xs : List α} (h : E T R X ρ e (isX X.K xs).p) : E T R X ρ e (is X.K xs).p := e_imp h fun _ _ _ p => is_of_X p
/-- what a tuple's method does -/
def tTM (r : V → List V → Hp → VK → Prop) (to : TE) (t : TA) : TE := fun σ H Q => to σ H fun x H1 => (∃ (p : Addr) (vs : List V) (o : Obj), x = .ref p ∧ H1 p = some (.frz o (.tup vs)) ∧ o.dict = none) ∧ t σ H1 fun xs H2 => r x xs H2 Q
theorem pe_tm {o e : Expr} {to : TE} {t : TA} {name : Str} {id : String} {r : V → List V → Hp → VK → Prop} (slot : Slot "tuple" name id) (hty : typeOf (.builtin id) = pure (.type "method_descriptor")) (hm : MtR X id r) (ho : PE X o to) (ha : PA X (e :: es) t)
    (hbase : attributeBase o name X.env (eval o X.env) = eval o X.env := by rfl)
    (hfew : ((backTo cpos (starEach (e :: es) X.env)).all (fun x => !x.1) && (backToKw cpos (keywordEach [] X.env)).all (fun x => x.1.isSome) && decide ((e :: es).length + ([] : List Keyword).length + (if ([] : List Keyword).isEmpty then 0 else 1) < 30)) = true := by rfl)
    (hline : (apos.endLine == cpos.line) = true := by rfl) (hs : starEach (e :: es) X.env = (false, eval e X.env) :: starEach es X.env := by rfl) (hplain : (backTo cpos (starEach es X.env)).any (·.1) = false := by rfl) :
    PE X (.Call (.Attribute o name apos) (e :: es) [] cpos) (tTM r to t) := by
  refine ⟨fun pins s σ H Q I h => wpAny_Call_method_late hbase hfew hline rfl (thn (ho.run pins s σ H _ I h) fun v s1 ⟨x, H1, I1, r1, ⟨p, vs, ob, e0, h2, h3⟩, q1⟩ => ?_)⟩
  subst e0
  cases r1
  obtain ⟨g1, g2⟩ := I1.hok p _ h2
  obtain ⟨_, _, _, o2, g3, g4, _⟩ := g2
  rw [g1] at g3
  cases g3
  refine ⟨"tuple", id, PySem.F.plainAttrs_tuple, slot, hty, ⟨_, g1, g4⟩, fun a ea => ?_, ?_⟩
  · cases ea
    exact ⟨_, g1, h3⟩
  · have hA := ha.run cpos pins s1 σ H1 _ I1 q1
    rw [hs] at hA ⊢
    refine Calls.callWith_builtin (by show (false || (backTo cpos (starEach es X.env)).any (·.1)) = false; rw [hplain] <;> rfl) (Calls.evalArgs_plain ?_)
    exact thn hA fun us s2 ⟨vs, H2, I2, r2, q2⟩ => hm pins s2 σ H2 (.ref p) vs (.ref p) us Q I2 rfl r2 q2
theorem dps_strs {K : PySem.W.Frag} {H : Hp} : ∀ {vs : List V} {xs : List Nm}, DpAll K H vs (encs xs) → vs = (xs.map (·.1)).map V.str
  | _, [], h => by
    have h : DpAll K H _ [] := h
    cases h
    rfl
  | _, x :: xs, h => by
    have h : DpAll K H _ (PyData.str x.1 :: encs xs) := h
    cases h with
    | cons h1 h2 =>
      cases h1
      rw [dps_strs h2]
      rfl
/-- the first place of y -/
def ixOf {α : Type} [DecidableEq α] (y : α) : List α → Nat
  | [] => 0
  | x :: xs => if x = y then 0 else ixOf y xs + 1
theorem idx_first {α : Type} [DecidableEq α] {y : α} : ∀ {xs : List α}, y ∈ xs → xs[ixOf y xs]? = some y ∧ ∀ m, m < ixOf y xs → xs[m]? ≠ some y
  | [], h => by cases h
  | x :: xs, h => by
    unfold ixOf
    by_cases q : x = y
    · rw [if_pos q]
      exact ⟨by rw [q]; rfl, fun m hm => absurd hm (Nat.not_lt_zero m)⟩
    · rw [if_neg q]
      obtain ⟨h1, h2⟩ := idx_first ((List.mem_cons.mp h).resolve_left fun e => q e.symm)
      refine ⟨by simpa using h1, fun m hm e => ?_⟩
      cases m with
      | zero =>
        simp at e
        exact q e
      | succ m => exact h2 m (by omega) (by simpa using e)
/-- t.index(x), x within -/
theorem e_index {xs : List Nm} {y : Nm} (h : E T R X ρ a (isX X.K xs).p) (h' : E T R X ρ b (is X.K y).p) (hy : y ∈ xs)
    (hbase : attributeBase a "index" X.env (eval a X.env) = eval a X.env := by rfl)
    (hfew : ((backTo cpos (starEach [b] X.env)).all (fun x => !x.1) && (backToKw cpos (keywordEach [] X.env)).all (fun x => x.1.isSome) && decide (([b] : List Expr).length + ([] : List Keyword).length + (if ([] : List Keyword).isEmpty then 0 else 1) < 30)) = true := by rfl)
    (hline : (apos.endLine == cpos.line) = true := by rfl) (hs : starEach [b] X.env = (false, eval b X.env) :: starEach [] X.env := by rfl) (hplain : (backTo cpos (starEach [] X.env)).any (·.1) = false := by rfl) :
    E T R X ρ (.Call (.Attribute a "index" apos) [b] [] cpos) (is X.K ((ixOf y xs : Nat) : Int)).p :=
  e_of (pe_tm PySem.F.slot_tuple_index PySem.F.type_tuple_index mt_tup_index h (as_one (P := (is X.K y).r) h' hs) hbase hfew hline hs hplain) fun σ H H0 Q en q => ⟨⟨H0, en⟩, fun v H1 x1 ⟨p, vs, o, e0, h1, h2, h3⟩ => ⟨⟨p, vs, o, e0, h1, h2⟩, ⟨H0, en.step x1⟩, fun us H2 x2 p2 => by
    obtain ⟨u, rfl, hu⟩ := allP1 p2
    have e3 := dps_strs h3
    subst e3
    obtain ⟨g1, g2⟩ := idx_first hy
    refine ⟨p, xs.map (·.1), y.1, ixOf y xs, e0, by rw [is_nm.mp hu], .inl (.inr ⟨o, x2.ext p _ h1 fun ps z => by cases z⟩), by rw [List.getElem?_map, g1]; rfl, fun m hm e => g2 m hm ?_, q _ _ (x1.trans x2) (is_int.mpr rfl)⟩
    rw [List.getElem?_map] at e
    cases q2 : xs[m]? with
    | none => rw [q2] at e; cases e
    | some z =>
      rw [q2] at e
      have e4 : z.1 = y.1 := Option.some.inj e
      rw [Subtype.ext e4]⟩⟩
/-- (x, y, ..) of any data -/
theorem e_tupX {ds : List PyData} {Ps : List RP} (h : As T R X ρ es Ps) (hl : Ps.length ≤ 1000) (k : ∀ vs H, AllP Ps vs H → DpAll X.K H vs ds) {kk : Nat} : E T R X ρ (.Tuple es kk pos) (fun v H => Dp X.K H v (.tuple ds)) :=
  e_of (pe_tup h) fun σ H H0 Q en q => ⟨⟨H0, en⟩, fun vs H1 x1 p1 => by
    refine ⟨?_, fun p hp' => q _ _ (x1.trans (Ex.new hp')) (.tup (SqT.of upd_same) (dps_ext (Ex.new (T := T) hp').ext _ _ (k vs H1 p1)))⟩
    have : sizeLine = 16777216 := sizeLine_eq
    rw [allP_len p1]
    omega⟩
/-! ### such tuples made -/
def tTupS (t : TA) : TE := fun σ H Q => t σ H fun xs H1 => xs.length ≤ sizeLine ∧ ∀ p o, H1 p = none → o.dict = none → Q (.ref p) (upd H1 p (.frz o (.tup xs)))
theorem pe_tupS {t : TA} {x1 : Nat} (h : PA X es t) : PE X (.Tuple es x1 pos) (tTupS t) :=
  ⟨fun pins s σ H Q I hq => wpAny_Tuple_spliced (thn (h.run pos pins s σ H _ I hq) fun us s1 ⟨xs, H1, I1, r, z, q⟩ => ⟨by rw [← r.length]; exact z, by
    have hf : H1 s1.heap.objs.size = none := I1.hok.fresh (Nat.le_refl _)
    have ho := Heap.get?_push_size s1.heap (o := { cls := .type "tuple", data := .seq us.toArray }) rfl
    exact ⟨.ref s1.heap.objs.size, upd H1 s1.heap.objs.size (.frz { cls := .type "tuple", data := .seq us.toArray } (.tup xs)), I1.laid (t' := s1.toks) (fun b u e => Heap.get?_push_of_some _ e) (Nat.le_refl _) (show _ ∧ _ from ⟨ho, z, us, r, _, ho, rfl, _, rfl⟩), rfl, q _ _ hf rfl⟩⟩)⟩
/-- arguments: values and what is told of all of them -/
structure Sp1 (T : Tb) (R : Hp) (X : Cx) (ρ : List AV) (es : List Expr) (ds : List PyData) : Prop where
  pa : PA X es (fun σ H Q => (∃ H0, En T R H0 ρ σ H) ∧ ∀ vs H', Ex T H H' → DpAll X.K H' vs ds → Q vs H')
  pu : noLs ds = true
theorem sp_nil : Sp1 T R X ρ [] [] := ⟨⟨fun pos pins s σ H Q I ⟨_, q⟩ => pa_nil.run pos pins s σ H Q I (q [] H (Ex.refl H) .nil)⟩, rfl⟩
theorem sp_one {d : PyData} {ds : List PyData} (h : E T R X ρ e (fun v H => Dp X.K H v d)) (hd : noL d = true) (t : Sp1 T R X ρ es ds) (hs : starEach (e :: es) X.env = (false, eval e X.env) :: starEach es X.env := by rfl) : Sp1 T R X ρ (e :: es) (d :: ds) := by
  refine ⟨⟨fun pos pins s σ H Q I ⟨⟨H0, en⟩, q⟩ => (pa_cons h t.pa hs).run pos pins s σ H Q I ⟨⟨H0, en⟩, fun v H1 x1 p1 => ⟨⟨H0, en.step x1⟩, fun vs H2 x2 p2 => q _ H2 (x1.trans x2) (.cons (dp_ez x2.ez _ _ hd p1) p2)⟩⟩⟩, ?_⟩
  show (noL d && noLs ds) = true
  rw [hd, t.pu]
  rfl
theorem noLs_app : ∀ ds es : List PyData, noLs ds = true → noLs es = true → noLs (ds ++ es) = true
  | [], _, _, h => h
  | d :: ds, es, h, h' => by
    have h : (noL d && noLs ds) = true := h
    rw [Bool.and_eq_true] at h
    show (noL d && noLs (ds ++ es)) = true
    rw [h.1, noLs_app ds es h.2 h']
    rfl
theorem sp_star {xs : List α} {ds : List PyData} {p : Pos} (h : E T R X ρ e (is X.K xs).p) (t : Sp1 T R X ρ es ds) (hs : starEach (.Starred e p :: es) X.env = (true, eval e X.env) :: starEach es X.env := by rfl) : Sp1 T R X ρ (.Starred e p :: es) (encs xs ++ ds) := by
  refine ⟨⟨fun pos pins s σ H Q I ⟨⟨H0, en⟩, q⟩ => (StX.pa_star h t.pa hs).run pos pins s σ H Q I ⟨⟨H0, en⟩, fun v H1 x1 p1 => ?_⟩⟩, noLs_app _ _ (encs_pure xs) t.pu⟩
  obtain ⟨a, vs, rfl, h1, h2⟩ := is_list.mp p1
  exact ⟨a, vs, rfl, .inl h1, ⟨H0, en.step x1⟩, fun ws H2 x2 p2 => q _ H2 (x1.trans x2) (DpAll.app (dps_ez x2.ez _ _ (encs_pure xs) h2) p2)⟩
theorem e_tupS {xs : List α} {kk : Nat} (h : Sp1 T R X ρ es (encs xs)) (hl : xs.length ≤ 1000) : E T R X ρ (.Tuple es kk pos) (isX X.K xs).p :=
  e_of (pe_tupS h.pa) fun σ H H0 Q en q => ⟨⟨H0, en⟩, fun vs H1 x1 p1 => by
    refine ⟨?_, fun p o hp ho => q _ _ (x1.trans (Ex.new hp)) ⟨p, vs, o, rfl, upd_same, ho, dps_ez (Ex.new (T := T) hp).ez _ _ (encs_pure xs) p1⟩⟩
    have : sizeLine = 16777216 := sizeLine_eq
    rw [DpAll.len p1]
    unfold encs
    rw [List.length_map]
    omega⟩
/-- tuple(l), l a list -/
theorem cr_tupS : CallR X (.type "tuple") (fun xs H Q => ∃ p ys, xs = [.ref p] ∧ SqL X.K H p ys ∧ ∀ l o, H l = none → o.dict = none → Q (.ref l) (upd H l (.frz o (.tup ys)))) := by
  intro pins s σ H xs us Q I r h
  obtain ⟨p, ys, rfl, hq, q⟩ := h
  obtain ⟨u, rfl, rx⟩ := vals1 r
  cases rx
  obtain ⟨its, r', pl, hz⟩ := I.list hq
  have hlen := r'.length
  refine call_tuple_list pl.isList (fun h' kp => ?_) (by simp only [List.size_toArray] <;> omega)
  have I1 : Inv X pins σ H { s with heap := h' } := I.kept (t' := s.toks) kp
  have ho := Heap.get?_push_size h' (o := { cls := .type "tuple", data := .seq its.toArray }) rfl
  exact ⟨.ref h'.objs.size, upd H h'.objs.size (.frz { cls := .type "tuple", data := .seq its.toArray } (.tup ys)), I1.laid (t' := s.toks) (fun b o e => Heap.get?_push_of_some _ e) (Nat.le_refl _) (show _ ∧ _ from ⟨ho, hz, its, r', _, ho, rfl, _, rfl⟩), rfl, q _ _ (I1.hok.fresh (Nat.le_refl _)) rfl⟩
theorem e_tupleX {xs : List α} {p : Pos} (h : E T R X ρ e (lstR X.K xs).p) (hm : X.mg "tuple" = none) (hs : starEach [e] X.env = (false, eval e X.env) :: starEach [] X.env := by rfl) (hg : Gl X "tuple" := by rfl) (hpl : (backTo pos (starEach [] X.env)).any (·.1) = false := by rfl) : E T R X ρ (.Call (.Name "tuple" p) [e] [] pos) (isX X.K xs).p :=
  e_callT cr_tupS hm (by decide +kernel) (as_one h hs) (fun vs H Q _ hp k => by
    obtain ⟨v, rfl, l, ws, rfl, h1, h2⟩ := allP1 hp
    exact ⟨l, ws, rfl, h1, fun q o hq ho => k _ _ (Ex.new hq) ⟨q, ws, o, rfl, upd_same, ho, dps_ez (Ex.new (T := T) hq).ez _ _ (encs_pure xs) h2⟩⟩) hg (by decide) (by decide) hs hpl
/-- tuple(t), t such a tuple -/
theorem e_tupleXX {xs : List α} {p : Pos} (h : E T R X ρ e (isX X.K xs).p) (hm : X.mg "tuple" = none) (hs : starEach [e] X.env = (false, eval e X.env) :: starEach [] X.env := by rfl) (hg : Gl X "tuple" := by rfl) (hpl : (backTo pos (starEach [] X.env)).any (·.1) = false := by rfl) : E T R X ρ (.Call (.Name "tuple" p) [e] [] pos) (isX X.K xs).p :=
  e_callT call_tuple_of hm (by decide +kernel) (as_one (P := (isX X.K xs).r) h hs) (fun vs H Q _ hp k => by
    obtain ⟨v, rfl, a, ws, o, rfl, h1, h2, h3⟩ := allP1 hp
    exact ⟨a, ws, rfl, .inr ⟨.inl (.inr ⟨o, h1⟩), k _ H (Ex.refl H) ⟨a, ws, o, rfl, h1, h2, h3⟩⟩⟩) hg (by decide) (by decide) hs hpl
end
end Cf
set_option maxHeartbeats 4000000
/-! defs that make a lambda -/
namespace Cf
open PySem PySem.Spec PyProof.Rows L2 PySem.W
/-- the lambda's long name -/
def lamQ (x : Str) : Str := (x ++ ".<locals>.") ++ "<lambda>"
structure FdefL (K : PySem.W.Frag) (mg : Str → Option Value) (base : Heap) (T : Tb) (x : Str) (st : Stmt) : Prop where
  ex : ∃ f fd c Pt, FunD K x x (defArgs st) (defBody st) (defScope st) [] [] f fd ∧ mg x = some (.ref f) ∧ fd.code = .ref c ∧ LamX.TabB base mg c Pt ∧ (Pt, lamQ x) ∈ T ∧ ∀ p ∈ T, p.1 = Pt → p.2 = lamQ x
section
variable {P : Program} {w : World} {K : PySem.W.Frag} {mg : Str → Option Value} {base : Heap} {T : Tb}
theorem cal_ofL {ζ : Type} {Ps : ζ → List RP} {φ : ζ → Prop} {Pf : ζ → Hp → V → Hp → Prop} {x : Str} {st : Stmt} {N ps : List Str} {k : Nat} (F : FdefL K mg base T x st) (S : FnScope N ps (defScope st)) (hlen : ∀ z, (Ps z).length = ps.length)
    (hb : ∀ (kV doc pm : Value) (an : Option Addr) (cdv ct : Value) (us : List Value), us.length = ps.length → bindArgs (PySem.W.fnOf x x (defArgs st) (defBody st) (defScope st) .none kV doc pm an cdv ct) ⟨us, []⟩ = pure (ps.zip us))
    (body : ∀ z f cdv A outer s H E, φ z → Room k (A.deeper (envOfC x (defScope st) s.heap.objs.size f cdv)) → Mk T (Bx P w K mg base N x st f cdv A outer s H E) → Ss T H (Bx P w K mg base N x st f cdv A outer s H E) (ent (N.length - ps.length) (Ps z)) (defBody st) { rt := Pf z H, nx := fun H0 σ H' => Ex T H H' ∧ Pf z H .non H' }) :
    Cal P w K mg base (k + 1) x (spF T Ps φ Pf) := by
  obtain ⟨f, fd, c, Pt, F, hm, hc, TB, hp, hu⟩ := F.ex
  have bn := F.bindsN hb
  have kp := F.kp
  obtain ⟨oc, od, dV, kV, doc, pm, an, cdv, ct, osl, rfl, lk, hcd, _, _⟩ := F.ex
  have hc : cdv = .ref c := hc
  subst hc
  have hle : ps.length ≤ N.length := by
    have := congrArg List.length S.pre
    rw [List.length_take] at this
    omega
  refine ⟨f, _, ps, fn_of lk hcd S (fun vs H Q E ⟨z, _, h, _⟩ => (allP_len h).trans (hlen z)) (fun A outer s H vs Q E hr ⟨z, hz, h, hT, q⟩ => ?_), hm, kp, bn⟩
  refine ⟨_, (body z f (.ref c) A outer s H E hz hr ⟨c, Pt, TB, rfl, hp, hu⟩).nox, H, ?_, fun σ' H' h => q _ H' h.1 h.2, fun v H' x p => q v H' x p, fun _ _ z => z.elim, fun _ _ z => z.elim⟩
  rw [← hlen z]
  exact en_start hT h (by rw [hlen z]; exact hle)
end
end Cf
set_option maxHeartbeats 4000000
/-! shorter ways: y = [.. for x in ..] -/
namespace Cf
open PySem PySem.Spec PyProof.Rows L2 PySem.W
section
variable {T : Tb} {R : Hp} {X : Cx} {ρ : List AV} {Eo : Po} {α β : Type} [DecidableEq β] [Enc β]
theorem s_lcF {xs : List α} {gt : α → TP} {elt iter c : Expr} {x y : Str} {xp py pos spos : Pos} {scope : Scope} (yi i : Nat) (own : List (Str × Nat)) (p : α → Bool) (f : α → β)
    (hw : W T R X ρ (.Name x xp) iter False (xs.map gt)) (hN : X.N.Nodup) (ok : BlkOk X.N X.env.scope scope own) (hl : xs.length ≤ 1000000)
    (pg : ∀ s H C cl fp, PG (Blk X scope s H C cl fp) (.Name x xp) (gName i))
    (ht : ∀ s H C cl fp, ∀ a ∈ xs, B T R (Blk X scope s H C cl fp) ((wipeA ρ (own.map (·.2))).set i (.t (gt a))) c (p a))
    (he : ∀ s H C cl fp, ∀ a ∈ xs, p a = true → E T R (Blk X scope s H C cl fp) ((wipeA ρ (own.map (·.2))).set i (.t (gt a))) elt (is X.K (f a)).p)
    (kn : ∀ H0 σ H, En T R H0 (ρ.set yi (.o (lstO X.K ((xs.filter p).map f)))) σ H → Eo.nx H0 σ H)
    (hj : ∀ j ∈ [i], j ∈ own.map (·.2) := by decide) (hy : X.N[yi]? = some y := by rfl) (hyl : X.env.scope.names.lookup y = some .local := by rfl) (hsw : swapsWith (.ListComp elt [⟨.Name x xp, iter, [c], 0⟩] scope pos) (some (.Name y py)) spos.line X.env = pure true := by exact sw_true rfl rfl rfl (by decide +kernel))
    (hc : X.calm = true := by rfl) (hs : ∀ x, foldedSetIterable iter X.env x = pure x := by intro _; rfl) : S T R X ρ (.Assign [.Name y py] (.ListComp elt [⟨.Name x xp, iter, [c], 0⟩] scope pos) spos) Eo :=
  s_lcP yi own (fun a => (wipeA ρ (own.map (·.2))).set i (.t (gt a))) p f hw hN ok hj hl (fun _ _ => tg_name) pg (fun s H C cl fp => ts_one (ht s H C cl fp)) (fun s H C cl fp => te_of (X' := Blk X scope s H C cl fp) (he s H C cl fp)) kn hy hyl hsw hc hs
theorem s_lcM {xs : List α} {gt : α → TP} {elt iter : Expr} {x y : Str} {xp py pos spos : Pos} {scope : Scope} (yi i : Nat) (own : List (Str × Nat)) (f : α → β)
    (hw : W T R X ρ (.Name x xp) iter False (xs.map gt)) (hN : X.N.Nodup) (ok : BlkOk X.N X.env.scope scope own) (hl : xs.length ≤ 1000000)
    (pg : ∀ s H C cl fp, PG (Blk X scope s H C cl fp) (.Name x xp) (gName i))
    (he : ∀ s H C cl fp, ∀ a ∈ xs, E T R (Blk X scope s H C cl fp) ((wipeA ρ (own.map (·.2))).set i (.t (gt a))) elt (is X.K (f a)).p)
    (kn : ∀ H0 σ H, En T R H0 (ρ.set yi (.o (lstO X.K (xs.map f)))) σ H → Eo.nx H0 σ H)
    (hj : ∀ j ∈ [i], j ∈ own.map (·.2) := by decide) (hy : X.N[yi]? = some y := by rfl) (hyl : X.env.scope.names.lookup y = some .local := by rfl) (hsw : swapsWith (.ListComp elt [⟨.Name x xp, iter, [], 0⟩] scope pos) (some (.Name y py)) spos.line X.env = pure true := by exact sw_true rfl rfl rfl (by decide +kernel))
    (hc : X.calm = true := by rfl) (hs : ∀ x, foldedSetIterable iter X.env x = pure x := by intro _; rfl) : S T R X ρ (.Assign [.Name y py] (.ListComp elt [⟨.Name x xp, iter, [], 0⟩] scope pos) spos) Eo :=
  s_lcP yi own (fun a => (wipeA ρ (own.map (·.2))).set i (.t (gt a))) (fun _ => true) f hw hN ok hj hl (fun _ _ => tg_name) pg (fun s H C cl fp => ts_nil) (fun s H C cl fp => te_of (X' := Blk X scope s H C cl fp) fun a ha _ => he s H C cl fp a ha) (by rwa [List.filter_eq_self.mpr (fun _ _ => rfl)]) hy hyl hsw hc hs
/-- the same, y a cell -/
theorem s_lcFc {xs : List α} {gt : α → TP} {elt iter c : Expr} {x y : Str} {xp py pos spos : Pos} {scope : Scope} (yi i : Nat) (own : List (Str × Nat)) (p : α → Bool) (f : α → β)
    (hw : W T R X ρ (.Name x xp) iter False (xs.map gt)) (hN : X.N.Nodup) (ok : BlkOk X.N X.env.scope scope own) (hl : xs.length ≤ 1000000)
    (pg : ∀ s H C cl fp, PG (Blk X scope s H C cl fp) (.Name x xp) (gName i))
    (ht : ∀ s H C cl fp, ∀ a ∈ xs, B T R (Blk X scope s H C cl fp) ((wipeA ρ (own.map (·.2))).set i (.t (gt a))) c (p a))
    (he : ∀ s H C cl fp, ∀ a ∈ xs, p a = true → E T R (Blk X scope s H C cl fp) ((wipeA ρ (own.map (·.2))).set i (.t (gt a))) elt (is X.K (f a)).p)
    (kn : ∀ H0 σ H, En T R H0 (ρ.set yi (.o (lstO X.K ((xs.filter p).map f)))) σ H → Eo.nx H0 σ H)
    (hj : ∀ j ∈ [i], j ∈ own.map (·.2) := by decide) (hy : X.N[yi]? = some y := by rfl) (hyl : Loc X.env.scope y := by exact Or.inr rfl) (hsw : swapsWith (.ListComp elt [⟨.Name x xp, iter, [c], 0⟩] scope pos) (some (.Name y py)) spos.line X.env = pure false := by rfl)
    (hf : X.fn y = true ∨ X.env.scope.names.lookup y = some .local := by first | exact .inl rfl | exact .inr rfl)
    (hc : X.calm = true := by rfl) (hs : ∀ x, foldedSetIterable iter X.env x = pure x := by intro _; rfl) : S T R X ρ (.Assign [.Name y py] (.ListComp elt [⟨.Name x xp, iter, [c], 0⟩] scope pos) spos) Eo :=
  s_lcC yi own (fun a => (wipeA ρ (own.map (·.2))).set i (.t (gt a))) p f hw hN ok hj hl (fun _ _ => tg_name) pg (fun s H C cl fp => ts_one (ht s H C cl fp)) (fun s H C cl fp => te_of (X' := Blk X scope s H C cl fp) (he s H C cl fp)) kn hy hyl hsw hf hc hs
end
section
variable {T : Tb} {R : Hp} {X : Cx} {ρ : List AV} {a b c : Expr} {pos : Pos} {α : Type} [DecidableEq α] [Enc α]
theorem e_ifS {k : Bool} {xs ys : List α} (h : B T R X ρ c k) (h1 : k = true → E T R X ρ a (seqR X.K xs).p) (h2 : k = false → E T R X ρ b (seqR X.K ys).p) : E T R X ρ (.IfExp c a b pos) (seqR X.K (if k = true then xs else ys)).p :=
  e_if h (fun e => by rw [if_pos e]; exact h1 e) (fun e => by rw [if_neg (by rw [e]; exact Bool.false_ne_true)]; exact h2 e)
end
end Cf
namespace Cf
open PySem PySem.Spec PyProof.Rows L2 PySem.W
theorem pg_two {X : Cx} {i j : Nat} {x y : Str} {p1 p2 tp : Pos} {k : Nat} (hc : X.calm = true) (hN : X.N.Nodup) (hi : X.N[i]? = some x) (hj : X.N[j]? = some y) (hx : Loc X.env.scope x) (hy : Loc X.env.scope y) (fx : X.fn x = true ∨ X.env.scope.names.lookup x = some .local) (fy : X.fn y = true ∨ X.env.scope.names.lookup y = some .local) :
    PG X (.Tuple [.Name x p1, .Name y p2] k tp) (g2 X.K i j) := pg_tup hc (pgs_cons (pg_name hN hi hx fx) (pgs_cons (pg_name hN hj hy fy) pgs_nil))
theorem numd_cut {α : Type} [DecidableEq α] [Enc α] {xs : List α} {pre post : List (Int × α)} {a : Int × α} (h : numd xs = pre ++ a :: post) : a.1 = ((pre.length : Nat) : Int) ∧ xs[pre.length]? = some a.2 ∧ pre.length < xs.length := by
  have e : (numd xs)[pre.length]? = some a := by rw [h]; simp
  obtain ⟨y, h1, h2⟩ := numd_at e
  subst h2
  exact ⟨rfl, h1, (List.getElem?_eq_some_iff.mp h1).1⟩
end Cf
set_option maxHeartbeats 4000000
/-! an object with one property, and its class -/
namespace Cf
open PySem PySem.Spec PyProof.Rows L2 PySem.W
section
variable {T : Tb} {R : Hp} {X : Cx} {ρ : List AV} {e a b : Expr} {pos p p2 : Pos}
/-- a global's value -/
theorem e_glob {x : Str} {v : V} {u : Value} {pos : Pos} (hm : X.mg x = some u) (r : L2.RelV v u) (hg : Gl X x := by rfl) (hd : (x == ("__debug__" : Str)) = false := by decide) : E T R X ρ (.Name x pos) (fun w _ => w = v) :=
  e_of (pe_glob hg hm r hd) fun σ H H0 Q en q => q v H (Ex.refl H) rfl
theorem e_globI {x : Str} {i : Int} {pos : Pos} (hm : ∃ t, X.mg x = some (.int i t)) (hg : Gl X x := by rfl) (hd : (x == ("__debug__" : Str)) = false := by decide) : E T R X ρ (.Name x pos) (is X.K i).p := by
  obtain ⟨t, hm⟩ := hm
  exact e_imp (e_glob (v := .int i) hm ⟨t, rfl⟩ hg hd) fun v H _ h => by subst h; exact is_int.mpr rfl
theorem e_globS {x : Str} (y : Nm) {pos : Pos} (hm : ∃ t, X.mg x = some (.str y.1 t)) (hg : Gl X x := by rfl) (hd : (x == ("__debug__" : Str)) = false := by decide) : E T R X ρ (.Name x pos) (is X.K y).p := by
  obtain ⟨t, hm⟩ := hm
  exact e_imp (e_glob (v := .str y.1) hm ⟨t, rfl⟩ hg hd) fun v H _ h => by subst h; exact is_nm.mpr rfl
end
/-- what is known of the class at C with the name x, one of whose properties f tells its attribute g -/
structure ClsF (P : Program) (w : World) (K : PySem.W.Frag) (mg : Str → Option Value) (base : Heap) (C : Addr) (x f g : Str) : Prop where
  nm : mg x = some (.ref C)
  cls : Cls K C
  ha : PySem.W.findIn K (.ref C) "__class__" = some (some (.builtin "object.__class__"))
  hn : PySem.W.specialIn K (.builtin "object.__class__") "__get__" = some (some (.builtin "getset_descriptor.__get__"))
  htk : PySem.W.takesIn K (.builtin "object.__class__") = some true
  hm : PySem.W.mroIn K C (.type "object") = some true
  prop : ∃ p h fd, PropOf K C f p h ∧ FnOk P w K mg base C8.CX0 1 h fd ["self"] (getSp C g) ∧ Binds K fd ["self"] []
/-- an object of the class at C whose attribute g holds what P tells -/
def insP (C : Addr) (g : Str) (P : TP) : TP where
  p := fun v H => ∃ a dx fs u, v = .ref a ∧ H a = some (.ins C dx fs) ∧ fs.lookup g = some u ∧ P.p u H
  st := fun v H H' e ⟨a, dx, fs, u, h1, h2, h3, h4⟩ => ⟨a, dx, fs, u, h1, e _ _ h2 rfl, h3, P.st _ _ _ e h4⟩
section
variable {T : Tb} {R : Hp} {X : Cx} {ρ : List AV} {e a b : Expr} {pos p p2 : Pos} {C : Addr} {x f g : Str} {P : TP}
theorem e_prop {j : Nat} (F : ClsF X.prog X.w X.K X.mg X.base C x f g) (h : E T R X ρ e (insP C g P).p) (hr : Room j X.A) (hj : 2 ≤ j) (hab : attributeBase e f X.env (eval e X.env) = eval e X.env := by rfl) : E T R X ρ (.Attribute e f pos) P.p := by
  obtain ⟨pp, hh, fd, hp, hf, hb⟩ := F.prop
  refine e_of (pe_prop h F.cls hp hf (hr.mono hj) hb .nil pass0 hab) fun σ H H0 Q en q => ⟨⟨H0, en⟩, fun v H1 x1 ⟨a, dx, fs, u, h1, h2, h3, h4⟩ => ⟨a, dx, fs, h1, h2, ?_⟩⟩
  exact ⟨a, dx, fs, u, rfl, h2, h3, q u H1 x1 h4⟩
theorem e_isiO (F : ClsF X.prog X.w X.K X.mg X.base C x f g) (h : E T R X ρ a (insP C g P).p) (hm : X.mg "isinstance" = none)
    (hs : starEach [a, .Name x p2] X.env = (false, eval a X.env) :: starEach [.Name x p2] X.env := by rfl) (hg : Gl X "isinstance" := by rfl) (hg2 : Gl X x := by rfl) (hd : (x == ("__debug__" : Str)) = false := by decide) :
    E T R X ρ (.Call (.Name "isinstance" p) [a, .Name x p2] [] pos) (is X.K true).p := by
  have h2 : E T R X ρ (.Name x p2) (fun v _ => v = .ref C) := e_glob (v := .ref C) F.nm rfl hg2 hd
  refine e_callB call_isi hm (by decide +kernel) (as_cons (P := (insP C g P).r) h (as_one (P := ⟨fun v _ => v = .ref C, fun _ _ _ _ h => h⟩) h2 rfl) hs) (fun vs H Q _ hp kk => ?_) hg (by decide) (by decide) hs rfl
  obtain ⟨v, w, rfl, ⟨aa, dx, fs, u, rfl, h3, _, _⟩, rfl⟩ := allP2 hp
  refine ⟨.ref aa, .ref C, .ref C, .ref C, true, rfl, .own C, .base (.ins h3 F.cls F.ha F.hn F.htk F.hm), ?_, kk _ H (Ex.refl H) (is_bool.mpr rfl)⟩
  unfold PySem.W.kitOne
  rw [if_pos (beq_self_eq_true _)]
end
end Cf
namespace Cf
open PySem PySem.Spec PyProof.Rows L2 PySem.W
section
variable {T : Tb} {R : Hp} {X : Cx} {ρ : List AV} {Eo : Po} {e a b : Expr} {pos p p2 : Pos}
theorem e_mul {x y : Int} (ha : E T R X ρ a (is X.K x).p) (hb : E T R X ρ b (is X.K y).p) (hx : x.natAbs < 2 ^ 60) (hy : y.natAbs < 2 ^ 60) : E T R X ρ (.BinOp a .Mult b pos) (is X.K (x * y)).p :=
  e_op2 (Pa := (is X.K x).r) (Pb := (is X.K y).r) op_mulW ha hb fun v w H Q _ p q k => ⟨x, y, is_int.mp p, is_int.mp q, wide_mul hx hy (by decide) (by decide) (by decide), k _ H (Ex.refl H) (is_int.mpr rfl)⟩
theorem s_expr {P : V → Hp → Prop} (h : Cf.E T R X ρ e P) (kn : ∀ H0 σ H, En T R H0 ρ σ H → Eo.nx H0 σ H) (hs : swapsWith e none pos.line X.env = pure false := by rfl) : S T R X ρ (.Expr e pos) Eo :=
  s_of (ps_expr h hs) fun D σ H H0 en n r b c => ⟨⟨H0, en⟩, fun v H' x p => n _ _ (kn _ _ _ (en.step x))⟩
end
end Cf
set_option maxHeartbeats 4000000
/-! sorted of data; a, b, c = t -/
namespace Cf
open PySem PySem.Spec PyProof.Rows L2 PySem.W
section
variable {α : Type} [DecidableEq α] [Enc α]
/-- sorted(l), l a list of data that can be sorted -/
theorem cr_sortedD {X : Cx} {j : Nat} {xs : List α} (hr : Room j X.A) (hl : xs.length ≤ 1000000) (hal : AllAlike (encs xs)) (hsk : Sortable (encs xs)) (hd : Enc.dep α ≤ 100) :
    CallR X (.builtin "sorted") (fun vs H Q => ∃ l ws, vs = [.ref l] ∧ H l = some (.lst ws) ∧ DpAll X.K H ws (encs xs) ∧ ∀ p out, H p = none → DpAll X.K (upd H p (.lst out)) out (encs (xs.mergeSort (dataLe false (enc (α := α))))) → Q (.ref p) (upd H p (.lst out))) := by
  intro pins s σ H vs us Q I r h
  obtain ⟨l, ws, rfl, h1, h2, q⟩ := h
  obtain ⟨u, rfl, ru⟩ := vals1 r
  cases ru
  obtain ⟨hz, its, n, rv, hll, hp⟩ := I.lstM h1
  have hS : sizeLine = 16777216 := sizeLine_eq
  have er : EachIs (fun v b => ∃ as, Reads s.heap v (enc b) as) its xs := each_of_map (R := fun v d => ∃ as, Reads s.heap v d as) (enc (α := α)) (reads_each I rv h2)
  refine sorted_data (R := fun u a => ∃ v, L2.RelV v u ∧ (is X.K a).p v H) (enc := enc (α := α)) (vs := its) ⟨_, hp, rfl, _, rfl⟩ (dps_each rv h2) er hal hsk (by omega) (fun b _ => ?_) fun out ho eo => ?_
  · have e1 : PyData.depth (enc b) ≤ Enc.dep α := Enc.depth b
    have e2 := hr.un
    omega
  · obtain ⟨vo, rvo, dvo⟩ := each_dps eo
    obtain ⟨c, hc⟩ := sortedAll_at s.heap its out.toArray
    have hp' : H (s.heap.objs.size + 1) = none := I.hok.fresh (Nat.le_succ _)
    refine ⟨.ref (s.heap.objs.size + 1), upd H (s.heap.objs.size + 1) (.lst vo), I.laid (t' := s.toks) (fun b o e => sortedAll_old e) (Nat.le_succ _) ⟨?_, out, c, rvo, hc⟩, rfl, q _ vo hp' ?_⟩
    · have e3 := vals_len rvo
      omega
    · exact dps_ez (Ex.new (T := []) hp').ez _ _ (encs_pure _) dvo
variable {T : Tb} {R : Hp} {X : Cx} {ρ : List AV} {Eo : Po} {e : Expr} {p pos : Pos}
theorem n_sorted {j : Nat} {xs : List α} (h : E T R X ρ e (lstX X.K xs).p) (hm : X.mg "sorted" = none) (hr : Room j X.A) (hl : xs.length ≤ 1000000) (hal : AllAlike (encs xs)) (hsk : Sortable (encs xs)) (hd : Enc.dep α ≤ 100)
    (hs : starEach [e] X.env = (false, eval e X.env) :: starEach [] X.env := by rfl) (hg : Gl X "sorted" := by rfl) (hpl : (backTo pos (starEach [] X.env)).any (·.1) = false := by rfl) :
    N T R X ρ (.Call (.Name "sorted" p) [e] [] pos) (lstO X.K (xs.mergeSort (dataLe false (enc (α := α))))) :=
  n_callB (cr_sortedD hr hl hal hsk hd) hm boot_sorted (as_one h hs) (fun vs H Q _ hp k => by
    obtain ⟨v, rfl, l, ws, rfl, h1, h2⟩ := allP1 hp
    exact ⟨l, ws, rfl, h1, h2, fun q out hq ho => k _ (fun a => a = q) _ (fun a z => by rw [z]; exact hq) (Ex.new hq) ⟨q, out, rfl, rfl, upd_same, ho⟩⟩) hg (by decide) (by decide) hs hpl
/-- x, y, z = t -/
theorem s_unp3 {x y z : α} (i j k : Nat) {a b c : Str} {p1 p2 p3 tp : Pos} {kt : Nat} (hN : X.N.Nodup) (h : Cf.E T R X ρ e (is X.K [x, y, z]).p) (kn : ∀ H0 σ H, En T R H0 (((ρ.set i (.t (is X.K x))).set j (.t (is X.K y))).set k (.t (is X.K z))) σ H → Eo.nx H0 σ H)
    (hi : X.N[i]? = some a := by rfl) (hj : X.N[j]? = some b := by rfl) (hk : X.N[k]? = some c := by rfl) (ha : Loc X.env.scope a := by first | exact Or.inl rfl | exact Or.inr rfl) (hb : Loc X.env.scope b := by first | exact Or.inl rfl | exact Or.inr rfl) (hc : Loc X.env.scope c := by first | exact Or.inl rfl | exact Or.inr rfl)
    (fa : X.fn a = true ∨ X.env.scope.names.lookup a = some .local := by first | exact .inl rfl | exact .inr rfl) (fb : X.fn b = true ∨ X.env.scope.names.lookup b = some .local := by first | exact .inl rfl | exact .inr rfl) (fc : X.fn c = true ∨ X.env.scope.names.lookup c = some .local := by first | exact .inl rfl | exact .inr rfl) (hcl : X.calm = true := by rfl)
    (hs : swapsWithSole [.Tuple [.Name a p1, .Name b p2, .Name c p3] kt tp] e pos.line X.env = pure false := by rfl) (hw : swappedStores [.Tuple [.Name a p1, .Name b p2, .Name c p3] kt tp] e X.env = pure none := by rfl) :
    S T R X ρ (.Assign [.Tuple [.Name a p1, .Name b p2, .Name c p3] kt tp] e pos) Eo :=
  s_of (ps_asg h (pg_tup hcl (pgs_cons (pg_name hN hi ha fa) (pgs_cons (pg_name hN hj hb fb) (pgs_cons (pg_name hN hk hc fc) pgs_nil)))) hs hw) fun D σ H H0 en n r bb cc => ⟨⟨H0, en⟩, fun v H' x pv => by
    obtain ⟨l, vs, rfl, h1, h2⟩ := is_list.mp pv
    have h2 : DpAll X.K H' vs [enc _, enc _, enc _] := h2
    cases h2 with
    | cons d1 h3 => cases h3 with
      | cons d2 h4 => cases h4 with
        | cons d3 h5 =>
          cases h5
          refine ⟨l, _, rfl, h1, rfl, _, _, rfl, _, _, rfl, _, _, rfl, rfl, n _ _ (kn _ _ _ ((((en.step x).set_t d1).set_t d2).set_t d3))⟩⟩
/-- x, y = t -/
theorem s_unp2 {β : Type} [DecidableEq β] [Enc β] {q : α × β} (i j : Nat) {a b : Str} {p1 p2 tp : Pos} {kt : Nat} (hN : X.N.Nodup) (h : Cf.E T R X ρ e (is X.K q).p) (kn : ∀ H0 σ H, En T R H0 ((ρ.set i (.t (is X.K q.1))).set j (.t (is X.K q.2))) σ H → Eo.nx H0 σ H)
    (hi : X.N[i]? = some a := by rfl) (hj : X.N[j]? = some b := by rfl) (ha : Loc X.env.scope a := by first | exact Or.inl rfl | exact Or.inr rfl) (hb : Loc X.env.scope b := by first | exact Or.inl rfl | exact Or.inr rfl)
    (fa : X.fn a = true ∨ X.env.scope.names.lookup a = some .local := by first | exact .inl rfl | exact .inr rfl) (fb : X.fn b = true ∨ X.env.scope.names.lookup b = some .local := by first | exact .inl rfl | exact .inr rfl) (hcl : X.calm = true := by rfl)
    (hs : swapsWithSole [.Tuple [.Name a p1, .Name b p2] kt tp] e pos.line X.env = pure false := by rfl) (hw : swappedStores [.Tuple [.Name a p1, .Name b p2] kt tp] e X.env = pure none := by rfl) :
    S T R X ρ (.Assign [.Tuple [.Name a p1, .Name b p2] kt tp] e pos) Eo :=
  s_of (ps_asg h (pg_tup hcl (pgs_cons (pg_name hN hi ha fa) (pgs_cons (pg_name hN hj hb fb) pgs_nil))) hs hw) fun D σ H H0 en n r bb cc => ⟨⟨H0, en⟩, fun v H' x pv => by
    obtain ⟨l, u, w, rfl, h1, d1, d2⟩ := is_pair.mp pv
    refine ⟨l, _, rfl, h1, rfl, _, _, rfl, _, _, rfl, rfl, n _ _ (kn _ _ _ (((en.step x).set_t d1).set_t d2))⟩⟩
end
end Cf
set_option maxHeartbeats 4000000
/-! dicts of one's own -/
namespace Cf
open PySem PySem.Spec PyProof.Rows L2 PySem.W
/-! ### tables -/
section
variable {κ κ' β : Type} [DecidableEq κ] [DecidableEq κ']
def getB (kvs : List (κ × β)) (k : κ) : Option β := (kvs.find? fun p => decide (p.1 = k)).map (·.2)
def putB (kvs : List (κ × β)) (k : κ) (x : β) : List (κ × β) := if (kvs.any fun p => decide (p.1 = k)) = true then kvs.map (fun p => if p.1 = k then (p.1, x) else p) else kvs ++ [(k, x)]
/-- the entries, told -/
abbrev DRel (f : κ → κ') (VP : β → TP) (H : Hp) (vs : List (κ' × V)) (kvs : List (κ × β)) : Prop := EachIs (fun q p => q.1 = f p.1 ∧ (VP p.2).p q.2 H) vs kvs
variable {f : κ → κ'} {VP : β → TP} {H H' : Hp}
theorem drel_st (e : Ez H H') : ∀ {vs : List (κ' × V)} {kvs : List (κ × β)}, DRel f VP H vs kvs → DRel f VP H' vs kvs
  | _, _, .nil => .nil
  | _, _, .cons h t => .cons ⟨h.1, (VP _).st _ _ _ e h.2⟩ (drel_st e t)
theorem drel_get (inj : ∀ a b, f a = f b → a = b) (k : κ) : ∀ {vs : List (κ' × V)} {kvs : List (κ × β)}, DRel f VP H vs kvs → (∃ v x, valV vs (f k) = some v ∧ getB kvs k = some x ∧ (VP x).p v H) ∨ (valV vs (f k) = none ∧ getB kvs k = none)
  | _, _, .nil => .inr ⟨rfl, rfl⟩
  | q :: vs, p :: kvs, .cons h t => by
    by_cases e : p.1 = k
    · refine .inl ⟨q.2, p.2, valV_pos (by rw [h.1, e]), ?_, h.2⟩
      unfold getB
      rw [List.find?_cons, decide_eq_true e]
      rfl
    · have e2 : ¬ q.1 = f k := fun z => e (inj _ _ (h.1.symm.trans z))
      rw [valV_neg e2]
      have e3 : getB (p :: kvs) k = getB kvs k := by
        unfold getB
        rw [List.find?_cons, decide_eq_false e]
      rw [e3]
      exact drel_get inj k t
theorem drel_any (inj : ∀ a b, f a = f b → a = b) (k : κ) : ∀ {vs : List (κ' × V)} {kvs : List (κ × β)}, DRel f VP H vs kvs → (vs.any fun q => decide (q.1 = f k)) = kvs.any fun p => decide (p.1 = k)
  | _, _, .nil => rfl
  | q :: vs, p :: kvs, .cons h t => by
    rw [List.any_cons, List.any_cons, drel_any inj k t]
    have : decide (q.1 = f k) = decide (p.1 = k) := decide_eq_decide.mpr ⟨fun z => inj _ _ (h.1.symm.trans z), fun z => by rw [h.1, z]⟩
    rw [this]
theorem drel_map (inj : ∀ a b, f a = f b → a = b) {k : κ} {v : V} {x : β} (hx : (VP x).p v H) : ∀ {vs : List (κ' × V)} {kvs : List (κ × β)}, DRel f VP H vs kvs → DRel f VP H (vs.map fun q => if q.1 = f k then (q.1, v) else q) (kvs.map fun p => if p.1 = k then (p.1, x) else p)
  | _, _, .nil => .nil
  | q :: vs, p :: kvs, .cons h t => by
    refine .cons ?_ (drel_map inj hx t)
    dsimp only
    by_cases e : p.1 = k
    · rw [if_pos e, if_pos (by rw [h.1, e])]
      exact ⟨h.1, hx⟩
    · rw [if_neg e, if_neg fun z => e (inj _ _ (h.1.symm.trans z))]
      exact h
theorem drel_snoc {k : κ} {v : V} {x : β} (hx : (VP x).p v H) : ∀ {vs : List (κ' × V)} {kvs : List (κ × β)}, DRel f VP H vs kvs → DRel f VP H (vs ++ [(f k, v)]) (kvs ++ [(k, x)])
  | _, _, .nil => .cons ⟨rfl, hx⟩ .nil
  | _, _, .cons h t => .cons h (drel_snoc hx t)
theorem drel_put (inj : ∀ a b, f a = f b → a = b) {vs : List (κ' × V)} {kvs : List (κ × β)} (h : DRel f VP H vs kvs) (k : κ) {v : V} {x : β} (hx : (VP x).p v H) : DRel f VP H (putK vs (f k) v) (putB kvs k x) := by
  unfold putK putB
  rw [drel_any inj k h]
  split
  · exact drel_map inj hx h
  · exact drel_snoc hx h
theorem drel_len {vs : List (κ' × V)} {kvs : List (κ × β)} (h : DRel f VP H vs kvs) : vs.length = kvs.length := EachIs.len h
theorem putB_len (kvs : List (κ × β)) (k : κ) (x : β) : (putB kvs k x).length ≤ kvs.length + 1 := by
  unfold putB
  split <;> simp
end
/-- kinds of dicts -/
structure DKind (κ κ' : Type) [DecidableEq κ] [DecidableEq κ'] where
  f : κ → κ'
  inj : ∀ a b, f a = f b → a = b
  ho : List (κ' × V) → HO
  KP : κ → TP
  hmu : ∀ vs, mutO (ho vs) = true
  isd : ∀ (H : Hp) a vs, H a = some (ho vs) → IsD H a
  get : ∀ (H : Hp) a vs k y, H a = some (ho vs) → (KP k).p y H → DGet H a y (valV vs (f k))
  put : ∀ (H : Hp) a vs k y v, H a = some (ho vs) → (KP k).p y H → vs.length < sizeLine → DPut H a y v (upd H a (ho (putK vs (f k) v)))
def kindN (K : PySem.W.Frag) : DKind Nm Key where
  f := fun x => Sum.inr x.1
  inj := fun a b h => Subtype.ext (Sum.inr.inj h)
  ho := .dK
  KP := fun x => is K x
  hmu := fun _ => rfl
  isd := fun H a vs h => .inl ⟨vs, .inl h⟩
  get := fun H a vs k y h hk => by
    rw [is_nm.mp hk]
    exact DGet.k (k := Sum.inr k.1) h
  put := fun H a vs k y v h hk hl => by
    rw [is_nm.mp hk]
    exact DPut.k (k := Sum.inr k.1) h hl
/-- a new tuple of ints -/
def tupI (ns : List Int) : TP where
  p := fun v H => ∃ a, v = .ref a ∧ H a = some (.tup (ns.map V.int))
  st := fun v H H' e ⟨a, h1, h2⟩ => ⟨a, h1, e _ _ h2 rfl⟩
theorem dps_ofInts {K : PySem.W.Frag} {H : Hp} : ∀ ns : List Int, DpAll K H (ns.map V.int) (encs ns)
  | [] => .nil
  | n :: ns => .cons (.int n) (dps_ofInts ns)
theorem is_of_tupI {K : PySem.W.Frag} {H : Hp} {v : V} {ns : List Int} (h : (tupI ns).p v H) : (is K ns).p v H := by
  obtain ⟨a, h1, h2⟩ := h
  exact is_list.mpr ⟨a, _, h1, .inl (.inl h2), dps_ofInts ns⟩
def kindI : DKind (List Int) (List Key) where
  f := fun ns => ns.map Sum.inl
  inj := fun a b h => by
    have : ∀ a b : List Int, (a.map Sum.inl : List Key) = b.map Sum.inl → a = b := by
      intro a
      induction a with
      | nil => intro b h; cases b with
        | nil => rfl
        | cons _ _ => cases h
      | cons x a ih => intro b h; cases b with
        | nil => cases h
        | cons y b =>
          rw [List.map_cons, List.map_cons] at h
          injection h with h1 h2
          rw [Sum.inl.inj h1, ih b h2]
    exact this a b h
  ho := .dT
  KP := fun ns => tupI ns
  hmu := fun _ => rfl
  isd := fun H a vs h => .inr ⟨vs, .inl h⟩
  get := fun H a vs k y h ⟨b, hb, hk⟩ => by
    subst hb
    refine DGet.t h ?_
    rw [hk, List.map_map]
    rfl
  put := fun H a vs k y v h ⟨b, hb, hk⟩ hl => by
    subst hb
    refine DPut.t h ?_ hl
    rw [hk, List.map_map]
    rfl
section
variable {κ κ' β : Type} [DecidableEq κ] [DecidableEq κ']
def dictO (D : DKind κ κ') (VP : β → TP) (kvs : List (κ × β)) : OP where
  p := fun v S H => ∃ d vs, v = .ref d ∧ S = (fun a => a = d) ∧ H d = some (D.ho vs) ∧ DRel D.f VP H vs kvs
  st := fun v S H H' e k ⟨d, vs, h1, h2, h3, h4⟩ => ⟨d, vs, h1, h2, (k d (by rw [h2])).trans h3, drel_st e h4⟩
  dom := fun v S H ⟨d, vs, _, h2, h3, _⟩ a ha => by
    rw [h2] at ha
    subst ha
    exact ⟨_, h3, D.hmu vs⟩
variable {T : Tb} {R : Hp} {X : Cx} {ρ : List AV} {Eo : Po} {e e2 : Expr} {pos p1 apos cpos p2 p3 p4 : Pos} {D : DKind κ κ'} {VP : β → TP} {kvs : List (κ × β)} {j : Nat}
theorem n_dictN {VP : β → TP} : N T R X ρ (.Dict [] [] pos) (dictO (kindN X.K) VP ([] : List (Nm × β))) :=
  n_of pe_dnewK fun σ H H0 Q en q => fun p hp => q _ (fun a => a = p) _ (fun a z => by rw [z]; exact hp) (Ex.new hp) ⟨p, [], rfl, rfl, upd_same, .nil⟩
theorem n_dictI {VP : β → TP} : N T R X ρ (.Dict [] [] pos) (dictO kindI VP ([] : List (List Int × β))) :=
  n_of pe_dnewT fun σ H H0 Q en q => fun p hp => q _ (fun a => a = p) _ (fun a z => by rw [z]; exact hp) (Ex.new hp) ⟨p, [], rfl, rfl, upd_same, .nil⟩
/-- d[k], k within -/
theorem e_dget {k : κ} {x : β} (i : Nat) {nm : Str} (hr : Room j X.A) (hi : ρ[i]? = some (.o (dictO D VP kvs))) (hk : E T R X ρ e (D.KP k).p) (hx : getB kvs k = some x) (hs : NoSl e := by exact fun _ _ => rfl)
    (hN : X.N[i]? = some nm := by rfl) (hv : Vis X.env.scope nm := by first | exact Or.inl rfl | exact Or.inr (Or.inl rfl) | exact Or.inr (Or.inr rfl)) (hd : (nm == ("__debug__" : Str)) = false := by decide) (hcd : (nm == ("__classdict__" : Str)) = false := by decide) :
    E T R X ρ (.Subscript (.Name nm p1) e pos) (VP x).p :=
  e_of (pe_dget (by have := hr.un; omega) (pe_var hN hv hd hcd) hk hs) fun σ H H0 Q en q => by
    obtain ⟨F, w⟩ := en.own
    obtain ⟨v, h1, h2⟩ : ∃ v, σ[i]? = some (some v) ∧ (dictO D VP kvs).p v (F i) H := w.ok i _ hi
    refine ⟨v, h1, ⟨H0, en⟩, fun y H1 x1 p1 => ?_⟩
    have w1 := w.step x1.ext
    obtain ⟨v', g1, d, vs, rfl, _, g3, g4⟩ : ∃ v, σ[i]? = some (some v) ∧ (dictO D VP kvs).p v (F i) H1 := w1.ok i _ hi
    rw [h1] at g1
    cases g1
    rcases drel_get D.inj k g4 with ⟨u, z, a1, a2, a3⟩ | ⟨_, a2⟩
    · rw [hx] at a2
      cases a2
      have dg := D.get H1 d vs k y g3 p1
      rw [a1] at dg
      exact ⟨d, u, rfl, dg, q u H1 x1 a3⟩
    · rw [hx] at a2
      cases a2
/-- d.get(k, z) -/
theorem e_dgetD {k : κ} {Pz : TP} {P : V → Hp → Prop} (i : Nat) {nm : Str} (hr : Room j X.A) (hi : ρ[i]? = some (.o (dictO D VP kvs))) (hk : E T R X ρ e (D.KP k).p) (hz : E T R X ρ e2 Pz.p) (h1 : ∀ x v H, getB kvs k = some x → (VP x).p v H → P v H) (h2 : ∀ v H, getB kvs k = none → Pz.p v H → P v H)
    (m : M2 X (.Name nm p1) "get" apos e e2 cpos := by exact ⟨rfl, rfl, rfl, rfl⟩)
    (hN : X.N[i]? = some nm := by rfl) (hv : Vis X.env.scope nm := by first | exact Or.inl rfl | exact Or.inr (Or.inl rfl) | exact Or.inr (Or.inr rfl)) (hd : (nm == ("__debug__" : Str)) = false := by decide) (hcd : (nm == ("__classdict__" : Str)) = false := by decide) :
    E T R X ρ (.Call (.Attribute (.Name nm p1) "get" apos) [e, e2] [] cpos) P :=
  e_of (pe_dget2 (by have := hr.un; omega) (pe_var hN hv hd hcd) hk hz m) fun σ H H0 Q en q => by
    obtain ⟨F, w⟩ := en.own
    obtain ⟨v, g1, d, vs, rfl, _, g3, _⟩ : ∃ v, σ[i]? = some (some v) ∧ (dictO D VP kvs).p v (F i) H := w.ok i _ hi
    refine ⟨_, g1, d, rfl, D.isd H d vs g3, ⟨H0, en⟩, fun y H1 x1 q1 => ⟨⟨H0, en.step x1⟩, fun u H2 x2 q2 => ?_⟩⟩
    have w2 := (w.step x1.ext).step x2.ext
    obtain ⟨v', g1', d', vs', rfl, _, g3', g4'⟩ : ∃ v, σ[i]? = some (some v) ∧ (dictO D VP kvs).p v (F i) H2 := w2.ok i _ hi
    rw [g1] at g1'
    cases g1'
    have dg := D.get H2 d vs' k y g3' ((D.KP k).st _ _ _ x2.ez q1)
    refine ⟨_, dg, q _ H2 (x1.trans x2) ?_⟩
    rcases drel_get D.inj k g4' with ⟨u', z, a1, a2, a3⟩ | ⟨a1, a2⟩
    · rw [a1]
      exact h1 z u' H2 a2 a3
    · rw [a1]
      exact h2 u H2 a2 q2
/-- d[k] = e -/
theorem s_dput {k : κ} {x : β} (i : Nat) {nm : Str} (hr : Room j X.A) (hi : ρ[i]? = some (.o (dictO D VP kvs))) (hk : Cf.E T R X ρ e (D.KP k).p) (hv : Cf.E T R X ρ e2 (VP x).p) (hl : kvs.length ≤ 1000000) (kn : ∀ H0 σ H, En T R H0 (ρ.set i (.o (dictO D VP (putB kvs k x)))) σ H → Eo.nx H0 σ H)
    (hN : X.N[i]? = some nm := by rfl) (hvis : Vis X.env.scope nm := by first | exact Or.inl rfl | exact Or.inr (Or.inl rfl) | exact Or.inr (Or.inr rfl)) (hd : (nm == ("__debug__" : Str)) = false := by decide) (hcd : (nm == ("__classdict__" : Str)) = false := by decide)
    (hs : swapsWith e2 (some (.Subscript (.Name nm p1) e p2)) pos.line X.env = pure false := by rfl) : S T R X ρ (.Assign [.Subscript (.Name nm p1) e p2] e2 pos) Eo :=
  s_of (ps_dput (by have := hr.un; omega) (pe_var hN hvis hd hcd) hk hv hs) fun DD σ H H0 en n r b c => ⟨⟨H0, en⟩, fun v H1 x1 q1 => by
    have en1 := en.step x1
    obtain ⟨F, w⟩ := en1.own
    obtain ⟨vd, g1, d, vs, rfl, _, g3, _⟩ : ∃ v, σ[i]? = some (some v) ∧ (dictO D VP kvs).p v (F i) H1 := w.ok i _ hi
    refine ⟨_, g1, ⟨H0, en1⟩, fun y H2 x2 q2 => ?_⟩
    have en2 := en1.step x2
    obtain ⟨F2, w2⟩ := en2.own
    obtain ⟨vd', g1', d', vs', rfl, _, g3', g4'⟩ : ∃ v, σ[i]? = some (some v) ∧ (dictO D VP kvs).p v (F2 i) H2 := w2.ok i _ hi
    rw [g1] at g1'
    cases g1'
    have hlen := drel_len g4'
    have hS : sizeLine = 16777216 := sizeLine_eq
    refine ⟨d, _, rfl, D.put H2 d vs' k y v g3' q2 (by omega), n _ _ (kn _ _ _ (en2.put hi g1 fun S hS => ?_))⟩
    obtain ⟨d2, vs2, e2, rfl, _, _⟩ := hS
    cases e2
    exact ⟨rfl, D.hmu _, d, _, rfl, rfl, upd_same, drel_st (Ez.put g3' (D.hmu _)) (drel_put D.inj g4' k ((VP x).st _ _ _ x2.ez q1))⟩⟩
end
end Cf
set_option maxHeartbeats 4000000
/-! list(d.values()); lists of tuples known to their objects -/
namespace Cf
open PySem PySem.Spec PyProof.Rows L2 PySem.W
def kdlRawV {prog : Program} {w : World} {r d ep : Nat} {es : Array DictEntry} : KdlSrc prog w "dict_values" r d es.size (fun i v => ∃ hi : i < es.size, v = es[i].val) (fun h => h.IsValuesView r d ∧ h.DictRaw d es ep) where
  type := fun _ m => m.1.typeIs
  there := fun _ m => let ⟨_, ho, _⟩ := m.2; let ⟨_, hv, _⟩ := m.1; ⟨Heap.lt_size hv, Heap.lt_size ho⟩
  keep := fun _ _ m k => let ⟨o, ho, x⟩ := m.1; ⟨⟨o, k r (.inl rfl) o ho, x⟩, m.2.at fun o e => k d (.inr rfl) o e⟩
  notList := by decide
  notTuple := by decide
  hint := fun _ _ _ _ m q => kdl_hint_values m.1.typeIs q
  iter := fun _ s hh m => by
    obtain ⟨o, ho, _⟩ := id m.2
    exact ⟨_, _, fun _ _ q => wpAny_pyIter_values_raw m.1 m.2 q, Walks.rawValues hh _ d (Nat.ne_of_lt (Heap.lt_size ho)) es ep, ⟨⟨_, Heap.get?_push_size _ rfl, rfl, rfl⟩, m.2.at fun o e => Heap.get?_push_of_some _ e⟩⟩
theorem kt_at {H : Hp} : ∀ {kvs : List (List Key × V)} {xs : List (List Key × Addr × Value)} {i : Nat} {y : List Key × Addr × Value}, KT H kvs xs → xs[i]? = some y → ∃ p, kvs[i]? = some p ∧ L2.RelV p.2 y.2.2
  | _, _, i, _, .nil, e => by simp at e
  | _, _, 0, _, .cons h _, e => by
    simp at e
    subst e
    exact ⟨_, rfl, h.2.2⟩
  | _, _, i + 1, _, .cons _ t, e => by
    obtain ⟨p, h1, h2⟩ := kt_at (i := i) t (by simpa using e)
    exact ⟨p, by simpa using h1, h2⟩
theorem kt_len {H : Hp} : ∀ {kvs : List (List Key × V)} {xs : List (List Key × Addr × Value)}, KT H kvs xs → kvs.length = xs.length
  | _, _, .nil => rfl
  | _, _, .cons _ t => by simp [kt_len t]
theorem vals_ext : ∀ {vs : List V} {us : List Value}, vs.length = us.length → (∀ (i : Nat) u, us[i]? = some u → ∃ v, vs[i]? = some v ∧ L2.RelV v u) → Vals vs us
  | [], [], _, _ => .nil
  | [], _ :: _, h, _ => by simp at h
  | _ :: _, [], h, _ => by simp at h
  | v :: vs, u :: us, h, k => by
    obtain ⟨v', e1, r⟩ := k 0 u rfl
    simp at e1
    subst e1
    refine .cons r (vals_ext (by simpa using h) fun i u e => ?_)
    obtain ⟨v', e1, r⟩ := k (i + 1) u (by simpa using e)
    exact ⟨v', by simpa using e1, r⟩
def tValsL (td : TE) : TE := fun σ H Q => td σ H fun x H1 => ∃ d kvs, x = .ref d ∧ H1 d = some (.dT kvs) ∧ ∀ p, H1 p = none → Q (.ref p) (upd H1 p (.lst (kvs.map (·.2))))
section
variable {X : Cx} {o : Expr} {p pos apos mpos : Pos} {td : TE}
theorem pe_valsL (hc : X.calm = true) (hg : Gl X "list") (hm : X.mg "list" = none) (hd : PE X o td) (hbase : attributeBase o "values" X.env (eval o X.env) = eval o X.env := by rfl) (hline : (apos.endLine == mpos.line) = true := by rfl)
    (hse : starEach [Expr.Call (.Attribute o "values" apos) [] [] mpos] X.env = [(false, eval (Expr.Call (.Attribute o "values" apos) [] [] mpos) X.env)] := by rfl) :
    PE X (.Call (.Name "list" p) [.Call (.Attribute o "values" apos) [] [] mpos] [] pos) (tValsL td) := by
  refine ⟨fun pins s σ H Q I h => ?_⟩
  refine wpAny_Call_Name_kw (ld_blt I hg hm (u := .type "list") (by decide +kernel) ?_ (by decide) (by decide))
  rw [hse]
  refine PySem.callWith_type1 (wpAny_Call_method0_late hbase hline (thn (hd.run pins s σ H _ I h) fun v s1 ⟨x, H1, I1, r1, a, kvs, ex, ha, q⟩ => ?_))
  subst ex
  obtain rfl : v = Value.ref a := r1
  obtain ⟨hsz, hsys, xs, rel, dof⟩ := dt_of I1.hok ha
  obtain ⟨es, ep, raw, hes, hent⟩ := dof.raw
  obtain ⟨ob, hob, hox, hdat⟩ := id raw
  refine ⟨"dict", "dict.values", PySem.F.plainAttrs_dict, PySem.F.slot_dict_values, PySem.F.type_dict_values, ⟨ob, hob, hox.1⟩, fun b e => ?_, Calls.callWith_builtin rfl (PySem.evalArgs_none ?_)⟩
  · cases e
    exact ⟨ob, hob, hox.2.1⟩
  refine call_meetsIn PySem.F.slot_dict_values ⟨ob, hob, hox.1⟩ PySem.F.entry_dict_values (PySem.F.args_dict_values_1 _) (meets_dict_values_raw a hsys) ⟨⟨es, ep, raw⟩, ?_⟩
  have k1 : ∀ b u, s1.heap.get? b = some u → (s1.heap.push { cls := .type "dict_values", data := .fields #[.ref a] }).get? b = some u := fun b u e => Heap.get?_push_of_some _ e
  have I2 : Inv X pins σ H1 { s1 with heap := s1.heap.push { cls := .type "dict_values", data := .fields #[.ref a] } } := I1.kept (t' := s1.toks) k1
  have hl : kvs.length = es.size := by rw [kt_len rel, hes]
  refine kdl_call (s := { s1 with heap := s1.heap.push { cls := .type "dict_values", data := .fields #[.ref a] } }) (r := s1.heap.objs.size) (d := a) (kdlRawV (es := es) (ep := ep)) (I1.ok.hd hc) ⟨⟨_, Heap.get?_push_size _ rfl, rfl, rfl⟩, raw.at fun o e => k1 _ o e⟩ (by omega) fun h' tk acc' c' hk hD hacc => ?_
  have rv : Vals (kvs.map (·.2)) acc'.toList := by
    refine vals_ext (by rw [List.length_map]; have := hacc.1; simp only [Array.length_toList]; omega) fun i u e => ?_
    rw [Array.getElem?_toList] at e
    obtain ⟨hi, e2⟩ := hacc.2 i u e
    obtain ⟨y, g1, _, g3, _⟩ := hent i hi
    obtain ⟨pp, g4, g5⟩ := kt_at rel g1
    refine ⟨pp.2, by rw [List.getElem?_map, g4]; rfl, ?_⟩
    rw [e2, g3]
    exact g5
  refine ⟨.ref _, _, I2.laid (t' := tk) hk (Nat.le_refl _) (show ObjOk X.prog X.w _ _ _ (.lst (kvs.map (·.2))) from ⟨by rw [List.length_map]; exact hsz, acc'.toList, c', rv, by rw [Array.toArray_toList]; exact hD⟩), rfl, q _ (I2.hok.fresh (Nat.le_refl _))⟩
end
section
variable {α : Type} [DecidableEq α] [Enc α]
/-- a list of one's own of such tuples -/
def lstSO (K : PySem.W.Frag) (xss : List (List α)) : OP where
  p := fun v S H => ∃ l vs, v = .ref l ∧ S = (fun a => a = l) ∧ H l = some (.lst vs) ∧ EachIs (fun v xs => (isX K xs).p v H) vs xss
  st := fun v S H H' e k ⟨l, vs, h1, h2, h3, h4⟩ => ⟨l, vs, h1, h2, (k l (by rw [h2])).trans h3, h4.mono fun v xs => (isX K xs).st _ _ _ e⟩
  dom := fun v S H ⟨l, vs, _, h2, h3, _⟩ a ha => by
    rw [h2] at ha
    subst ha
    exact ⟨_, h3, rfl⟩
theorem each_at {A B : Type} {Rr : A → B → Prop} : ∀ {as : List A} {bs : List B} {i : Nat} {a : A}, EachIs Rr as bs → as[i]? = some a → ∃ b, bs[i]? = some b ∧ Rr a b
  | _, _, i, _, .nil, e => by simp at e
  | _, _, 0, _, .cons h _, e => by
    simp at e
    subst e
    exact ⟨_, rfl, h⟩
  | _, _, i + 1, _, .cons _ t, e => by
    obtain ⟨b, h1, h2⟩ := each_at (i := i) t (by simpa using e)
    exact ⟨b, by simpa using h1, h2⟩
theorem drel_vals {κ κ' β : Type} {f : κ → κ'} {VP : β → TP} {H H' : Hp} (e : Ez H H') : ∀ {vs : List (κ' × V)} {kvs : List (κ × β)}, DRel f VP H vs kvs → EachIs (fun v x => (VP x).p v H') (vs.map (·.2)) (kvs.map (·.2))
  | _, _, .nil => .nil
  | _, _, .cons h t => .cons ((VP _).st _ _ _ e h.2) (drel_vals e t)
variable {T : Tb} {R : Hp} {X : Cx} {ρ : List AV} {tg e : Expr} {p pos apos mpos p1 : Pos}
theorem n_valsL {kvs : List (List Int × List α)} (i : Nat) {nm : Str} (hi : ρ[i]? = some (.o (dictO kindI (isX X.K) kvs))) (hm : X.mg "list" = none)
    (hN : X.N[i]? = some nm := by rfl) (hv : Vis X.env.scope nm := by first | exact Or.inl rfl | exact Or.inr (Or.inl rfl) | exact Or.inr (Or.inr rfl)) (hd : (nm == ("__debug__" : Str)) = false := by decide) (hcd : (nm == ("__classdict__" : Str)) = false := by decide)
    (hc : X.calm = true := by rfl) (hg : Gl X "list" := by rfl) (hbase : attributeBase (.Name nm p1) "values" X.env (eval (.Name nm p1) X.env) = eval (.Name nm p1) X.env := by rfl) (hline : (apos.endLine == mpos.line) = true := by rfl)
    (hse : starEach [Expr.Call (.Attribute (.Name nm p1) "values" apos) [] [] mpos] X.env = [(false, eval (Expr.Call (.Attribute (.Name nm p1) "values" apos) [] [] mpos) X.env)] := by rfl) :
    N T R X ρ (.Call (.Name "list" p) [.Call (.Attribute (.Name nm p1) "values" apos) [] [] mpos] [] pos) (lstSO X.K (kvs.map (·.2))) :=
  n_of (pe_valsL hc hg hm (pe_var hN hv hd hcd) hbase hline hse) fun σ H H0 Q en q => by
    obtain ⟨F, w⟩ := en.own
    obtain ⟨v, g1, d, vs, rfl, _, g3, g4⟩ : ∃ v, σ[i]? = some (some v) ∧ (dictO kindI (isX X.K) kvs).p v (F i) H := w.ok i _ hi
    refine ⟨_, g1, d, vs, rfl, g3, fun pp hp => q _ (fun a => a = pp) _ (fun a z => by rw [z]; exact hp) (Ex.new hp) ⟨pp, _, rfl, rfl, upd_same, ?_⟩⟩
    exact drel_vals (Ex.new (T := T) hp).ez g4
/-- walked -/
theorem w_newS {xss : List (List α)} {fr : Prop} (h : N T R X ρ e (lstSO X.K xss)) : W T R X ρ tg e fr (xss.map (isX X.K)) :=
  w_of (pi_list h) fun σ H H0 K en q => ⟨⟨H0, en⟩, fun v S H' hS x p => by
    obtain ⟨l, vs, rfl, rfl, h3, h4⟩ := p
    have hl : H l = none := hS l rfl
    have hlen : vs.length = (xss.map (isX X.K)).length := by rw [EachIs.len h4]; simp
    refine ⟨l, rfl, ⟨vs, SqL.of h3⟩, q _ H' (some (l, .lst vs)) (fun H => Ez H' H ∧ AncOk (some (l, .lst vs)) H) (YAt vs) x ⟨?_, fun H H'' e a g => ⟨g.1.trans e, a⟩, fun p o z => by cases z; rfl, fun i H y H'' P g hy hP => ?_⟩ ⟨Ez.refl H', fun p o z => by cases z; exact h3⟩ (fun p o z => by cases z; exact h3) fun _ p o z => by cases z; exact .inl hl⟩
    · rw [← hlen]
      exact walk_list.mono (fun H g => SqL.of (g.2 l _ rfl)) fun _ _ _ _ _ _ y => y
    · obtain ⟨rfl, hx⟩ := hy
      refine ⟨Ex.refl _, ?_⟩
      obtain ⟨b, e1, e2⟩ := each_at h4 hx
      rw [List.getElem?_map, e1] at hP
      cases hP
      exact (isX X.K b).st _ _ _ g.1 e2⟩
end
end Cf
set_option maxHeartbeats 4000000
/-! texts -/
namespace Cf
open PySem PySem.Spec PyProof.Rows L2 PySem.W
/-- one sign -/
def isS (c : Nat) : TP := ⟨fun v _ => v = .str ⟨#[c]⟩, fun _ _ _ _ h => h⟩
abbrev cps (y : Nm) : List Nat := y.1.cps.toList
section
variable {T : Tb} {R : Hp} {X : Cx} {ρ : List AV} {Eo : Po} {e a b tg : Expr} {pos apos p : Pos}
theorem e_sign {c : Nat} {x : Nm} (h : E T R X ρ e (isS c).p) (hx : x.1 = ⟨#[c]⟩) : E T R X ρ e (is X.K x).p := e_imp h fun v H _ p => is_nm.mpr (by rw [hx]; exact p)
theorem c_inS {c : Nat} {z : Nm} (ha : E T R X ρ a (isS c).p) (hb : E T R X ρ b (is X.K z).p) (hm : behindInMarks .In b = false := by rfl) : Cm T R X ρ (.Compare a [.In] [b] pos) (decide (c ∈ cps z)) :=
  cm (Pa := (isS c).r) (Pb := (is X.K z).r) op_inS ha hb hm fun v w H Q _ p q k => ⟨c, z.1, p, is_nm.mp q, k _ H (Ex.refl H) (is_bool.mpr rfl)⟩
theorem c_niS {c : Nat} {z : Nm} (ha : E T R X ρ a (isS c).p) (hb : E T R X ρ b (is X.K z).p) (hm : behindInMarks .NotIn b = false := by rfl) : Cm T R X ρ (.Compare a [.NotIn] [b] pos) (!decide (c ∈ cps z)) :=
  cm (Pa := (isS c).r) (Pb := (is X.K z).r) op_notInS ha hb hm fun v w H Q _ p q k => ⟨c, z.1, p, is_nm.mp q, k _ H (Ex.refl H) (is_bool.mpr rfl)⟩
theorem w_signs {y : Nm} {fr : Prop} (h : E T R X ρ e (is X.K y).p) : W T R X ρ tg e fr ((cps y).map isS) :=
  w_of (pi_str h) fun σ H H0 K en q => ⟨⟨H0, en⟩, fun v H' x p => by
    refine ⟨y.1, is_nm.mp p, q _ H' none (fun _ => True) (fun i H v H' => H' = H ∧ ∃ c, y.1.cps[i]? = some c ∧ v = .str ⟨#[c]⟩) x ⟨?_, fun _ _ _ _ _ => trivial, (fun p o z => by cases z), fun i H z H'' P _ hy hP => ?_⟩ trivial anc_none fun _ p o z => by cases z⟩
    · have e1 : ((cps y).map isS).length = y.1.cps.size := by simp
      rw [e1]
      exact walk_str
    · obtain ⟨rfl, c, h1, rfl⟩ := hy
      refine ⟨Ex.refl _, ?_⟩
      rw [List.getElem?_map, Array.getElem?_toList, h1] at hP
      cases hP
      rfl⟩
/-- t[i] -/
theorem e_ixS {y : Nm} {i : Nat} {c : Nat} (h : E T R X ρ a (is X.K y).p) (h' : E T R X ρ b (is X.K (i : Int)).p) (hl : y.1.length ≤ 1000000) (hi : (cps y)[i]? = some c) (hs : PlainIx b := by exact fun _ _ => rfl) : E T R X ρ (.Subscript a b pos) (isS c).p :=
  e_of (pe_ix ix_str h h' hs) fun σ H H0 Q en q => ⟨⟨H0, en⟩, fun v H1 x1 p1 => ⟨⟨H0, en.step x1⟩, fun w H2 x2 p2 => by
    have hS : sizeLine = 16777216 := sizeLine_eq
    exact ⟨y.1, _, c, is_nm.mp p1, is_int.mp p2, by omega, atI_get hi, q _ _ (x1.trans x2) rfl⟩⟩⟩
/-- s + t -/
theorem e_addS {x y z : Nm} (ha : E T R X ρ a (is X.K x).p) (hb : E T R X ρ b (is X.K y).p) (hl : x.1.length + y.1.length ≤ 1000000) (hz : z.1 = x.1 ++ y.1) : E T R X ρ (.BinOp a .Add b pos) (is X.K z).p :=
  e_op2 (Pa := (is X.K x).r) (Pb := (is X.K y).r) op_add_str ha hb fun v w H Q _ p q k => by
    have hS : sizeLine = 16777216 := sizeLine_eq
    exact ⟨x.1, y.1, is_nm.mp p, is_nm.mp q, by omega, k _ H (Ex.refl H) (is_nm.mpr (by rw [hz]))⟩
theorem dps_ofStrs {K : PySem.W.Frag} {H : Hp} : ∀ xs : List Nm, DpAll K H ((xs.map (·.1)).map V.str) (encs xs)
  | [] => .nil
  | x :: xs => .cons (.str x.1) (dps_ofStrs xs)
/-- a.split(b) -/
theorem n_split {x y : Nm} {xs : List Nm} (ha : E T R X ρ a (is X.K x).p) (hb : E T R X ρ b (is X.K y).p) (h0 : (y.1.length == 0) = false) (hl : x.1.length ≤ 1000000) (hx : Txt.split x.1 y.1 = xs.map (·.1))
    (hs : starEach [b] X.env = [(false, eval b X.env)] := by rfl) (hbase : attributeBase a "split" X.env (eval a X.env) = eval a X.env := by rfl) (hline : (apos.endLine == pos.line) = true := by rfl) :
    N T R X ρ (.Call (.Attribute a "split" apos) [b] [] pos) (lstO X.K xs) :=
  n_of (pe_split ha hb hs hbase hline) fun σ H H0 Q en q => ⟨⟨H0, en⟩, fun v H1 x1 p1 => ⟨⟨_, is_nm.mp p1⟩, ⟨H0, en.step x1⟩, fun w H2 x2 p2 => by
    have hS : sizeLine = 16777216 := sizeLine_eq
    refine ⟨x.1, y.1, is_nm.mp p1, by rw [is_nm.mp p2], h0, by omega, fun pp hp => ?_⟩
    rw [hx]
    exact q _ (fun a => a = pp) _ (fun a z => by rw [z]; exact (x1.trans x2).bk pp hp) ((x1.trans x2).trans (Ex.new hp)) ⟨pp, _, rfl, rfl, upd_same, dps_ofStrs xs⟩⟩⟩
/-- a.join(l) -/
theorem e_join {x z : Nm} {xs : List Nm} (ha : E T R X ρ a (is X.K x).p) (hb : E T R X ρ b (lstR X.K xs).p) (hl : ((xs.map (·.1)).map (·.length)).sum + xs.length * x.1.length ≤ 1000000) (hz : z.1 = Txt.join x.1 (xs.map (·.1)))
    (hs : starEach [b] X.env = [(false, eval b X.env)] := by rfl) (hbase : attributeBase a "join" X.env (eval a X.env) = eval a X.env := by rfl) (hline : (apos.endLine == pos.line) = true := by rfl) :
    E T R X ρ (.Call (.Attribute a "join" apos) [b] [] pos) (is X.K z).p :=
  e_of (pe_join ha hb hs hbase hline) fun σ H H0 Q en q => ⟨⟨H0, en⟩, fun v H1 x1 p1 => ⟨⟨_, is_nm.mp p1⟩, ⟨H0, en.step x1⟩, fun w H2 x2 ⟨l, vs, e1, e2, e3⟩ => by
    have e4 := dps_strs e3
    subst e4
    refine ⟨x.1, l, xs.map (·.1), is_nm.mp p1, by rw [e1], .inl e2, ?_, q _ H2 (x1.trans x2) (is_nm.mpr (by rw [hz]))⟩
    rw [List.length_map]
    omega⟩⟩
end
end Cf
set_option maxHeartbeats 4000000
/-! methods; pairs of what is told -/
namespace Cf
open PySem PySem.Spec PyProof.Rows L2 PySem.W
abbrev Bq (P : Program) (w : World) (K : PySem.W.Frag) (mg : Str → Option Value) (base : Heap) (N : List Str) (q : Str) (st : Stmt) (f : Addr) (cdv : Value) (A : Around) (outer : List Env) (s : Shared) (H : Hp) (E : XK) : Cx :=
  (cxOf C8.CX0 P w K mg base N q (defScope st) f cdv A outer s H E).nox
/-- a method of the class at C that keeps a promise -/
structure Mt (P : Program) (w : World) (K : PySem.W.Frag) (mg : Str → Option Value) (base : Heap) (C : Addr) (k : Nat) (m : Str) (sp : Sp) : Prop where
  ex : ∃ f fd ps, FnOk P w K mg base C8.CX0 k f fd ps sp ∧ Binds K fd ps [] ∧ Meth K C m f
structure MtD (K : PySem.W.Frag) (C : Addr) (m q : Str) (st : Stmt) : Prop where
  ex : ∃ f fd, FunD K m q (defArgs st) (defBody st) (defScope st) [] [] f fd ∧ Meth K C m f
section
variable {P : Program} {w : World} {K : PySem.W.Frag} {mg : Str → Option Value} {base : Heap} {T : Tb} {C : Addr}
theorem mt_of {m q : Str} {st : Stmt} {N ps : List Str} {k : Nat} {sp : Sp} (F : MtD K C m q st) (S : FnScope N ps (defScope st)) (len : ∀ vs H Q E, sp vs H Q E → vs.length = ps.length)
    (hb : ∀ (kV doc pm : Value) (an : Option Addr) (cdv ct : Value) (us : List Value), us.length = ps.length → bindArgs (PySem.W.fnOf m q (defArgs st) (defBody st) (defScope st) .none kV doc pm an cdv ct) ⟨us, []⟩ = pure (ps.zip us))
    (body : ∀ f cdv A outer s H vs Q E, Room k (A.deeper (envOfC q (defScope st) s.heap.objs.size f cdv)) → sp vs H Q E → ∃ t, PSs (Bq P w K mg base N q st f cdv A outer s H E) (defBody st) t ∧ t { nx := fun _ H' => Q .non H', rt := Q } (L2.start N vs) H) :
    Mt P w K mg base C (k + 1) m sp := by
  obtain ⟨f, fd, F, hm⟩ := F.ex
  refine ⟨f, fd, ps, F.ok S len (fun cdv A outer s H vs Q E hr h => ?_), F.bindsN hb, hm⟩
  obtain ⟨t, ht, q⟩ := body f cdv A outer s H vs Q E hr h
  exact ⟨t, ht.nox, q⟩
/-- the same, told by slots -/
theorem mtE_of {ζ : Type} {Ps : ζ → List RP} {φ : ζ → Prop} {Pf : ζ → Hp → V → Hp → Prop} {m q : Str} {st : Stmt} {N ps : List Str} {k : Nat} (F : MtD K C m q st) (S : FnScope N ps (defScope st)) (hlen : ∀ z, (Ps z).length = ps.length)
    (hb : ∀ (kV doc pm : Value) (an : Option Addr) (cdv ct : Value) (us : List Value), us.length = ps.length → bindArgs (PySem.W.fnOf m q (defArgs st) (defBody st) (defScope st) .none kV doc pm an cdv ct) ⟨us, []⟩ = pure (ps.zip us))
    (body : ∀ z f cdv A outer s H E, φ z → Room k (A.deeper (envOfC q (defScope st) s.heap.objs.size f cdv)) → Ss T H (Bq P w K mg base N q st f cdv A outer s H E) (ent (N.length - ps.length) (Ps z)) (defBody st) { rt := Pf z H, nx := fun H0 σ H' => Ex T H H' ∧ Pf z H .non H' }) :
    Mt P w K mg base C (k + 1) m (spF T Ps φ Pf) := by
  have hle : ps.length ≤ N.length := by
    have := congrArg List.length S.pre
    rw [List.length_take] at this
    omega
  refine mt_of F S (fun vs H Q E ⟨z, _, h, _⟩ => (allP_len h).trans (hlen z)) hb (fun f cdv A outer s H vs Q E hr ⟨z, hz, h, hT, q⟩ => ?_)
  refine ⟨_, body z f cdv A outer s H E hz hr, H, ?_, fun σ' H' h => q _ H' h.1 h.2, fun v H' x p => q v H' x p, fun _ _ z => z.elim, fun _ _ z => z.elim⟩
  rw [← hlen z]
  exact en_start hT h (by rw [hlen z]; exact hle)
end
/-- a pair of these -/
def pairP (K : PySem.W.Frag) (P1 P2 : TP) : TP where
  p := fun v H => ∃ a u1 u2, v = .ref a ∧ SqT K H a [u1, u2] ∧ P1.p u1 H ∧ P2.p u2 H
  st := fun v H H' e ⟨a, u1, u2, h1, h2, h3, h4⟩ => ⟨a, u1, u2, h1, sqt_ez e h2, P1.st _ _ _ e h3, P2.st _ _ _ e h4⟩
section
variable {T : Tb} {R : Hp} {X : Cx} {ρ : List AV} {Eo : Po} {e a b o : Expr} {pos apos p : Pos} {C : Addr}
theorem e_pairP {P1 P2 : TP} {kk : Nat} (h : E T R X ρ a P1.p) (h' : E T R X ρ b P2.p) (hs : starEach [a, b] X.env = (false, eval a X.env) :: starEach [b] X.env := by rfl) (hs2 : starEach [b] X.env = (false, eval b X.env) :: starEach [] X.env := by rfl) : E T R X ρ (.Tuple [a, b] kk pos) (pairP X.K P1 P2).p :=
  e_of (pe_tup (as_cons (P := P1.r) h (as_cons (P := P2.r) h' as_nil hs2) hs)) fun σ H H0 Q en q => ⟨⟨H0, en⟩, fun vs H1 x1 p1 => by
    obtain ⟨u1, u2, rfl, h1, h2⟩ := allP2 p1
    refine ⟨by show 2 ≤ sizeLine; decide, fun p hp => q _ _ (x1.trans (Ex.new hp)) ⟨p, u1, u2, rfl, SqT.of upd_same, P1.st _ _ _ (Ex.new (T := T) hp).ez h1, P2.st _ _ _ (Ex.new (T := T) hp).ez h2⟩⟩⟩
/-- o.f, an attribute -/
theorem e_fld {f : Str} {P : V → Hp → Prop} {Po : V → Hp → Prop} (h : E T R X ρ o Po) (c : Cls X.K C) (n : NoAttr X.K C f) (k : ∀ v H, Po v H → ∃ x dx fs u, v = .ref x ∧ H x = some (.ins C dx fs) ∧ fs.lookup f = some u ∧ P u H)
    (hb : attributeBase o f X.env (eval o X.env) = eval o X.env := by rfl) : E T R X ρ (.Attribute o f pos) P :=
  e_of (pe_fld h hb) fun σ H H0 Q en q => ⟨⟨H0, en⟩, fun v H1 x1 p1 => by
    obtain ⟨x, dx, fs, u, e1, h2, h3, h4⟩ := k v H1 p1
    exact ⟨x, C, dx, fs, u, e1, h2, c, n, h3, q u H1 x1 h4⟩⟩
/-- o.m() -/
theorem e_meth0 {ζ : Type} {Ps : ζ → List RP} {φ : ζ → Prop} {Pf : ζ → Hp → V → Hp → Prop} {Pr : V → Hp → Prop} {k j : Nat} {m : Str} {P0 : RP} {pl : Sem Bool} (M : Mt X.prog X.w X.K X.mg X.base C k m (spF T Ps φ Pf)) (c : Cls X.K C) (hr : Room j X.A) (hk : k ≤ j) (z : ζ) (hz : φ z) (ho : E T R X ρ o P0.p) (hps : Ps z = [P0])
    (hi : ∀ v H, P0.p v H → ∃ x dx fs, v = .ref x ∧ H x = some (.ins C dx fs) ∧ fs.lookup m = none) (hp : ∀ H v H', Ex T R H → Ex T H H' → Pf z H v H' → Pr v H')
    (ht : eval (.Call (.Attribute o m apos) [] [] pos) X.env = (do
      let ov ← eval o X.env
      standAt apos.atName
      let (f, first) ← holding [ov] (getMethod ov m pl)
      callWith pos f first (backTo pos (starEach [] X.env)) (backToKw pos (keywordEach [] X.env))) := by rfl) : E T R X ρ (.Call (.Attribute o m apos) [] [] pos) Pr := by
  obtain ⟨f, fd, ps, hf, hb, hm⟩ := M.ex
  refine e_of (pe_meth0 ho c hm hf (hr.mono hk) hb .nil pass0 ht) fun σ H H0 Q en q => ⟨⟨H0, en⟩, fun v H1 x1 p1 => ?_⟩
  obtain ⟨x, dx, fs, rfl, h2, h3⟩ := hi v H1 p1
  refine ⟨x, dx, fs, rfl, h2, h3, z, hz, ?_, x1.tb en.tab, fun v' H2 x2 p2 => q v' H2 (x1.trans x2) (hp H1 v' H2 (en.exR.trans x1) x2 p2)⟩
  rw [hps]
  exact ⟨p1, trivial⟩
end
end Cf
set_option maxHeartbeats 4000000
/-! attributes as targets; enumerate of a new list -/
namespace Cf
open PySem PySem.Spec PyProof.Rows L2 PySem.W
def gFld (K : PySem.W.Frag) (to : TE) (f : Str) : TG := fun v σ H Q => to σ H fun x H1 => ∃ a C dx fs, x = .ref a ∧ H1 a = some (.ins C dx fs) ∧ Cls K C ∧ NoAttr K C f ∧ fs.length < 1000 ∧ Q σ (upd H1 a (.ins C dx (putF f v fs)))
theorem pg_fld {X : Cx} {o : Expr} {to : TE} {f : Str} {pos : Pos} (ho : PE X o to)
    (ha : ∀ v, assign (.Attribute o f pos) X.env v = (do
      let ov ← holding [v] (eval o X.env)
      standAt pos.atName
      holding [v, ov] (setAttr ov f v)
      release [v, ov] []) := by intro _; rfl) : PG X (.Attribute o f pos) (gFld X.K to f) := by
  refine ⟨fun pins s σ H v u Q I r h => ?_⟩
  rw [ha]
  refine wpAny_bind (wpAny_holding (thn (ho.run pins s σ H _ I h) fun ov s1 ⟨x, H1, I1, r1, a, C, dx, fs, e0, h1, c, n, hl, q⟩ => ?_))
  subst e0
  obtain rfl : ov = Value.ref a := r1
  exact wpAny_bind (wpAny_standAt (wpAny_bind (wpAny_holding (setattr_ok I1 h1 c n hl r fun s2 I2 => wpAny_release ⟨σ, _, I2, q⟩))))
section
variable {T : Tb} {R : Hp} {X : Cx} {ρ : List AV} {α : Type} [DecidableEq α] [Enc α]
theorem w_enumN {xs : List α} {e : Expr} {e1 e2 : Expr} {tk : Nat} {tp p pos : Pos} {fr : Prop} (h : N T R X ρ e (lstO X.K xs)) (hm : X.mg "enumerate" = none) (hg : Gl X "enumerate" := by rfl) (hs : starEach [e] X.env = [(false, eval e X.env)] := by rfl) (hs2 : starEach [e] X.env = (false, eval e X.env) :: starEach [] X.env := by rfl) :
    W T R X ρ (.Tuple [e1, e2] tk tp) (.Call (.Name "enumerate" p) [e] [] pos) fr ((numd xs).map (is X.K)) :=
  w_of (pi_enum hg hm (pa_cons h pa_nil hs2) hs) fun σ H H0 K en q => ⟨⟨H0, en⟩, fun v S H' hS x p => by
    obtain ⟨l, vs, rfl, rfl, h3, h4⟩ := p
    have hl : H l = none := hS l rfl
    refine ⟨l, vs, rfl, SqL.of h3, ?_⟩
    have hlen : vs.length = ((numd xs).map (is X.K)).length := by rw [DpAll.len h4]; simp [encs, numd_len]
    refine q _ H' (some (l, .lst vs)) (fun H => Ez H' H ∧ AncOk (some (l, .lst vs)) H) (YPair (fun i => some (.int (i : Nat))) (fun i => vs[i]?)) x ⟨?_, fun H H'' e a' g => ⟨g.1.trans e, a'⟩, (fun p o z => by cases z; rfl), fun i H z H'' P g y hP => ?_⟩ ⟨Ez.refl H', fun p o z => by cases z; exact h3⟩ (fun p o z => by cases z; exact h3) fun _ p o z => by cases z; exact .inl hl
    · rw [← hlen]
      exact walk_enum.mono (fun H g => SqL.of (g.2 l _ rfl)) fun _ _ _ _ _ _ y => y
    · obtain ⟨Ta, u, w, rfl, hTa, rfl, e1, e2⟩ := y
      cases e1
      refine ⟨Ex.new hTa, ?_⟩
      rw [List.getElem?_map] at hP
      cases e : (numd xs)[i]? with
      | none => rw [e] at hP; cases hP
      | some qq =>
        rw [e] at hP
        cases hP
        obtain ⟨y, hy, rfl⟩ := numd_at e
        obtain ⟨d, d1, d2⟩ := DpAll.at h4 e2
        have : d = enc y := by
          unfold encs at d1
          rw [List.getElem?_map, hy] at d1
          exact (Option.some.inj d1).symm
        subst this
        refine is_pair.mpr ⟨Ta, _, _, rfl, SqT.of upd_same, is_int.mpr rfl, ?_⟩
        exact dp_ez (g.1.trans (Ex.new (T := T) hTa).ez) _ _ (Enc.pure y) d2⟩
end
theorem tabs_ins {T : Tb} {H : Hp} {x : Addr} {o u : HO} (h : H x = some o) (ht : ∀ ps, o ≠ .tbl ps) (hc : ∀ c q, o ≠ LamX.CodeO c q) (t : LamX.Tabs T H) : LamX.Tabs T (upd H x u) := fun q hq => by
  obtain ⟨ps, h1, h2, h3⟩ := t q hq
  refine ⟨ps, ?_, h2, fun pos cv hcv => ?_⟩
  · rw [upd_ne fun z => ht ps (Option.some.inj (h.symm.trans (by rw [← z]; exact h1)))]
    exact h1
  · obtain ⟨c, e1, e2⟩ := h3 pos cv hcv
    refine ⟨c, e1, ?_⟩
    rw [upd_ne fun z => hc c q.2 (Option.some.inj (h.symm.trans (by rw [← z]; exact e2)))]
    exact e2
end Cf
set_option maxHeartbeats 4000000
/-! sets whose members are tuples of numbers and such tuples -/
namespace Cf
open PySem PySem.Spec PyProof.Rows L2 PySem.W
/-! ### numbers and tuples of them -/
mutual
def numK : NestedKey → Bool
  | .num _ => true
  | .tup ks => numKs ks
  | .none => false
  | .text _ => false
def numKs : List NestedKey → Bool
  | [] => true
  | k :: ks => numK k && numKs ks
end
/-- the tuple at b is the key k -/
def Mem (h : Heap) (k : NestedKey) (b : Addr) : Prop := (NestedIs h k (.ref b) ∧ k.depth ≤ 8) ∧ numK k = true
abbrev kd (P : Program) (w : World) : HeapKind P w NestedKey := nestedKind P w
theorem Mem.stay {h h' : Heap} {k : NestedKey} {b : Addr} (m : Mem h k b) (e : ∀ b o vs n, h.get? b = some o → o.data = .seq vs n → h'.get? b = some o) : Mem h' k b := ⟨⟨NestedIs.at e _ _ m.1.1, m.1.2⟩, m.2⟩
theorem Mem.keep {h h' : Heap} {k : NestedKey} {b : Addr} (m : Mem h k b) (e : ∀ c o, h.get? c = some o → h'.get? c = some o) : Mem h' k b := m.stay fun c o _ _ q _ => e c o q
/-- the set at a is no tuple -/
theorem Mem.but {h h' : Heap} {k : NestedKey} {a b : Addr} {o : Obj} {es : Array (Int × Value)} {ep : Nat} {t : SetTable} (m : Mem h k b) (ho : h.get? a = some o) (hd : o.data = .set es ep t) (hs : Heap.SameBut a h h') : Mem h' k b :=
  m.stay fun c u vs n q hq => (hs.2 c fun z => by
    subst z
    rw [ho] at q
    cases q
    rw [hd] at hq
    cases hq).trans q
section
variable {P : Program} {w : World} {A : Around} {E : Value → Shared → Prop} {s : Shared}
/-- the loops over a tuple's items that ask the same of each and go on -/
theorem ask_items {γ : Type} {f : Value → Option γ × PUnit → Sem (ForInStep (Option γ × PUnit))} {Q : Option γ × PUnit → Shared → Prop} (vs : List Value) (h : ∀ v ∈ vs, ∀ r : Option γ × PUnit, r.1 = none → wpAny (model P w) A (f v r) (fun st s' => st = .yield r ∧ s' = s) E s)
    (r : Option γ × PUnit) (hr : r.1 = none) (q : Q r s) : wpAny (model P w) A (forIn vs r f) Q E s := by
  induction vs with
  | nil =>
    rw [List.forIn_nil]
    exact wpAny_pure q
  | cons v vs ih =>
    rw [List.forIn_cons]
    refine wpAny_bind (wpAny_mono (h v List.mem_cons_self r hr) (fun st s' e => ?_) fun _ _ e => e)
    obtain ⟨e1, e2⟩ := e
    subst e1
    subst e2
    exact ih fun u hu => h u (List.mem_cons_of_mem _ hu)
theorem numKs_mem : ∀ {ks : List NestedKey} {vs : List Value} {h : Heap}, numKs ks = true → NestedAll h ks vs → ∀ v ∈ vs, ∃ k ∈ ks, numK k = true ∧ NestedIs h k v
  | [], _, _, _, x, v, hv => by cases x; cases hv
  | k :: ks, _, h, n, x, v, hv => by
    have n : (numK k && numKs ks) = true := n
    rw [Bool.and_eq_true] at n
    cases x with
    | cons h1 h2 =>
      rcases List.mem_cons.mp hv with e | hv
      · subst e
        exact ⟨k, List.mem_cons_self, n.1, h1⟩
      · obtain ⟨k', a, b, c⟩ := numKs_mem n.2 h2 v hv
        exact ⟨k', List.mem_cons_of_mem _ a, b, c⟩
theorem depth_mem {k : NestedKey} : ∀ {ks : List NestedKey}, k ∈ ks → k.depth ≤ NestedKey.depthAll ks
  | j :: ks, h => by
    show k.depth ≤ max j.depth (NestedKey.depthAll ks)
    rcases List.mem_cons.mp h with e | h
    · rw [e]
      exact Nat.le_max_left _ _
    · exact Nat.le_trans (depth_mem h) (Nat.le_max_right _ _)
/-- of no class statement -/
theorem noCls : ∀ (n : Nat) (k : NestedKey) (v : Value) {Q : Bool → Shared → Prop}, numK k = true → NestedIs s.heap k v → k.depth ≤ n → Q false s → wpAny (model P w) A (ofAClassStatement n v) Q E s
  | n, .num i, v, Q, _, x, _, q => by
    cases x with
    | bool _ => cases n <;> exact wpAny_pure q
    | int _ t => cases n <;> exact wpAny_pure q
  | n, .none, _, _, hn, _, _, _ => by cases hn
  | n, .text _, _, _, hn, _, _, _ => by cases hn
  | 0, .tup ks, _, _, _, _, hd, _ => absurd hd (by show ¬ (NestedKey.depthAll ks + 1 ≤ 0); omega)
  | n + 1, .tup ks, v, Q, hn, x, hd, q => by
    cases x with
    | @tup a o vs m _ h1 h2 h3 h4 =>
      have hT : s.TypeIs (.ref a) "tuple" := ⟨o, h1, h2⟩
      unfold ofAClassStatement
      refine wpAny_bind (wpAny_typeOf hT ?_)
      dsimp only
      have e : (("tuple" : String) == "tuple") = true := by decide
      simp only [e, if_true, Bool.not_true, Bool.false_eq_true, if_false]
      try refine wpAny_bind (wpAny_pure ?_)
      try simp only [Bool.not_true, Bool.false_eq_true, if_false]
      show wpAny _ _ (seqItems? (.ref a) >>= _) _ _ s
      refine wpAny_bind (wpAny_seqItems h1 h3 ?_)
      dsimp only
      refine wpAny_bind ?_
      show wpAny _ _ (forIn vs _ _) _ _ s
      rw [← Array.forIn_toList]
      refine ask_items vs.toList (fun u hu r hr => ?_) _ rfl ?_
      · obtain ⟨k, hk, g1, g2⟩ := numKs_mem hn h4 u hu
        have g3 := depth_mem hk
        have hd : NestedKey.depthAll ks + 1 ≤ n + 1 := hd
        refine wpAny_bind (noCls n k u g1 g2 (by omega) ?_)
        simp only [Bool.false_eq_true, if_false]
        obtain ⟨r1, r2⟩ := r
        have hr : r1 = none := hr
        subst hr
        exact wpAny_pure ⟨rfl, rfl⟩
      · exact wpAny_pure q
theorem byVal : ∀ (n : Nat) (k : NestedKey) (v : Value) {Q : Bool → Shared → Prop}, numK k = true → NestedIs s.heap k v → k.depth ≤ n → Q true s → wpAny (model P w) A (hashByValue n v) Q E s
  | n, .num i, v, Q, _, x, _, q => by
    cases x with
    | bool _ => cases n <;> exact wpAny_pure q
    | int _ t => cases n <;> exact wpAny_pure q
  | n, .none, _, _, hn, _, _, _ => by cases hn
  | n, .text _, _, _, hn, _, _, _ => by cases hn
  | 0, .tup ks, _, _, _, _, hd, _ => absurd hd (by show ¬ (NestedKey.depthAll ks + 1 ≤ 0); omega)
  | n + 1, .tup ks, v, Q, hn, x, hd, q => by
    cases x with
    | @tup a o vs m _ h1 h2 h3 h4 =>
      have hT : s.TypeIs (.ref a) "tuple" := ⟨o, h1, h2⟩
      unfold hashByValue
      refine wpAny_bind (wpAny_specialOf hT PySem.F.slot_tuple_hash.lookup ?_)
      show wpAny _ _ (seqItems? (.ref a) >>= _) _ _ s
      refine wpAny_bind (wpAny_seqItems h1 h3 ?_)
      refine wpAny_bind ?_
      show wpAny _ _ (forIn vs _ _) _ _ s
      rw [← Array.forIn_toList]
      refine ask_items vs.toList (fun u hu r hr => ?_) _ rfl ?_
      · obtain ⟨k, hk, g1, g2⟩ := numKs_mem hn h4 u hu
        have g3 := depth_mem hk
        have hd : NestedKey.depthAll ks + 1 ≤ n + 1 := hd
        refine wpAny_bind (byVal n k u g1 g2 (by omega) ?_)
        simp only [Bool.not_true, Bool.false_eq_true, if_false]
        obtain ⟨r1, r2⟩ := r
        have hr : r1 = none := hr
        subst hr
        exact wpAny_pure ⟨rfl, rfl⟩
      · exact wpAny_pure q
/-- nothing is seen of a search -/
theorem unseen {k : NestedKey} {b : Addr} {Q : Bool → Shared → Prop} (hk : Mem s.heap k b) {ys : List Value} (hy : ∀ y ∈ ys, ∃ k' c, y = Value.ref c ∧ Mem s.heap k' c) (h : Q false s) : wpAny (model P w) A (searchCouldBeSeen (.ref b) ys) Q E s := by
  unfold searchCouldBeSeen
  refine wpAny_bind (ask_items ys (fun v hv r hr => ?_) _ rfl ?_)
  · obtain ⟨k', c, rfl, hc⟩ := hy v hv
    obtain ⟨r1, r2⟩ := r
    have hr : r1 = none := hr
    subst hr
    dsimp only
    by_cases hvv : (b == c || (carriedByValue (.ref b) && carriedByValue (.ref c))) = true
    · exact wp_if_pos hvv (wpAny_pure ⟨rfl, rfl⟩)
    · refine wp_if_neg hvv ?_
      refine wpAny_bind ((kd P w).quiet hk.1 ?_)
      simp only [Bool.not_true, Bool.false_eq_true, if_false]
      refine wpAny_bind ((kd P w).quiet hc.1 ?_)
      simp only [Bool.not_true, Bool.false_eq_true, if_false]
      refine wpAny_bind (noCls 8 k (.ref b) hk.2 hk.1.1 hk.1.2 ?_)
      simp only [Bool.false_eq_true, if_false]
      refine wpAny_bind (noCls 8 k' (.ref c) hc.2 hc.1.1 hc.1.2 ?_)
      simp only [Bool.false_eq_true, if_false]
      exact wpAny_pure ⟨rfl, rfl⟩
  · exact wpAny_pure h
end
end Cf
set_option maxHeartbeats 4000000
/-! the table of such a set: looking for one, putting one in -/
namespace Cf
open PySem PySem.Spec PyProof.Rows L2 PySem.W
abbrev hk (w : World) (k : NestedKey) : Int := k.hash w
abbrev rows (w : World) (L : List (Addr × NestedKey)) : List (Int × Value) := L.map fun p => (hk w p.2, Value.ref p.1)
/-- the set at a has the members L, in its table's sequence -/
structure SetN (w : World) (h : Heap) (a : Addr) (L : List (Addr × NestedKey)) (es : Array (Int × Value)) (ep : Nat) (t : SetTable) : Prop where
  ob : ∃ o, h.get? a = some o ∧ o.ExactSet ∧ o.data = .set es ep t
  rw_ : es.toList = rows w L
  tab : TabOk t (L.map fun p => hk w p.2)
  nd : (L.map (·.2)).Nodup
  mem : ∀ p ∈ L, Mem h p.2 p.1
  plain : t.plain = true
  led : w.params.followText "set-order" = true ∨ t.led = true
  room : L.length * 5 < t.mask * 3
  few : L.length < 64
theorem rows_len {w : World} {L : List (Addr × NestedKey)} {es : Array (Int × Value)} (h : es.toList = rows w L) : es.size = L.length := by
  have e := congrArg List.length h
  rwa [Array.length_toList, List.length_map] at e
theorem rows_get {w : World} {L : List (Addr × NestedKey)} {es : Array (Int × Value)} (h : es.toList = rows w L) {i : Nat} {p : Addr × NestedKey} (e : L[i]? = some p) : es[i]? = some (hk w p.2, Value.ref p.1) := by
  rw [← Array.getElem?_toList, h, List.getElem?_map, e]
  rfl
theorem fits_of {t : SetTable} {n : Nat} (h1 : t.place.size = n) (h2 : t.dummies = #[]) (h3 : n ≤ t.mask) : t.fits n = true := by
  unfold SetTable.fits SetTable.fill
  rw [h2, Bool.and_eq_true, beq_iff_eq, decide_eq_true_eq]
  refine ⟨h1, ?_⟩
  show t.place.size + 0 ≤ t.mask
  omega
section
variable {P : Program} {w : World} {A : Around} {E : Value → Shared → Prop} {s : Shared} {a : Addr} {L : List (Addr × NestedKey)} {es : Array (Int × Value)} {ep : Nat} {t : SetTable}
theorem SetN.psz (R : SetN w s.heap a L es ep t) : t.place.size = L.length := by
  have h := R.tab.sz
  rwa [List.length_map] at h
theorem SetN.fits (R : SetN w s.heap a L es ep t) : t.fits es.size = true := by
  have h1 := R.psz
  have h2 := rows_len R.rw_
  have h3 := R.room
  exact fits_of (by omega) R.tab.dm (by omega)
theorem SetN.stays (R : SetN w s.heap a L es ep t) : ¬ t.gaveWay = true := by
  unfold SetTable.gaveWay
  rw [mask_odd R.tab.mok]
  decide
theorem SetN.place (R : SetN w s.heap a L es ep t) {i : Nat} {p : Addr × NestedKey} (e : L[i]? = some p) : ∃ j, t.place.toList[i]? = some j := by
  have h1 := R.psz
  have h2 := (List.getElem?_eq_some_iff.mp e).1
  exact ⟨_, List.getElem?_eq_getElem (by rw [Array.length_toList, h1]; exact h2)⟩
abbrev stp (t : SetTable) (h : Int) : SetTable.Probe := runAt t.mask (SetTable.bits h % (t.mask + 1)) (SetTable.bits h)
theorem nth_add (m : Nat) (p : SetTable.Probe) : ∀ c q, nth m (nth m p c) q = nth m p (c + q) := by
  intro c
  induction c generalizing p with
  | zero =>
    intro q
    rw [Nat.zero_add]
    rfl
  | succ c ih =>
    intro q
    rw [show c + 1 + q = c + q + 1 by omega]
    exact ih (adv m p) q
theorem nth_plain (m : Nat) (p : SetTable.Probe) (h : p.dummy = none) : ∀ n, (nth m p n).dummy = none := by
  intro n
  induction n generalizing p with
  | zero => exact h
  | succ n ih =>
    refine ih (adv m p) ?_
    unfold adv
    split <;> exact h
/-- a step of the search and all behind it; c: how many steps are done, all of k's kind lie ahead -/
theorem look_from (R : SetN w s.heap a L es ep t) {x : Addr} {k : NestedKey} (hx : Mem s.heap k x) (hu : A.units + 8 < cLine) {n : Nat} (hn : n < 10 * SetTable.turns t.mask) (h1 : way t.mask (hk w k) n ∉ t.place.toList) (h2 : ∀ c, c < n → way t.mask (hk w k) c ∈ t.place.toList) {Q : SetFound → Shared → Prop}
    (hin : k ∈ L.map (·.2) → Q (.there none) s) (hout : k ∉ L.map (·.2) → Q (.free (way t.mask (hk w k) n) false) s) (f : Nat) :
    ∀ (c : Nat) (stand : Option SetTable.Probe), stand.getD (t.probeStart (hk w k)) = nth t.mask (stp t (hk w k)) c → c ≤ n → n - c < f →
      (∀ (i : Nat) p, L[i]? = some p → p.2 = k → ∃ c', c ≤ c' ∧ c' < n ∧ t.place.toList[i]? = some (way t.mask (hk w k) c')) → wpAny (model P w) A (setSearchFrom a (.ref x) (hk w k) true f stand) Q E s := by
  induction f with
  | zero => intro c stand _ _ hf; exact absurd hf (Nat.not_lt_zero _)
  | succ f ih =>
    intro c stand hst hc hf ahead
    obtain ⟨o, ho, hex, hd⟩ := R.ob
    rw [setSearchFrom_succ]
    refine wpAny_bind (wpAny_setState_of ho hd R.fits ?_)
    dsimp only
    refine wp_if_neg R.stays ?_
    try refine wpAny_bind (wpAny_pure ?_)
    have ej : ∀ q, (nth t.mask (nth t.mask (stp t (hk w k)) c) q).j = way t.mask (hk w k) (c + q) := fun q => congrArg SetTable.Probe.j (nth_add t.mask (stp t (hk w k)) c q)
    have key : ∀ (i : Nat) p, L[i]? = some p → (fun i => (es[i]?.map (·.1)).getD 0) i = hk w p.2 := fun i p e => by
      show (es[i]?.map (·.1)).getD 0 = _
      rw [rows_get R.rw_ e]
      rfl
    have step := go_spec t R.tab.ris R.tab.dm (fun i => (es[i]?.map (·.1)).getD 0) (hk w k) (10 * SetTable.turns t.mask) (n - c) (nth t.mask (stp t (hk w k)) c) (nth_plain _ _ rfl c) (by omega)
      (fun q hq => by rw [ej]; exact h2 (c + q) (by omega)) (by rw [ej, show c + (n - c) = n by omega]; exact h1)
    rcases step with ⟨q, i, hq, hi, hh, hno, hpr⟩ | ⟨hno, hpr⟩
    · have hpr2 : t.probe (fun i => (es[i]?.map (·.1)).getD 0) (hk w k) (stand.getD (t.probeStart (hk w k))) = some (.candidate (way t.mask (hk w k) (c + q)) i (nth t.mask (stp t (hk w k)) (c + (q + 1)))) := by
        rw [hst, ← ej, ← nth_add]
        exact hpr
      rw [hpr2]
      dsimp only
      rw [ej] at hi
      have hil : i < L.length := by
        have z1 := (List.getElem?_eq_some_iff.mp hi).1
        have z2 := R.psz
        rw [Array.length_toList] at z1
        omega
      obtain ⟨p, hp⟩ : ∃ p, L[i]? = some p := ⟨_, List.getElem?_eq_getElem hil⟩
      have hm := List.mem_of_getElem? hp
      have go : wpAny (model P w) A (searchRest a (.ref x) (hk w k) true f es t (way t.mask (hk w k) (c + q)) i (nth t.mask (stp t (hk w k)) (c + (q + 1)))) Q E s := by
        unfold searchRest
        rw [rows_get R.rw_ hp]
        dsimp only
        refine wpAny_bind (wpAny_holding ((kd P w).eqBool (x := p.2) (y := k) (show A.units + 8 < cLine from hu) (R.mem p hm).1 hx.1 ?_))
        refine wpAny_bind (wpAny_setState_of ho hd R.fits ?_)
        dsimp only
        by_cases hkk : p.2 = k
        · exact wp_if_pos (by simp [hkk]) (wpAny_pure (hin (List.mem_map.mpr ⟨p, hm, hkk⟩)))
        · refine wp_if_neg (by simp [hkk]) ?_
          try refine wpAny_bind (wpAny_pure ?_)
          rw [sameMem]
          dsimp only
          have hsl := slot_live R.tab.ris hi
          simp only [if_true, hsl, rows_get R.rw_ hp]
          refine wpAny_bind (wpAny_isSame_ref_self (wpAny_bind (wpAny_pure ?_)))
          simp only [if_true]
          refine wp_if_neg (by simp [hkk]) ?_
          refine ih (c + (q + 1)) _ rfl (by omega) (by omega) fun i0 p0 e0 k0 => ?_
          obtain ⟨c', z1, z2, z3⟩ := ahead i0 p0 e0 k0
          refine ⟨c', ?_, z2, z3⟩
          rcases Nat.lt_trichotomy c' (c + q) with y | y | y
          · exact absurd ((key i0 p0 e0).trans (congrArg (hk w) k0)) (hno (c' - c) i0 (by omega) (by rw [ej, show c + (c' - c) = c' by omega]; exact z3))
          · rw [y] at z3
            have s0 := slot_live R.tab.ris z3
            rw [hsl] at s0
            injection s0 with s0
            rw [← s0, hp] at e0
            exact absurd ((congrArg Prod.snd (Option.some.inj e0)).trans k0) hkk
          · omega
      by_cases hl : t.led = true
      · refine wp_if_neg (by simp [hl]) ?_
        try refine wpAny_bind (wpAny_pure ?_)
        exact go
      · refine wp_if_pos (by simp [hl]) ?_
        refine wpAny_bind (unseen hx (fun y hy => ?_) ?_)
        · obtain ⟨e, he, ee⟩ := List.mem_map.mp hy
          have he1 : e ∈ es ∧ e.1 = hk w k := by simpa using he
          have he2 : e ∈ es.toList := by simpa using he1.1
          rw [R.rw_] at he2
          obtain ⟨p2, g1, g2⟩ := List.mem_map.mp he2
          exact ⟨p2.2, p2.1, by rw [← ee, ← g2], R.mem p2 g1⟩
        · refine wp_if_neg (by decide) ?_
          try refine wpAny_bind (wpAny_pure ?_)
          exact go
    · have hpr2 : t.probe (fun i => (es[i]?.map (·.1)).getD 0) (hk w k) (stand.getD (t.probeStart (hk w k))) = some (.empty (way t.mask (hk w k) n) none) := by
        have e2 : way t.mask (hk w k) n = (nth t.mask (nth t.mask (stp t (hk w k)) c) (n - c)).j := by rw [ej, show c + (n - c) = n by omega]
        rw [hst, e2]
        exact hpr
      rw [hpr2]
      dsimp only
      refine wpAny_pure (hout fun hm => ?_)
      obtain ⟨p0, g1, g2⟩ := List.mem_map.mp hm
      obtain ⟨i0, g3, g4⟩ := List.getElem_of_mem g1
      have e0 : L[i0]? = some p0 := by rw [List.getElem?_eq_getElem g3, g4]
      obtain ⟨c', z1, z2, z3⟩ := ahead i0 p0 e0 g2
      exact hno (c' - c) i0 (by omega) (by rw [ej, show c + (c' - c) = c' by omega]; exact z3) ((key i0 p0 e0).trans (congrArg (hk w) g2))
/-- the search -/
theorem look (R : SetN w s.heap a L es ep t) {x : Addr} {k : NestedKey} (hx : Mem s.heap k x) (hu : A.units + 8 < cLine) {Q : SetFound → Shared → Prop} (hin : k ∈ L.map (·.2) → Q (.there none) s)
    (hout : ∀ n, k ∉ L.map (·.2) → way t.mask (hk w k) n ∉ t.place.toList → (∀ c, c < n → way t.mask (hk w k) c ∈ t.place.toList) → Q (.free (way t.mask (hk w k) n) false) s) : wpAny (model P w) A (setSearch a (.ref x) (hk w k) true) Q E s := by
  have hroom := R.room
  obtain ⟨n, hn, h1, h2⟩ := R.tab.first (by rw [List.length_map]; omega) (hk w k)
  have hbig : n < 100000 := by
    have : 10 * SetTable.turns t.mask ≤ 1420 := by
      unfold SetTable.turns
      rcases R.tab.mok with e | e | e <;> omega
    omega
  unfold setSearch
  refine look_from R hx hu hn h1 h2 hin (fun hm => hout n hm h1 h2) 100000 0 none rfl (Nat.zero_le _) (by omega) fun i p e ek => ?_
  obtain ⟨j, hj⟩ := R.place e
  have hi : (L.map fun p => hk w p.2)[i]? = some (hk w k) := by rw [List.getElem?_map, e, ← ek]; rfl
  obtain ⟨c, hc, ec⟩ := R.tab.before h1 hi hj
  exact ⟨c, Nat.zero_le _, hc, by rw [hj, ec]⟩
end
end Cf
set_option maxHeartbeats 4000000
/-! one put into such a set; set(list) -/
namespace Cf
open PySem PySem.Spec PyProof.Rows L2 PySem.W
theorem take_put {w : World} (L : List (Addr × NestedKey)) (p : Nat) (x : Addr) (k : NestedKey) : rows w (L.take p ++ (x, k) :: L.drop p) = (rows w L).take p ++ (hk w k, Value.ref x) :: (rows w L).drop p := by
  show List.map _ _ = List.take p (List.map _ _) ++ _ :: List.drop p (List.map _ _)
  rw [List.map_append, List.map_cons, List.map_take, List.map_drop]
/-- entries laid in another sequence -/
theorem laid_anew {w : World} (L : List (Addr × NestedKey)) (es : Array (Int × Value)) (order : Array Nat) (hr : es.toList = rows w L) (hp : order.toList.Perm (List.range L.length)) :
    ∃ M, (order.filterMap (es[·]?)).toList = rows w M ∧ M.Perm L ∧ (M.map fun p => hk w p.2) = order.toList.map fun i => (es.map (·.1)).getD i 0 := by
  have hz := rows_len hr
  have each : ∀ l : List Nat, (∀ i ∈ l, i < L.length) → l.filterMap (fun i => es[i]?) = rows w (l.filterMap fun i => L[i]?) ∧ ((l.filterMap fun i => L[i]?).map fun p => hk w p.2) = l.map fun i => (es.map (·.1)).getD i 0 := by
    intro l
    induction l with
    | nil => intro _; exact ⟨rfl, rfl⟩
    | cons i l ih =>
      intro hl
      have hi := hl i List.mem_cons_self
      obtain ⟨e1, e2⟩ := ih fun j hj => hl j (List.mem_cons_of_mem _ hj)
      have g1 : L[i]? = some L[i] := List.getElem?_eq_getElem hi
      have g2 := rows_get hr g1
      rw [List.filterMap_cons_some g1, List.filterMap_cons_some g2, e1, List.map_cons, List.map_cons, e2]
      refine ⟨rfl, ?_⟩
      have g3 : (es.map (·.1))[i]? = some (hk w (L[i]).2) := by rw [Array.getElem?_map, g2]; rfl
      rw [show (es.map (·.1)).getD i 0 = hk w (L[i]).2 from by simp [Array.getD_eq_getD_getElem?, g3]]
  obtain ⟨e1, e2⟩ := each order.toList fun i hi => List.mem_range.mp (hp.mem_iff.mp hi)
  refine ⟨order.toList.filterMap fun i => L[i]?, by rw [Array.toList_filterMap]; exact e1, ?_, e2⟩
  refine (hp.filterMap fun i => L[i]?).trans ?_
  have all : ∀ n, n ≤ L.length → (List.range n).filterMap (fun i => L[i]?) = L.take n := by
    intro n
    induction n with
    | zero => intro _; rfl
    | succ n ih =>
      intro hn
      rw [List.range_succ, List.filterMap_append, ih (by omega), List.take_add_one, List.getElem?_eq_getElem (show n < L.length by omega), List.filterMap_cons_some (List.getElem?_eq_getElem (show n < L.length by omega))]
      rfl
  rw [all L.length (Nat.le_refl _), List.take_length]
section
variable {P : Program} {w : World} {A : Around} {E : Value → Shared → Prop} {s : Shared} {a : Addr} {L : List (Addr × NestedKey)} {es : Array (Int × Value)} {ep : Nat} {t : SetTable}
/-- the table made larger -/
theorem relay {o : Obj} (ho : s.heap.get? a = some o) (hex : o.ExactSet) (hd : o.data = .set es ep t) (hr : es.toList = rows w L) (hp : t.place.size = es.size) (hdm : t.dummies = #[]) (hfl : es.size ≤ t.mask) (nd : (L.map (·.2)).Nodup) (mem : ∀ p ∈ L, Mem s.heap p.2 p.1) (pl : t.plain = true)
    (ld : w.params.followText "set-order" = true ∨ t.led = true) (few : L.length < 64) {wanted m : Nat} (h1 : SetTable.sizeAbove wanted - 1 = m) (h2 : MaskOk m) (h3 : SetTable.sizeAbove wanted ≤ 128) (h4 : L.length * 5 < m * 3) {Q : Unit → Shared → Prop}
    (hQ : ∀ h' L' es' ep' t', Heap.SameBut a s.heap h' → SetN w h' a L' es' ep' t' → L'.Perm L → Q () { s with heap := h' }) : wpAny (model P w) A (setRelay a wanted) Q E s := by
  have hz := rows_len hr
  have hS : sizeLine = 16777216 := sizeLine_eq
  obtain ⟨t', order, e, op, tb, em, el, epl, ed⟩ := relaid_ok t (hs := es.map (·.1)) (wanted := wanted) h1 h2 (by rw [Array.size_map]; omega)
  rw [Array.size_map, hz] at op
  obtain ⟨M, r1, r2, r3⟩ := laid_anew L es order hr op
  rw [← r3] at tb
  have hM := rows_len r1
  have hML := r2.length_eq
  rw [setRelay_eq]
  refine wpAny_bind (wpAny_setState_of ho hd (fits_of hp hdm hfl) ?_)
  dsimp only
  refine wp_if_neg (by omega) ?_
  try refine wpAny_bind (wpAny_pure ?_)
  rw [e]
  dsimp only
  refine wpAny_bind ?_
  refine wp_if_neg (by rw [hM, hML, hz]; simp) ?_
  try refine wpAny_bind (wpAny_pure ?_)
  refine wpAny_pure ?_
  dsimp only
  refine wpAny_storeSet_of ho hd ?_ (by omega)
  have sb : Heap.SameBut a s.heap (s.heap.update a (Obj.putSet (order.filterMap (es[·]?)) t')) := Heap.SameBut.update ..
  exact hQ _ M _ _ _ sb ⟨⟨_, store_at ho hd, ⟨hex.1, hex.2.1, hex.2.2⟩, rfl⟩, r1, tb, (r2.map (·.2)).nodup_iff.mpr nd, fun p hm => (mem p (r2.mem_iff.mp hm)).but ho hd sb, by rw [epl]; exact pl, by rw [el]; exact ld, by omega, by omega⟩ r2
/-- put in -/
theorem put_in (R : SetN w s.heap a L es ep t) {x : Addr} {k : NestedKey} (hx : Mem s.heap k x) (hu : A.units + 8 < cLine) (hfew : L.length + 1 < 64) {Q : Bool → Shared → Prop}
    (hQ : ∀ b h' L' es' ep' t', Heap.SameBut a s.heap h' → SetN w h' a L' es' ep' t' → (k ∈ L.map (·.2) → L' = L) → (k ∉ L.map (·.2) → L'.Perm ((x, k) :: L)) → Q b { s with heap := h' }) : wpAny (model P w) A (setAddHashed a (.ref x) (hk w k)) Q E s := by
  obtain ⟨o, ho, hex, hd⟩ := R.ob
  have hz := rows_len R.rw_
  have hroom := R.room
  have hS : sizeLine = 16777216 := sizeLine_eq
  unfold setAddHashed
  refine wpAny_holding ?_
  rw [show (100000 : Nat) = 99999 + 1 from rfl, setAddHashedIn_succ]
  refine wpAny_bind (wpAny_setState_of ho hd R.fits ?_)
  dsimp only
  refine wp_if_neg (by simp [byScan, Value.scannable]) ?_
  try refine wpAny_bind (wpAny_pure ?_)
  refine wpAny_bind (look R hx hu (fun hm => ?_) fun n hm hn hb => ?_)
  · dsimp only
    exact wpAny_pure (hQ false s.heap L es ep t (Heap.SameBut.refl a s.heap) R (fun _ => rfl) fun z => absurd hm z)
  · dsimp only
    refine wpAny_bind (wpAny_setState_of ho hd R.fits ?_)
    dsimp only
    obtain ⟨q1, q2, q3, q4, q5, q6, q7, q8, q9⟩ := R.tab.put hn hb
    obtain ⟨t1, pp, ept⟩ : ∃ t1 pp, t.put (way t.mask (hk w k) n) = (t1, pp) := ⟨_, _, rfl⟩
    rw [ept] at q1 q3 q4 q5 q6 q9 ⊢
    dsimp only at q1 q3 q4 q5 q6 q9 ⊢
    have hp1 : t1.plain = true := by rw [q6]; exact R.plain
    first
      | (refine wpAny_bind ?_; refine wp_if_pos hp1 ?_; refine byVal 8 k _ hx.2 hx.1.1 hx.1.2 ?_)
      | refine wp_if_pos hp1 (wpAny_bind (byVal 8 k _ hx.2 hx.1.1 hx.1.2 ?_))
    simp only [if_true]
    rw [← q1] at q2 q3
    have eL : (SetTable.insertAt es pp (hk w k, Value.ref x)).toList = rows w (L.take pp ++ (x, k) :: L.drop pp) := by rw [SetTable.toList_insertAt, take_put, R.rw_]
    have pm : (L.take pp ++ (x, k) :: L.drop pp).Perm ((x, k) :: L) := put_perm L pp (x, k)
    have et : (L.map fun p => hk w p.2).take pp ++ hk w k :: (L.map fun p => hk w p.2).drop pp = (L.take pp ++ (x, k) :: L.drop pp).map fun p => hk w p.2 := by rw [List.map_append, List.map_cons, List.map_take, List.map_drop]
    rw [et] at q3
    obtain ⟨L1, eL1⟩ : ∃ L1, L1 = L.take pp ++ (x, k) :: L.drop pp := ⟨_, rfl⟩
    obtain ⟨es1, ees⟩ : ∃ es1, es1 = SetTable.insertAt es pp (hk w k, Value.ref x) := ⟨_, rfl⟩
    rw [← eL1] at eL pm q3
    rw [← ees] at eL ⊢
    have z1 := rows_len eL
    have z2 : L1.length = L.length + 1 := pm.length_eq
    have nd1 : (L1.map (·.2)).Nodup := (pm.map (·.2)).nodup_iff.mpr (by rw [List.map_cons]; exact List.nodup_cons.mpr ⟨hm, R.nd⟩)
    refine wpAny_bind (wpAny_storeSet_of ho hd ?_ (by omega))
    have sb : Heap.SameBut a s.heap (s.heap.update a (Obj.putSet es1 t1)) := Heap.SameBut.update ..
    have ho1 := store_at (es' := es1) (t' := t1) ho hd
    obtain ⟨h1, eh1⟩ : ∃ h1, h1 = s.heap.update a (Obj.putSet es1 t1) := ⟨_, rfl⟩
    rw [← eh1] at sb ho1 ⊢
    have mem1 : ∀ p ∈ L1, Mem h1 p.2 p.1 := fun p hp => by
      rcases List.mem_cons.mp (pm.mem_iff.mp hp) with e | hp
      · rw [e]
        exact hx.but ho hd sb
      · exact (R.mem p hp).but ho hd sb
    have ld1 : w.params.followText "set-order" = true ∨ t1.led = true := by rw [q5]; exact R.led
    have hps : t1.place.size = L1.length := by
      have h := q3.sz
      rwa [List.length_map] at h
    by_cases hf : t1.tooFull = true
    · first
        | (refine wpAny_bind ?_; refine wp_if_pos (by simp [hf]) ?_)
        | (refine wp_if_pos (by simp [hf]) ?_; refine wpAny_bind ?_)
      have hfull : (L.length + 1) * 5 ≥ t1.mask * 3 := by
        unfold SetTable.tooFull at hf
        rw [decide_eq_true_eq, q9, List.length_map] at hf
        exact hf
      rw [hz]
      have two : (t.mask = 7 ∧ L.length = 4) ∨ (t.mask = 31 ∧ L.length = 18) := by
        rcases R.tab.mok with e | e | e
        · left; rw [q4, e] at hfull; rw [e] at hroom; exact ⟨e, by omega⟩
        · right; rw [q4, e] at hfull; rw [e] at hroom; exact ⟨e, by omega⟩
        · exfalso; rw [q4, e] at hfull; omega
      have go : ∀ m, SetTable.sizeAbove (SetTable.grown (L.length + 1)) - 1 = m → MaskOk m → SetTable.sizeAbove (SetTable.grown (L.length + 1)) ≤ 128 → (L.length + 1) * 5 < m * 3 →
          wpAny (model P w) A (setRelay a (SetTable.grown (L.length + 1))) (fun _ s' => wpAny (model P w) A (pure true) Q E s') E { s with heap := h1 } := fun m m1 m2 m3 m4 =>
        relay (s := { s with heap := h1 }) ho1 ⟨hex.1, hex.2.1, hex.2.2⟩ rfl eL (by omega) q3.dm (by rw [q4]; rcases two with ⟨e, e2⟩ | ⟨e, e2⟩ <;> omega) nd1 mem1 hp1 ld1 (by omega) m1 m2 m3 (by omega) fun h2 L2 es2 ep2 t2 sb2 R2 pm2 =>
          wpAny_pure (hQ true h2 L2 es2 ep2 t2 (sb.trans sb2) R2 (fun z => absurd z hm) fun _ => pm2.trans pm)
      rcases two with ⟨_, e2⟩ | ⟨_, e2⟩
      · exact go 31 (by rw [e2, size_20]) (.inr (.inl rfl)) (by rw [e2, size_20]; decide) (by omega)
      · exact go 127 (by rw [e2, size_76]) (.inr (.inr rfl)) (by rw [e2, size_76]; decide) (by omega)
    · first
        | refine wp_if_neg (by simp [hf]) ?_
        | (refine wpAny_bind ?_; refine wp_if_neg (by simp [hf]) ?_; refine wpAny_pure ?_)
      refine wpAny_pure (hQ true h1 L1 es1 (ep + 1) t1 sb ⟨⟨_, ho1, ⟨hex.1, hex.2.1, hex.2.2⟩, rfl⟩, eL, q3, nd1, mem1, hp1, ld1, ?_, by omega⟩ (fun z => absurd z hm) fun _ => pm)
      have h := hf
      unfold SetTable.tooFull at h
      rw [decide_eq_true_eq, q9, List.length_map] at h
      omega
end
end Cf
set_option maxHeartbeats 4000000
/-! set(list), sorted(set(list)) -/
namespace Cf
open PySem PySem.Spec PyProof.Rows L2 PySem.W
/-- what stands in the set after the first i -/
structure Upto (ks : List (Addr × NestedKey)) (i : Nat) (L : List (Addr × NestedKey)) : Prop where
  from_ : ∀ p ∈ L, p ∈ ks.take i
  all : ∀ p ∈ ks.take i, p.2 ∈ L.map (·.2)
  le : L.length ≤ i
theorem Upto.next {ks L L' : List (Addr × NestedKey)} {i : Nat} {x : Addr × NestedKey} (g : Upto ks i L) (h : ks[i]? = some x) (h1 : x.2 ∈ L.map (·.2) → L' = L) (h2 : x.2 ∉ L.map (·.2) → L'.Perm (x :: L)) : Upto ks (i + 1) L' := by
  have et : ks.take (i + 1) = ks.take i ++ [x] := by rw [List.take_add_one, h]; rfl
  by_cases hm : x.2 ∈ L.map (·.2)
  · rw [h1 hm]
    refine ⟨fun p hp => by rw [et]; exact List.mem_append_left _ (g.from_ p hp), fun p hp => ?_, Nat.le_succ_of_le g.le⟩
    rw [et] at hp
    rcases List.mem_append.mp hp with z | z
    · exact g.all p z
    · rw [List.mem_singleton.mp z]
      exact hm
  · have pm := h2 hm
    refine ⟨fun p hp => ?_, fun p hp => ?_, by rw [pm.length_eq]; exact Nat.succ_le_succ g.le⟩
    · rw [et]
      rcases List.mem_cons.mp (pm.mem_iff.mp hp) with e | z
      · rw [e]
        exact List.mem_append_right _ (List.mem_singleton.mpr rfl)
      · exact List.mem_append_left _ (g.from_ p z)
    · rw [(pm.map (·.2)).mem_iff, List.map_cons]
      rw [et] at hp
      rcases List.mem_append.mp hp with z | z
      · exact List.mem_cons_of_mem _ (g.all p z)
      · rw [List.mem_singleton.mp z]
        exact List.mem_cons_self
theorem get_none {h : Heap} {b : Addr} (hb : h.objs.size ≤ b) : h.get? b = none := Heap.get?_none_of_le hb
section
variable {P : Program} {w : World} {A : Around} {E : Value → Shared → Prop} {s : Shared}
theorem SetN.keep {h h' : Heap} {a : Addr} {L : List (Addr × NestedKey)} {es : Array (Int × Value)} {ep : Nat} {t : SetTable} (R : SetN w h a L es ep t) (ha : ∀ o, h.get? a = some o → h'.get? a = some o) (hm : ∀ p ∈ L, Mem h' p.2 p.1) : SetN w h' a L es ep t := by
  obtain ⟨o, ho, r⟩ := R.ob
  exact ⟨⟨o, ha o ho, r⟩, R.rw_, R.tab, R.nd, hm, R.plain, R.led, R.room, R.few⟩
abbrev newSet (w : World) : Obj := { cls := .type "set", dict := none, data := .set #[] 0 (.fresh 0 0 (!w.params.followText "set-order")) }
theorem setN_new {h : Heap} {a : Addr} (ho : h.get? a = some (newSet w)) : SetN w h a [] #[] 0 (.fresh 0 0 (!w.params.followText "set-order")) where
  ob := ⟨_, ho, ⟨rfl, rfl, rfl⟩, rfl⟩
  rw_ := rfl
  tab := ⟨List.Pairwise.nil, rfl, rfl, .inl rfl, fun x hx => (by cases hx), fun i h j hi => (by simp at hi)⟩
  nd := List.nodup_nil
  mem := fun p hp => (by cases hp)
  plain := rfl
  led := by
    show _ ∨ (!w.params.followText "set-order") = true
    cases w.params.followText "set-order"
    · exact .inr rfl
    · exact .inl rfl
  room := by
    show 0 * 5 < 7 * 3
    decide
  few := by
    show 0 < 64
    decide
/-- the loop of set.update -/
theorem upd_loop {I : Addr} {fp wr : List Addr} {G : Array GenState → Array GenState → Prop} {n : Nat} {Pv : Nat → Value → Prop} {St : Nat → Shared → Prop} {R : Result → Shared → Prop}
    (W : WalksS P w A.in1 I fp wr G n Pv St) (S : Addr) (hSf : S ∉ fp) (ks : List (Addr × NestedKey)) (hn : n = ks.length) (hfew : ks.length < 64) (hval : ∀ i v, Pv i v → ∃ p, ks[i]? = some p ∧ v = .ref p.1)
    (h0 : Heap) (hk : ∀ p ∈ ks, Mem h0 p.2 p.1) (hS0 : h0.get? S = none) (hw0 : ∀ b ∈ wr, h0.get? b = none) (hu : A.in1.units + 8 < cLine) (m : Nat) :
    ∀ (i : Nat) (s : Shared), n - i = m → i ≤ n → St i s → (∀ b o, h0.get? b = some o → s.heap.get? b = some o) → (∃ L es ep t, SetN w s.heap S L es ep t ∧ Upto ks i L) →
      (∀ s' L es ep t, Moved (S :: wr) G s s' → SetN w s'.heap S L es ep t → Upto ks n L → (∀ b o, h0.get? b = some o → s'.heap.get? b = some o) → R (.ok (.ret .none)) s') →
      codeAny (model P w) A (.builtin "set.update.loop" ⟨[.ref S, .ref I], []⟩) R s := by
  have hSw : S ∉ wr := fun h => hSf (W.sub _ h)
  have hsub : ∀ b ∈ wr, b ∈ S :: wr := fun b hb => List.mem_cons_of_mem _ hb
  have stay : ∀ {s s' : Shared}, Moved wr G s s' → (∀ b o, h0.get? b = some o → s.heap.get? b = some o) → ∀ b o, h0.get? b = some o → s'.heap.get? b = some o := fun hm hkp b o e =>
    hm.heap b o (fun hb => by rw [hw0 b hb] at e; cases e) (hkp b o e)
  induction m with
  | zero =>
    intro i s hi0 hi hst hkp ⟨L, es, ep, t, hS, g⟩ hR
    have hin : i = n := by omega
    subst hin
    refine codeAny_builtin PyProof.Rows.F.entry_set_update_loop ?_
    rw [Around.under_plainId F.plain_set_update_loop _]
    show wpAny _ A.in1 (pyNext (.ref I) >>= _) _ _ s
    refine wpAny_bind (W.done s _ _ hst fun s' hm => ?_)
    show wpAny _ A.in1 (ret Value.none) _ _ s'
    have hkp' := stay hm hkp
    exact wpAny_pure (hR s' L es ep t (hm.mono hsub) (hS.keep (fun o e => hm.heap S o hSw e) fun p hp => (hk p (List.mem_of_mem_take (g.from_ p hp))).keep hkp') g hkp')
  | succ m ih =>
    intro i s hi0 hi hst hkp ⟨L, es, ep, t, hS, g⟩ hR
    have hlt : i < n := by omega
    refine codeAny_builtin PyProof.Rows.F.entry_set_update_loop ?_
    rw [Around.under_plainId F.plain_set_update_loop _]
    show wpAny _ A.in1 (pyNext (.ref I) >>= _) _ _ s
    refine wpAny_bind (W.item i s _ _ hlt hst fun v s' hP hst' hm => ?_)
    obtain ⟨p, hp, rfl⟩ := hval i v hP
    have hkp' := stay hm hkp
    have hS' : SetN w s'.heap S L es ep t := hS.keep (fun o e => hm.heap S o hSw e) fun q hq => (hk q (List.mem_of_mem_take (g.from_ q hq))).keep hkp'
    have hx : Mem s'.heap p.2 p.1 := (hk p (List.mem_of_getElem? hp)).keep hkp'
    show wpAny _ A.in1 (holding [Value.ref p.1] (setAdd S (.ref p.1)) >>= _) _ _ s'
    refine wpAny_bind (wpAny_holding ?_)
    unfold setAdd
    refine wpAny_holding ?_
    refine wpAny_bind ((kd P w).pyHash (show A.in1.units + 8 < cLine from hu) hx.1 ?_)
    refine put_in (s := { s' with toks := s'.toks + (kd P w).draws p.2 }) hS' hx hu (by have := g.le; omega) fun b h' L' es' ep' t' hsb hS2 c1 c2 => ?_
    have hkp2 : ∀ b o, h0.get? b = some o → h'.get? b = some o := fun b o e => (hsb.2 b (fun z => by rw [z, hS0] at e; cases e)).trans (hkp' b o e)
    refine wpAny_pure ⟨plainId_quiet F.plain_set_update_loop _, ih (i + 1) _ (by omega) hlt (W.frame _ s' _ _ hst' (Nat.le_add_right _ _) fun b hb o e => ?_) hkp2 ⟨L', es', ep', t', hS2, g.next hp c1 c2⟩ fun s'' L2 es2 ep2 t2 hm'' hS'' g'' hkp'' => ?_⟩
    · rw [hsb.2 b (fun h : b = S => hSf (by rw [← h]; exact hb))]
      exact e
    · refine hR s'' L2 es2 ep2 t2 (Moved.trans W.gtrans ((hm.mono hsub).then_heap (Nat.le_add_right _ _) fun b o hb e => ?_) hm'') hS'' g'' hkp''
      rw [hsb.2 b (fun h : b = S => hb (by rw [h]; exact List.mem_cons_self))]
      exact e
/-- set(l), l a list of such tuples -/
theorem call_setN {l : Addr} {items : Array Value} (ks : List (Addr × NestedKey)) {Q : Value → Shared → Prop} (hh : A.handled = none) (hl : s.heap.IsList l items) (hit : items.toList = ks.map fun p => Value.ref p.1) (hk : ∀ p ∈ ks, Mem s.heap p.2 p.1) (hfew : ks.length < 64) (hu : A.units + 20 < cLine)
    (h : ∀ (h' : Heap) (tk : Nat) L es ep t, SetN w h' s.heap.objs.size L es ep t → Upto ks ks.length L → (∀ b o, s.heap.get? b = some o → h'.get? b = some o) → Q (.ref s.heap.objs.size) { s with heap := h', toks := tk }) :
    wpAny (model P w) A (call (.type "set") [.ref l]) Q E s := by
  have hisz : items.size = ks.length := by
    have q := congrArg List.length hit
    rwa [Array.length_toList, List.length_map] at q
  obtain ⟨c, tl, hmro⟩ := PySem.F.called_set.mro
  have hmade := PySem.F.called_set.made
  have hsub := PySem.F.called_set.sub
  refine wpAny_call (codeAny_of_tree ?_)
  show wpAny _ _ (callAny (.type "set") _) _ _ _
  refine wpAny_pure ⟨Code.quiet_builtin _ (by decide +kernel), codeAny_builtin PySem.F.entry_type_call ?_⟩
  rw [Around.under_plain (weight_type_call_type "set" [.ref l] []) rfl]
  have h1 := PySem.F.called_set.notType
  have h2 := PySem.F.called_set.canCreate
  have hct := PySem.F.typeCall_set_1 (.ref l)
  repeat (any_goals (first | assumption | wp_step))

  refine codeAny_mono (code_set_led1 (.ref l) (E := E) (Q₁ := fun obj s₁ => obj = .ref s.heap.objs.size ∧ s₁ = { s with heap := s.heap.push (newSet w) }) ⟨rfl, rfl⟩) fun r s₁ hr => ?_
  cases r with
  | error e => exact hr
  | ok fl =>
    cases fl with
    | ret obj =>
      obtain ⟨rfl, rfl⟩ := hr
      have hS : (s.heap.push (newSet w)).get? s.heap.objs.size = some (newSet w) := Heap.get?_push_size _ rfl
      have hT : Shared.TypeIs { s with heap := s.heap.push (newSet w) } (.ref s.heap.objs.size) "set" := ⟨_, hS, rfl⟩
      have hli := PySem.F.called_set.init.lookup
      have hbi := PySem.F.called_set.init.bind (.ref s.heap.objs.size)
      repeat (any_goals (first | assumption | wp_step))

      refine codeAny_mono (codeAny_call_builtin (R := wants (fun r s₂ => r = .none ∧ ∃ h' tk L es ep t, s₂ = { s with heap := h', toks := tk } ∧ SetN w h' s.heap.objs.size L es ep t ∧ Upto ks ks.length L ∧
          (∀ b o, s.heap.get? b = some o → h'.get? b = some o)) E) PySem.F.called_set.init.plain PySem.F.entry_set_init (check_set_init_1 hT ?_)) fun r₂ s₂ hr₂ => ?_
      · obtain ⟨ol, hol, hcl, nl, hdl⟩ := hl
        obtain ⟨ocls, odict, odata, oslots⟩ := ol
        simp only at hcl hdl
        subst hcl; subst hdl
        have hol' : (s.heap.push (newSet w)).get? l = some { cls := .type "list", dict := odict, data := .seq items nl, slots := oslots } := Heap.get?_push_of_some _ hol
        have hsls := PySem.F.sub_list_set
        have hslf := PySem.F.sub_list_frozenset
        have hne : (Value.type "list" == Value.type "dict") = false := by decide
        have hl1 : (s.heap.push (newSet w)).IsList l items := ⟨_, hol', rfl, nl, rfl⟩
        unfold Builtin.«set.__init__» noKeywords Builtin.Frozenset.updateFrom
        generalize hPI : pyIter = PI
        wp_walk
        subst hPI

        refine wpAny_pyIter_list hl1 ?_
        refine wpAny_bind (wpAny_runValue ?_)
        have hlS : l < s.heap.objs.size := Heap.lt_size hol
        have hh3 : A.in1.in1.in1.handled = none := by simp [hh]
        have hneI : l ≠ (s.heap.push (newSet w)).objs.size := by
          rw [Heap.size_push]
          exact Nat.ne_of_lt (Nat.lt_succ_of_lt hlS)
        have hSf : s.heap.objs.size ∉ [(s.heap.push (newSet w)).objs.size, l] := by
          rw [Heap.size_push]
          simp only [List.mem_cons, List.not_mem_nil, or_false, not_or]
          exact ⟨Nat.ne_of_lt (Nat.lt_succ_self _), Nat.ne_of_gt hlS⟩
        have hval : ∀ (i : Nat) (v : Value), items[i]? = some v → ∃ p, ks[i]? = some p ∧ v = .ref p.1 := fun i v hv => by
          have q : items.toList[i]? = some v := by rw [Array.getElem?_toList]; exact hv
          rw [hit, List.getElem?_map] at q
          cases hq : ks[i]? with
          | none => rw [hq] at q; cases q
          | some p =>
            rw [hq] at q
            exact ⟨p, rfl, (Option.some.inj q).symm⟩
        refine upd_loop ((Walks.list hh3 _ l hneI items).toS) s.heap.objs.size hSf ks hisz hfew hval s.heap hk (get_none (Nat.le_refl _)) (fun b hb => get_none (by
            rw [List.mem_singleton.mp hb, Heap.size_push]
            exact Nat.le_succ _)) (by show A.units + 1 + 1 + 1 + 8 < cLine; omega) (items.size - 0) 0 _ (by omega) (Nat.zero_le _)
          ⟨⟨_, Heap.get?_push_size _ rfl, rfl, rfl⟩, (hl1.push _)⟩ (fun b o e => Heap.get?_push_of_some _ (Heap.get?_push_of_some _ e)) ?hS0 ?hR
        case hS0 => exact ⟨[], #[], 0, _, setN_new (Heap.get?_push_of_some _ hS), ⟨(fun p hp => by cases hp), (fun p hp => by simp at hp), Nat.le_refl _⟩⟩
        case hR =>
          intro s' L es ep t hm hS' g' hkp
          obtain ⟨h', g2, d', tk', os'⟩ := s'
          have eg : g2 = s.gens := hm.gens
          have ed : d' = s.drawn := hm.drawn
          have eo : os' = s.os := hm.os
          subst eg; subst ed; subst eo
          show wpAny _ _ _ _ _ _
          refine wpAny_pure ?_
          show wpAny _ _ (ret Value.none) _ _ _
          rw [hisz] at g'
          exact wpAny_pure ⟨rfl, h', tk', L, es, ep, t, rfl, hS', g', hkp⟩
      · cases r₂ with
        | error e => exact hr₂
        | ok fl₂ =>
          cases fl₂ with
          | ret r =>
            obtain ⟨rfl, h', tk, L, es, ep, t, rfl, hS', g', hk'⟩ := hr₂
            repeat (any_goals (first | assumption | wp_step))
            exact h _ _ _ _ _ _ hS' g' hk'
          | _ => exact hr₂.elim
    | _ => exact hr.elim
end
end Cf
set_option maxHeartbeats 4000000
/-! sorted(set(list)), told by slots -/
namespace Cf
open PySem PySem.Spec PyProof.Rows L2 PySem.W
mutual
theorem reads_pure {h : Heap} : ∀ (d : PyData) (v : Value) (as : List Addr), noL d = true → Reads h v d as → as = []
  | .none, _, _, _, r => by cases r; rfl
  | .bool _, _, _, _, r => by cases r; rfl
  | .int _, _, _, _, r => by cases r; rfl
  | .str _, _, _, _, r => by cases r; rfl
  | .list _, _, _, n, _ => Bool.noConfusion (show false = true from n)
  | .dict _, _, _, n, _ => Bool.noConfusion (show false = true from n)
  | .tuple ds, _, _, n, r => by
    cases r with
    | tuple h1 h2 h3 h4 => exact reads_pures ds _ _ n h4
theorem reads_pures {h : Heap} : ∀ (ds : List PyData) (vs : List Value) (as : List Addr), noLs ds = true → ReadsAll h vs ds as → as = []
  | [], _, _, _, r => by cases r; rfl
  | d :: ds, _, _, n, r => by
    have n : (noL d && noLs ds) = true := n
    rw [Bool.and_eq_true] at n
    cases r with
    | cons h1 h2 =>
      rw [reads_pure d _ _ n.1 h1, reads_pures ds _ _ n.2 h2]
      rfl
end
theorem putU_nodup {α : Type} [DecidableEq α] {l : List α} {x : α} (h : l.Nodup) : (putU l x).Nodup := by
  unfold putU
  split
  · exact h
  · rename_i hx
    rw [List.nodup_append]
    refine ⟨h, by simp, fun a ha b hb => ?_⟩
    rw [List.mem_singleton.mp hb]
    intro e
    exact hx (memb_iff.mpr (e ▸ ha))
theorem uniq_nodupA {α : Type} [DecidableEq α] : ∀ (xs l : List α), l.Nodup → (xs.foldl putU l).Nodup
  | [], _, h => h
  | x :: xs, l, h => uniq_nodupA xs (putU l x) (putU_nodup h)
theorem uniq_nodup {α : Type} [DecidableEq α] (xs : List α) : (uniq xs).Nodup := uniq_nodupA xs [] List.nodup_nil
theorem mem_putU' {α : Type} [DecidableEq α] {x y : α} {l : List α} : y ∈ putU l x ↔ y ∈ l ∨ y = x := by
  unfold putU
  split
  · rename_i h
    exact ⟨.inl, fun z => z.elim id fun e => e ▸ memb_iff.mp h⟩
  · rw [List.mem_append, List.mem_singleton]
theorem mem_uniq' {α : Type} [DecidableEq α] {y : α} {xs : List α} : y ∈ uniq xs ↔ y ∈ xs := by
  have : ∀ (xs l : List α), y ∈ xs.foldl putU l ↔ y ∈ l ∨ y ∈ xs := by
    intro xs
    induction xs with
    | nil => intro l; simp
    | cons x xs ih =>
      intro l
      rw [List.foldl_cons, ih, mem_putU', List.mem_cons, or_assoc]
  unfold uniq
  rw [this]
  simp
theorem each_perm {A B : Type} {Rr : A → B → Prop} {as as' : List A} (p : as'.Perm as) : ∀ {bs : List B}, EachIs Rr as bs → ∃ bs', EachIs Rr as' bs' ∧ bs'.Perm bs := by
  induction p with
  | nil =>
    intro bs h
    cases h
    exact ⟨[], .nil, .nil⟩
  | cons x _ ih =>
    intro bs h
    cases h with
    | cons h1 t =>
      obtain ⟨bs', h2, h3⟩ := ih t
      exact ⟨_ :: bs', .cons h1 h2, h3.cons _⟩
  | swap x y l =>
    intro bs h
    cases h with
    | cons h1 t => cases t with
      | cons h2 t => exact ⟨_, .cons h2 (.cons h1 t), .swap _ _ _⟩
  | trans _ _ ih1 ih2 =>
    intro bs h
    obtain ⟨b1, g1, g2⟩ := ih2 h
    obtain ⟨b2, g3, g4⟩ := ih1 g1
    exact ⟨b2, g3, g4.trans g2⟩
/-- the set's own object -/
def SetO (a : Addr) (es : Array (Int × Value)) (ep : Nat) (t : SetTable) : HO := .ext fun h => ∃ o, h.get? a = some o ∧ o.ExactSet ∧ o.data = .set es ep t
/-- numbers and tuples of these within a tuple -/
structure SetK (α : Type) [DecidableEq α] [Enc α] : Prop where
  num : ∀ a : α, numK (nk (enc a)) = true
  dep : Enc.dep α ≤ 8
  ref : ∀ (K : PySem.W.Frag) (a : α) v H, (is K a).p v H → ∃ b, v = .ref b
section
variable {α : Type} [DecidableEq α] [Enc α]
/-- a set of these, read once -/
def setT (w : World) (K : PySem.W.Frag) (xs : List α) : TP where
  p := fun v H => ∃ (a : Addr) (L : List (Addr × NestedKey)) (es : Array (Int × Value)) (ep : Nat) (t : SetTable) (us : List α), v = .ref a ∧ H a = some (SetO a es ep t) ∧ es.toList = rows w L ∧ TabOk t (L.map fun (p : Addr × NestedKey) => hk w p.2) ∧ (w.params.followText "set-order" = true ∨ t.led = true) ∧ L.length * 5 < t.mask * 3 ∧ L.length < 64 ∧
    EachIs (fun p x => Dp K H (.ref p.1) (enc x)) L us ∧ us.Perm (uniq xs)
  st := fun v H H2 e ⟨a, L, es, ep, t, us, h1, h2, h3, h4, h5, h6, h7, h8, h9⟩ => ⟨a, L, es, ep, t, us, h1, e _ _ h2 rfl, h3, h4, h5, h6, h7, h8.mono fun (p : Addr × NestedKey) (x : α) (d : Dp K H (.ref p.1) (Enc.enc x)) => dp_ez e (Enc.enc x) (.ref p.1) (Enc.pure x) d, h9⟩
theorem refs_in {X : Cx} {pins : List (Addr × Obj)} {σ : L2.St} {H : Hp} {s : Shared} (I : Inv X pins σ H s) (k : SetK α) : ∀ {ws : List V} {us : List Value} (xs : List α), DpAll X.K H ws (encs xs) → Vals ws us →
    ∃ ks : List (Addr × NestedKey), us = ks.map (fun p => Value.ref p.1) ∧ EachIs (fun p x => p.2 = nk (enc x) ∧ Dp X.K H (.ref p.1) (enc x)) ks xs ∧ ∀ p ∈ ks, Mem s.heap p.2 p.1
  | _, _, [], h, r => by
    have h : DpAll X.K H _ [] := h
    cases h
    cases r
    exact ⟨[], rfl, .nil, fun p hp => by cases hp⟩
  | _, _, x :: xs, h, r => by
    have h : DpAll X.K H _ (enc x :: encs xs) := h
    cases h with
    | cons h1 h2 => cases r with
      | cons r1 r2 =>
        obtain ⟨ks, e1, e2, e3⟩ := refs_in I k xs h2 r2
        obtain ⟨b, rfl⟩ := k.ref X.K x _ H h1
        cases r1
        refine ⟨(b, nk (enc x)) :: ks, by rw [e1]; rfl, .cons ⟨rfl, h1⟩ e2, fun p hp => ?_⟩
        rcases List.mem_cons.mp hp with z | z
        · subst z
          exact ⟨⟨nk_is I (enc x) (.ref b) (.ref b) (Enc.pure x) h1 rfl, Nat.le_trans (nk_depth _) (Nat.le_trans (Enc.depth x) k.dep)⟩, k.num x⟩
        · exact e3 p z
theorem each_mem_l {A B : Type} {Rr : A → B → Prop} : ∀ {as : List A} {bs : List B}, EachIs Rr as bs → ∀ a ∈ as, ∃ b ∈ bs, Rr a b
  | _, _, .nil, a, h => by cases h
  | _, _, .cons h t, a, hm => by
    rcases List.mem_cons.mp hm with e | e
    · subst e
      exact ⟨_, List.mem_cons_self, h⟩
    · obtain ⟨b, h1, h2⟩ := each_mem_l t a e
      exact ⟨b, List.mem_cons_of_mem _ h1, h2⟩
theorem each_mem_r {A B : Type} {Rr : A → B → Prop} : ∀ {as : List A} {bs : List B}, EachIs Rr as bs → ∀ b ∈ bs, ∃ a ∈ as, Rr a b
  | _, _, .nil, a, h => by cases h
  | _, _, .cons h t, a, hm => by
    rcases List.mem_cons.mp hm with e | e
    · subst e
      exact ⟨_, List.mem_cons_self, h⟩
    · obtain ⟨b, h1, h2⟩ := each_mem_r t a e
      exact ⟨b, List.mem_cons_of_mem _ h1, h2⟩
theorem each_pick {A B : Type} {Rr : A → B → Prop} : ∀ {as : List A}, (∀ a ∈ as, ∃ b, Rr a b) → ∃ bs, EachIs Rr as bs
  | [], _ => ⟨[], .nil⟩
  | a :: as, h => by
    obtain ⟨b, hb⟩ := h a List.mem_cons_self
    obtain ⟨bs, hbs⟩ := each_pick fun x hx => h x (List.mem_cons_of_mem _ hx)
    exact ⟨b :: bs, .cons hb hbs⟩
theorem each_nodup {w : World} {H : Hp} {K : PySem.W.Frag} : ∀ {L : List (Addr × NestedKey)} {us : List α}, EachIs (fun p x => p.2 = nk (enc x) ∧ Dp K H (.ref p.1) (enc x)) L us → (L.map (·.2)).Nodup → us.Nodup
  | _, _, .nil, _ => List.nodup_nil
  | p :: L, x :: us, .cons h t, hn => by
    rw [List.map_cons, List.nodup_cons] at hn
    refine List.nodup_cons.mpr ⟨fun hx => ?_, each_nodup (w := w) t hn.2⟩
    obtain ⟨q, h1, h2⟩ := each_mem_r t x hx
    exact hn.1 (List.mem_map.mpr ⟨q, h1, by rw [h2.1, h.1]⟩)
/-- set(l) -/
theorem cr_setN {X : Cx} {xs : List α} (k : SetK α) (hc : X.calm = true) (hu : X.A.units + 20 < cLine) (hl : xs.length < 64) :
    CallR X (.type "set") (fun vs H Q => ∃ l ws, vs = [.ref l] ∧ H l = some (.lst ws) ∧ DpAll X.K H ws (encs xs) ∧ ∀ a es ep t, H a = none → (setT X.w X.K xs).p (.ref a) (upd H a (SetO a es ep t)) → Q (.ref a) (upd H a (SetO a es ep t))) := by
  intro pins s σ H vs us Q I r h
  obtain ⟨l, ws, rfl, h1, h2, q⟩ := h
  obtain ⟨u, rfl, ru⟩ := vals1 r
  cases ru
  obtain ⟨hz, its, n, rv, hll, hp⟩ := I.lstM h1
  obtain ⟨ks, e1, e2, e3⟩ := refs_in I k xs h2 rv
  have hkl : ks.length = xs.length := EachIs.len e2
  refine call_setN ks (I.ok.hd hc) ⟨_, hp, rfl, _, rfl⟩ (by simpa using e1) e3 (by omega) hu fun h' tk L es ep t R g hkeep => ?_
  have hn : H s.heap.objs.size = none := I.hok.fresh (Nat.le_refl _)

  have sub : ∀ p ∈ L, p ∈ ks := fun p hp => List.mem_of_mem_take (g.from_ p hp)
  obtain ⟨us, hus⟩ := each_pick (Rr := fun (p : Addr × NestedKey) (x : α) => (p.2 = nk (enc x) ∧ Dp X.K H (.ref p.1) (enc x)) ∧ x ∈ xs) (as := L) fun p hp => by
    obtain ⟨x, g1, g2⟩ := each_mem_l e2 p (sub p hp)
    exact ⟨x, g2, g1⟩
  have hus1 : EachIs (fun p x => p.2 = nk (enc x) ∧ Dp X.K H (.ref p.1) (enc x)) L us := hus.mono fun _ _ z => z.1
  have und := each_nodup (w := X.w) hus1 R.nd
  have uperm : us.Perm (uniq xs) := by
    refine (List.perm_ext_iff_of_nodup und (uniq_nodup xs)).mpr fun x => ?_
    rw [mem_uniq']
    refine ⟨fun hx => ?_, fun hx => ?_⟩
    · obtain ⟨p, _, g2⟩ := each_mem_r hus x hx
      exact g2.2
    · obtain ⟨p, g1, g2⟩ := each_mem_r e2 x hx
      have g3 := g.all p (by rw [List.take_length]; exact g1)
      obtain ⟨p2, g4, g5⟩ := List.mem_map.mp g3
      obtain ⟨y, g6, g7⟩ := each_mem_l hus1 p2 g4
      have : x = y := nk_inj (by rw [← g2.1, ← g5, g7.1])
      rw [this]
      exact g6
  obtain ⟨o, ho, hex, hdd⟩ := R.ob
  have hez : Ez H (upd H s.heap.objs.size (SetO s.heap.objs.size es ep t)) := (Ex.new (T := []) hn).ez
  refine ⟨.ref s.heap.objs.size, upd H s.heap.objs.size (SetO s.heap.objs.size es ep t), I.laid (t' := tk) hkeep (Nat.le_refl _) ⟨⟨o, ho, hex, hdd⟩, ⟨o, ho⟩, fun h1 h2 ⟨o, z1, z2⟩ st => ⟨o, st _ z1, z2⟩⟩, rfl, q _ es ep t hn ?_⟩
  exact ⟨_, L, es, ep, t, us, rfl, upd_same, R.rw_, R.tab, R.led, R.room, R.few, hus1.mono fun p x z => dp_ez hez _ _ (Enc.pure x) z.2, uperm⟩
/-- sorted(set) -/
theorem cr_sortSet {X : Cx} {j : Nat} {xs : List α} (hr : Room j X.A) (hc : X.calm = true) (hal : AllAlike (encs xs)) (hsk : Sortable (encs xs)) (hd : Enc.dep α ≤ 100) (hp : ∀ us : List α, us.Perm (uniq xs) → us.mergeSort (dataLe false (enc (α := α))) = (uniq xs).mergeSort (dataLe false (enc (α := α)))) :
    CallR X (.builtin "sorted") (fun vs H Q => ∃ v, vs = [v] ∧ (setT X.w X.K xs).p v H ∧ ∀ p out, H p = none → DpAll X.K (upd H p (.lst out)) out (encs ((uniq xs).mergeSort (dataLe false (enc (α := α))))) → Q (.ref p) (upd H p (.lst out))) := by
  intro pins s σ H vs us Q I r h
  obtain ⟨v, rfl, ⟨a, L, es, ep, t, us0, rfl, h1, h2, h3, h4, h5, h6, h7, h8⟩, q⟩ := h
  obtain ⟨u, rfl, ru⟩ := vals1 r
  cases ru
  obtain ⟨⟨o, ho, hex, hdd⟩, _, _⟩ := I.hok a _ h1
  have hz := rows_len h2
  have hpz : t.place.size = L.length := by
    have h := h3.sz
    rwa [List.length_map] at h
  have hS : sizeLine = 16777216 := sizeLine_eq
  refine Calls.call_function_entry kind_sorted plain_sorted entry_sorted (args_sorted1 _) ?_
  unfold Builtin.«sorted»
  refine wpAny_bind (m := checkCount "sorted" 1 1 _) (wpAny_pure ?_)
  refine wpAny_bind (collect_set (A := X.A.in1) (I.ok.hd hc) ⟨o, ho, hex.1, hdd⟩ (fits_of (by omega) h3.dm (by omega)) (by unfold scanBound; omega) h3.ris h4 fun s1 out k1 hz1 g1 o1 pm => ?_)
  have ees : es.toList.map (·.2) = (L.map fun p => V.ref p.1).map (fun v => match v with | .ref b => Value.ref b | _ => Value.none) := by
    rw [h2, List.map_map, List.map_map]
    rfl
  have eall : EachIs (fun (u : Value) (x : α) => ∃ v, L2.RelV v u ∧ (is X.K x).p v H) (es.toList.map (·.2)) us0 := by
    have : ∀ {L : List (Addr × NestedKey)} {us : List α}, EachIs (fun p x => Dp X.K H (.ref p.1) (enc x)) L us → EachIs (fun (u : Value) (x : α) => ∃ v, L2.RelV v u ∧ (is X.K x).p v H) ((rows X.w L).map (·.2)) us := by
      intro L us h
      induction h with
      | nil => exact .nil
      | @cons p x _ _ h1 _ ih => exact EachIs.cons (a := Value.ref p.1) ⟨.ref p.1, rfl, h1⟩ ih
    rw [h2]
    exact this h7
  obtain ⟨us1, e1, e2⟩ := each_perm pm eall
  have hlen : out.length = us1.length := EachIs.len e1
  have hul : us1.length = L.length := by rw [e2.length_eq, ← EachIs.len h7]
  have I1 : Inv X pins σ H s1 := I.call' (ch := []) o1 (Un.kept k1) (I.hok.kept k1) (by rw [g1]; exact I.bare) fun b hb => absurd hb List.not_mem_nil
  obtain ⟨ws, rws, dws⟩ := each_dps e1
  have al : AllAlike (encs us1) := fun d hd d' hd' => hal d (by
    obtain ⟨x, hx, rfl⟩ := List.mem_map.mp hd
    exact List.mem_map.mpr ⟨x, mem_uniq'.mp (h8.mem_iff.mp (e2.mem_iff.mp hx)), rfl⟩) d' (by
    obtain ⟨x, hx, rfl⟩ := List.mem_map.mp hd'
    exact List.mem_map.mpr ⟨x, mem_uniq'.mp (h8.mem_iff.mp (e2.mem_iff.mp hx)), rfl⟩)
  have sk : Sortable (encs us1) := by
    have sub : ∀ d ∈ encs us1, d ∈ encs xs := fun d hd => by
      obtain ⟨x, hx, rfl⟩ := List.mem_map.mp hd
      exact List.mem_map.mpr ⟨x, mem_uniq'.mp (h8.mem_iff.mp (e2.mem_iff.mp hx)), rfl⟩
    rcases hsk with h | h
    · exact .inl fun d hd => h d (sub d hd)
    · exact .inr fun d hd => h d (sub d hd)
  refine wpAny_bind (wpAny_newList ?_ (by omega))
  have hoL : (s1.heap.push (seqObj "list" out.toArray 0)).get? s1.heap.objs.size = some (seqObj "list" out.toArray 0) := Heap.get?_push_size _ rfl
  have I2 : Inv X pins σ H { s1 with heap := s1.heap.push (seqObj "list" out.toArray 0) } := I1.kept (t' := s1.toks) fun b o e => Heap.get?_push_of_some _ e
  show wpAny _ _ _ _ _ { s1 with heap := s1.heap.push (seqObj "list" out.toArray 0) }
  have er : EachIs (fun v b => ∃ as, Reads (s1.heap.push (seqObj "list" out.toArray 0)) v (enc b) as ∧ s1.heap.objs.size ∉ as) out us1 := by
    have := each_of_map (R := fun v d => ∃ as, Reads (s1.heap.push (seqObj "list" out.toArray 0)) v d as) (enc (α := α)) (reads_each I2 rws dws)
    refine this.mono fun v b ⟨as, z⟩ => ⟨as, z, ?_⟩
    rw [reads_pure (enc b) v as (Enc.pure b) z]
    simp
  refine wpAny_bind (wpAny_holding (list_sort_data (s := { s1 with heap := s1.heap.push (seqObj "list" out.toArray 0) }) (R := fun u x => ∃ v, L2.RelV v u ∧ (is X.K x).p v H) hoL e1 er al sk (by omega) (fun b _ => ?_) fun out2 ho2 eo2 => ?_))
  · have e3 : PyData.depth (enc b) ≤ Enc.dep α := Enc.depth b
    have e4 := hr.un
    show X.A.units + 1 + 1 + (enc b).depth < cLine
    omega
  · rw [hp us1 (e2.trans h8)] at eo2
    obtain ⟨wo, rwo, dwo⟩ := each_dps eo2
    obtain ⟨c, hcc⟩ := sortedHeap_at (vs := out) (out := out2.toArray) hoL
    have hsz : s.heap.objs.size ≤ s1.heap.objs.size := hz1
    have hpn : H s1.heap.objs.size = none := I1.hok.fresh (Nat.le_refl _)
    refine wpAny_pure ⟨_, rfl, .ref s1.heap.objs.size, upd H s1.heap.objs.size (.lst wo), I1.laid (t' := s1.toks) (fun b o e => ?_) (Nat.le_refl _) (show ObjOk X.prog X.w _ _ _ (.lst wo) from ⟨?_, out2, c, rwo, hcc⟩), rfl, q _ wo hpn ?_⟩
    · have hb : b < s1.heap.objs.size := Heap.lt_size e
      rw [sortedHeap_old (Nat.ne_of_lt hb) (by rw [size_push']; exact Nat.lt_succ_of_lt hb)]
      exact Heap.get?_push_of_some _ e
    · have := vals_len rwo
      omega
    · exact dps_ez (Ex.new (T := []) hpn).ez _ _ (encs_pure _) dwo
end
end Cf
set_option maxHeartbeats 4000000
/-! dict(list of pairs), sorted(set(..)), a, b = x, y -/
namespace Cf
open PySem PySem.Spec PyProof.Rows L2 PySem.W
/-- a table of pairs, later ones win -/
def tabB {κ β : Type} [DecidableEq κ] (ps : List (κ × β)) : List (κ × β) := ps.foldl (fun acc p => putB acc p.1 p.2) []
section
variable {T : Tb} {R : Hp} {X : Cx} {ρ : List AV} {Eo : Po} {e a b : Expr} {pos p p1 : Pos} {j : Nat}
theorem pairs_nm {β : Type} [DecidableEq β] [Enc β] {K : PySem.W.Frag} {H : Hp} : ∀ {ws : List V} (ps : List (Nm × β)), DpAll K H ws (encs ps) → ∃ (as : List Addr) (kvs : List (Key × V)), ws = as.map V.ref ∧ Paired (fun p kv => SqT K H p [kV kv.1, kv.2]) as kvs ∧ EachIs (fun q p => q.1 = (kindN K).f p.1 ∧ (is K p.2).p q.2 H) kvs ps
  | _, [], h => by
    have h : DpAll K H _ [] := h
    cases h
    exact ⟨[], [], rfl, .nil, .nil⟩
  | _, q :: ps, h => by
    have h : DpAll K H _ (enc q :: encs ps) := h
    cases h with
    | cons h1 h2 =>
      obtain ⟨as, kvs, e1, e2, e3⟩ := pairs_nm ps h2
      obtain ⟨a, x, y, rfl, g1, g2, g3⟩ := (pair_is q).out _ _ h1
      have g2' := is_nm.mp g2
      subst g2'
      refine ⟨a :: as, (Sum.inr q.1.1, y) :: kvs, by rw [e1]; rfl, .cons g1 e2, .cons ⟨rfl, g3⟩ e3⟩
theorem drel_all {β : Type} {K : PySem.W.Frag} {H : Hp} {VP : β → TP} : ∀ {kvs : List (Key × V)} {ps : List (Nm × β)} {acc : List (Key × V)} {acc' : List (Nm × β)}, DRel (kindN K).f VP H kvs ps → DRel (kindN K).f VP H acc acc' → DRel (kindN K).f VP H (mergeK acc kvs) (ps.foldl (fun acc p => putB acc p.1 p.2) acc')
  | _, _, _, _, .nil, h => h
  | q :: kvs, p :: ps, acc, acc', .cons h t, ha => by
    have := drel_all t (drel_put (kindN K).inj ha p.1 h.2)
    rw [← h.1] at this
    exact this
theorem n_dictP {β : Type} [DecidableEq β] [Enc β] {ps : List (Nm × β)} (h : E T R X ρ e (lstR X.K ps).p) (hm : X.mg "dict" = none) (hcl : X.calm = true := by rfl)
    (hs : starEach [e] X.env = (false, eval e X.env) :: starEach [] X.env := by rfl) (hg : Gl X "dict" := by rfl) (hpl : (backTo pos (starEach [] X.env)).any (·.1) = false := by rfl) : N T R X ρ (.Call (.Name "dict" p) [e] [] pos) (dictO (kindN X.K) (is X.K) (tabB ps)) :=
  n_callT (call_dictP hcl) hm (by decide +kernel) (as_one h hs) (fun vs H Q _ hp k => by
    obtain ⟨v, rfl, l, ws, rfl, h1, h2⟩ := allP1 hp
    obtain ⟨as, kvs, rfl, e2, e3⟩ := pairs_nm ps h2
    refine ⟨l, as, kvs, rfl, h1, e2, fun d hd => k _ (fun a => a = d) _ (fun a z => by rw [z]; exact hd) (Ex.new hd) ⟨d, _, rfl, rfl, upd_same, ?_⟩⟩
    exact drel_st (Ex.new (T := T) hd).ez (drel_all e3 .nil)) hg (by decide) (by decide) hs hpl
theorem e_set {α : Type} [DecidableEq α] [Enc α] {xs : List α} (k : SetK α) (h : E T R X ρ e (lstX X.K xs).p) (hm : X.mg "set" = none) (hr : Room j X.A) (hl : xs.length < 64) (hcl : X.calm = true := by rfl)
    (hs : starEach [e] X.env = (false, eval e X.env) :: starEach [] X.env := by rfl) (hg : Gl X "set" := by rfl) (hpl : (backTo pos (starEach [] X.env)).any (·.1) = false := by rfl) : E T R X ρ (.Call (.Name "set" p) [e] [] pos) (setT X.w X.K xs).p :=
  e_callT (cr_setN k hcl (by have := hr.un; omega) hl) hm (by decide +kernel) (as_one h hs) (fun vs H Q _ hp q => by
    obtain ⟨v, rfl, l, ws, rfl, h1, h2⟩ := allP1 hp
    exact ⟨l, ws, rfl, h1, h2, fun a es ep t ha hv => q _ _ (Ex.new ha) hv⟩) hg (by decide) (by decide) hs hpl
theorem n_sortSet {α : Type} [DecidableEq α] [Enc α] {xs : List α} (h : E T R X ρ e (setT X.w X.K xs).p) (hm : X.mg "sorted" = none) (hr : Room j X.A) (hal : AllAlike (encs xs)) (hsk : Sortable (encs xs)) (hd : Enc.dep α ≤ 100) (hp : ∀ us : List α, us.Perm (uniq xs) → us.mergeSort (dataLe false (enc (α := α))) = (uniq xs).mergeSort (dataLe false (enc (α := α)))) (hcl : X.calm = true := by rfl)
    (hs : starEach [e] X.env = (false, eval e X.env) :: starEach [] X.env := by rfl) (hg : Gl X "sorted" := by rfl) (hpl : (backTo pos (starEach [] X.env)).any (·.1) = false := by rfl) :
    N T R X ρ (.Call (.Name "sorted" p) [e] [] pos) (lstO X.K ((uniq xs).mergeSort (dataLe false (enc (α := α))))) :=
  n_callB (cr_sortSet hr hcl hal hsk hd hp) hm boot_sorted (as_one (P := (setT X.w X.K xs).r) h hs) (fun vs H Q _ hp k => by
    obtain ⟨v, rfl, h1⟩ := allP1 hp
    exact ⟨v, rfl, h1, fun q out hq ho => k _ (fun a => a = q) _ (fun a z => by rw [z]; exact hq) (Ex.new hq) ⟨q, out, rfl, rfl, upd_same, ho⟩⟩) hg (by decide) (by decide) hs hpl
/-- x, y = a, b: two new things -/
theorem s_parNN {O1 O2 : OP} {x y : Str} (i k : Nat) {px py pt pt2 : Pos} {kt k2 : Nat} (hN : X.N.Nodup) (h1 : N T R X ρ a O1) (h2 : N T R X ρ b O2) (hik : i ≠ k) (kn : ∀ H0 σ H, En T R H0 ((ρ.set i (.o O1)).set k (.o O2)) σ H → Eo.nx H0 σ H)
    (hi : X.N[i]? = some x := by rfl) (hk : X.N[k]? = some y := by rfl) (hx : X.env.scope.names.lookup x = some .local := by rfl) (hy : X.env.scope.names.lookup y = some .local := by rfl)
    (hs1 : starEach [a, b] X.env = (false, eval a X.env) :: starEach [b] X.env := by rfl) (hs2 : starEach [b] X.env = (false, eval b X.env) :: starEach [] X.env := by rfl)
    (hw : swappedStores [.Tuple [.Name x px, .Name y py] kt pt] (.Tuple [a, b] k2 pt2) X.env = pure (some [x, y]) := by rfl) (hc : X.calm = true := by rfl)
    (hs : swapsWithSole [.Tuple [.Name x px, .Name y py] kt pt] (.Tuple [a, b] k2 pt2) pos.line X.env = pure false := by rfl) :
    S T R X ρ (.Assign [.Tuple [.Name x px, .Name y py] kt pt] (.Tuple [a, b] k2 pt2) pos) Eo :=
  s_of (ps_par hc hN hi hk hik hx hy (pa_cons h1 (pa_cons h2 pa_nil hs2) hs1) hw hs) fun D σ H H0 en n r bb cc =>
    ⟨⟨H0, en⟩, fun v S1 H1 hS1 x1 p1 => ⟨⟨H0, en.step x1⟩, fun w S2 H2 hS2 x2 p2 => by
      refine ⟨v, w, rfl, n _ _ (kn _ _ _ ?_)⟩
      have e1 := en.set_n (i := i) x1 hS1 p1
      have e2 := En.set_n (i := k) e1 x2 hS2 p2
      exact e2⟩⟩
/-- the same, a name of them a cell -/
theorem s_parNNc {O1 O2 : OP} {x y : Str} (i k : Nat) {px py pt pt2 : Pos} {kt k2 : Nat} (hN : X.N.Nodup) (h1 : N T R X ρ a O1) (h2 : N T R X ρ b O2) (kn : ∀ H0 σ H, En T R H0 ((ρ.set i (.o O1)).set k (.o O2)) σ H → Eo.nx H0 σ H)
    (hi : X.N[i]? = some x := by rfl) (hk : X.N[k]? = some y := by rfl) (hx : Loc X.env.scope x := by first | exact Or.inl rfl | exact Or.inr rfl) (hy : Loc X.env.scope y := by first | exact Or.inl rfl | exact Or.inr rfl)
    (fa : X.fn x = true ∨ X.env.scope.names.lookup x = some .local := by first | exact .inl rfl | exact .inr rfl) (fb : X.fn y = true ∨ X.env.scope.names.lookup y = some .local := by first | exact .inl rfl | exact .inr rfl)
    (hs1 : starEach [a, b] X.env = (false, eval a X.env) :: starEach [b] X.env := by rfl) (hs2 : starEach [b] X.env = (false, eval b X.env) :: starEach [] X.env := by rfl) (hc : X.calm = true := by rfl)
    (hw : swappedStores [.Tuple [.Name x px, .Name y py] kt pt] (.Tuple [a, b] k2 pt2) X.env = pure none := by rfl)
    (hs : swapsWithSole [.Tuple [.Name x px, .Name y py] kt pt] (.Tuple [a, b] k2 pt2) pos.line X.env = pure false := by rfl) :
    S T R X ρ (.Assign [.Tuple [.Name x px, .Name y py] kt pt] (.Tuple [a, b] k2 pt2) pos) Eo :=
  s_of (ps_asg (pe_tup (pa_cons h1 (pa_cons h2 pa_nil hs2) hs1)) (pg_tup hc (pgs_cons (pg_name hN hi hx fa) (pgs_cons (pg_name hN hk hy fb) pgs_nil))) hs hw) fun D σ H H0 en n r bb cc =>
    ⟨⟨H0, en⟩, fun v S1 H1 hS1 x1 p1 => ⟨⟨H0, en.step x1⟩, fun w S2 H2 hS2 x2 p2 => by
      refine ⟨(by show 2 ≤ sizeLine; decide), fun p hp => ⟨p, [v, w], rfl, .inl (.inl upd_same), rfl, _, _, rfl, _, _, rfl, rfl, n _ _ (kn _ _ _ ?_)⟩⟩
      have e1 := en.set_n (i := i) x1 hS1 p1
      have e2 := En.set_n (i := k) e1 x2 hS2 p2
      exact e2.step (Ex.new hp)⟩⟩
end
end Cf
set_option maxHeartbeats 4000000
/-! arithmetic, range, letters in slots, for with letters -/
namespace Cf
open PySem PySem.Spec PyProof.Rows L2 PySem.W
section
variable {T : Tb} {R : Hp} {X : Cx} {ρ ρ' : List AV} {Eo : Po} {e a b : Expr} {pos p p1 : Pos}
theorem e_mulC {x y : Int} (ha : E T R X ρ a (is X.K x).p) (hb : E T R X ρ b (is X.K y).p) (hc : CMul x y) : E T R X ρ (.BinOp a .Mult b pos) (is X.K (x * y)).p :=
  e_op2 (Pa := (is X.K x).r) (Pb := (is X.K y).r) op_mul ha hb fun u v H Q _ h1 h2 q => ⟨x, y, is_int.mp h1, is_int.mp h2, hc, q _ H (Ex.refl H) (is_int.mpr rfl)⟩
theorem e_mod {x y : Int} (ha : E T R X ρ a (is X.K x).p) (hb : E T R X ρ b (is X.K y).p) (hc : 0 < y) : E T R X ρ (.BinOp a .Mod b pos) (is X.K (x % y)).p :=
  e_op2 (Pa := (is X.K x).r) (Pb := (is X.K y).r) op_mod ha hb fun u v H Q _ h1 h2 q => ⟨x, y, is_int.mp h1, is_int.mp h2, hc, q _ H (Ex.refl H) (is_int.mpr rfl)⟩
theorem e_fdiv {x y : Int} (ha : E T R X ρ a (is X.K x).p) (hb : E T R X ρ b (is X.K y).p) (hc : CDiv x y) : E T R X ρ (.BinOp a .FloorDiv b pos) (is X.K (x / y)).p :=
  e_op2 (Pa := (is X.K x).r) (Pb := (is X.K y).r) op_fdiv ha hb fun u v H Q _ h1 h2 q => ⟨x, y, is_int.mp h1, is_int.mp h2, hc, q _ H (Ex.refl H) (is_int.mpr rfl)⟩
theorem e_pow {x y : Int} (ha : E T R X ρ a (is X.K x).p) (hb : E T R X ρ b (is X.K y).p) (hc : CPow x y) : E T R X ρ (.BinOp a .Pow b pos) (is X.K (x ^ y.toNat)).p :=
  e_op2 (Pa := (is X.K x).r) (Pb := (is X.K y).r) op_pow ha hb fun u v H Q _ h1 h2 q => ⟨x, y, is_int.mp h1, is_int.mp h2, hc, q _ H (Ex.refl H) (is_int.mpr rfl)⟩
def CPowX (i j : Int) : Prop := 0 ≤ j ∧ (Builtin.Int.intBits i : Int) * j ≤ 2 ^ 27
theorem op_powX {X : Cx} : OpR X (binaryOp .Pow) (rI CPowX fun i j => .int (i ^ j.toNat)) := opI fun _ _ _ _ _ _ _ hc q => pow_int hc.1 hc.2 q
theorem e_powX {x y : Int} (ha : E T R X ρ a (is X.K x).p) (hb : E T R X ρ b (is X.K y).p) (hc : CPowX x y) : E T R X ρ (.BinOp a .Pow b pos) (is X.K (x ^ y.toNat)).p :=
  e_op2 (Pa := (is X.K x).r) (Pb := (is X.K y).r) op_powX ha hb fun u v H Q _ h1 h2 q => ⟨x, y, is_int.mp h1, is_int.mp h2, hc, q _ H (Ex.refl H) (is_int.mpr rfl)⟩
theorem e_intOf {x : Int} (h : E T R X ρ e (is X.K x).p) (hm : X.mg "int" = none) (hs : starEach [e] X.env = (false, eval e X.env) :: starEach [] X.env := by rfl) (hg : Gl X "int" := by rfl) (hpl : (backTo pos (starEach [] X.env)).any (·.1) = false := by rfl) :
    E T R X ρ (.Call (.Name "int" p) [e] [] pos) (is X.K x).p :=
  e_callT call_int1 hm (by decide +kernel) (as_one (P := (is X.K x).r) h hs) (fun vs H Q _ hp k => by
    obtain ⟨v, rfl, h1⟩ := allP1 hp
    exact .inl ⟨x, by rw [is_int.mp h1], k _ H (Ex.refl H) (is_int.mpr rfl)⟩) hg (by decide) (by decide) hs hpl
theorem e_intB {x : Bool} (h : E T R X ρ e (is X.K x).p) (hm : X.mg "int" = none) (hs : starEach [e] X.env = (false, eval e X.env) :: starEach [] X.env := by rfl) (hg : Gl X "int" := by rfl) (hpl : (backTo pos (starEach [] X.env)).any (·.1) = false := by rfl) :
    E T R X ρ (.Call (.Name "int" p) [e] [] pos) (is X.K (if x = true then (1 : Int) else 0)).p :=
  e_callT call_int1 hm (by decide +kernel) (as_one (P := (is X.K x).r) h hs) (fun vs H Q _ hp k => by
    obtain ⟨v, rfl, h1⟩ := allP1 hp
    exact .inr ⟨x, by rw [is_bool.mp h1], k _ H (Ex.refl H) (is_int.mpr rfl)⟩) hg (by decide) (by decide) hs hpl
theorem e_abs {x : Int} (h : E T R X ρ e (is X.K x).p) (hm : X.mg "abs" = none) (hs : starEach [e] X.env = (false, eval e X.env) :: starEach [] X.env := by rfl) (hg : Gl X "abs" := by rfl) (hpl : (backTo pos (starEach [] X.env)).any (·.1) = false := by rfl) :
    E T R X ρ (.Call (.Name "abs" p) [e] [] pos) (is X.K (if x < 0 then -x else x)).p :=
  e_callB call_abs hm (by decide +kernel) (as_one (P := (is X.K x).r) h hs) (fun vs H Q _ hp k => by
    obtain ⟨v, rfl, h1⟩ := allP1 hp
    exact ⟨x, by rw [is_int.mp h1], k _ H (Ex.refl H) (is_int.mpr rfl)⟩) hg (by decide) (by decide) hs hpl
/-! ### range -/
theorem yl_range {n : Nat} : Yl T (Itr 0 n) none (fun _ => True) ((List.range n).map fun i => is X.K ((i : Nat) : Int)) (YFn fun i => .int (0 + ((i : Nat) : Int))) := by
  have hl : ((List.range n).map fun i => is X.K ((i : Nat) : Int)).length = n := by simp
  refine ⟨?_, fun H H' e _ g => trivial, fun p o z => (by cases z), fun i H x H' P g y hP => ?_⟩
  · rw [hl]
    exact walk_range
  · obtain ⟨rfl, hx⟩ := y
    refine ⟨Ex.refl _, ?_⟩
    rw [List.getElem?_map] at hP
    by_cases hi : i < n
    · rw [List.getElem?_range hi] at hP
      cases hP
      refine is_int.mpr ?_
      rw [hx]
      show V.int (0 + ((i : Nat) : Int)) = V.int ((i : Nat) : Int)
      rw [Int.zero_add]
    · rw [List.getElem?_eq_none (by simp; omega)] at hP
      cases hP
theorem w_range {n : Nat} {tg : Expr} {fr : Prop} (h : E T R X ρ e (is X.K ((n : Nat) : Int)).p) (hn : n ≤ 1000000) (hm : X.mg "range" = none) (hg : Gl X "range" := by rfl) (hs : starEach [e] X.env = [(false, eval e X.env)] := by rfl) (hs2 : starEach [e] X.env = (false, eval e X.env) :: starEach [] X.env := by rfl) :
    W T R X ρ tg (.Call (.Name "range" p) [e] [] pos) fr ((List.range n).map fun i => is X.K ((i : Nat) : Int)) :=
  w_of (pi_range1 hg hm (pa_cons h pa_nil hs2) hs) fun σ H H0 K en q => ⟨⟨H0, en⟩, fun v H' x p => by
    refine ⟨((n : Nat) : Int), by rw [is_int.mp p], by omega, by omega, ?_⟩
    rw [Int.toNat_natCast]
    exact q _ H' none _ _ x (yl_range (X := X)) trivial anc_none fun _ p o z => by cases z⟩
/-! ### letters in slots -/
def exO {ζ : Type} (φ : ζ → Prop) (O : ζ → OP) : OP where
  p := fun v S H => ∃ z, φ z ∧ (O z).p v S H
  st := fun v S H H' e k ⟨z, h1, h2⟩ => ⟨z, h1, (O z).st v S H H' e k h2⟩
  dom := fun v S H ⟨z, _, h2⟩ => (O z).dom v S H h2
def exT {ζ : Type} (φ : ζ → Prop) (P : ζ → TP) : TP where
  p := fun v H => ∃ z, φ z ∧ (P z).p v H
  st := fun v H H' e ⟨z, h1, h2⟩ => ⟨z, h1, (P z).st v H H' e h2⟩
theorem En.openO {H0 H : Hp} {σ : L2.St} {ζ : Type} {φ : ζ → Prop} {O : ζ → OP} {i : Nat} (e : En T R H0 ρ σ H) (hr : ρ[i]? = some (.o (exO φ O))) : ∃ z, φ z ∧ En T R H0 (ρ.set i (.o (O z))) σ H := by
  obtain ⟨F, w⟩ := e.own
  obtain ⟨v, e1, z, hz, h1⟩ : ∃ v, σ[i]? = some (some v) ∧ (exO φ O).p v (F i) H := w.ok i _ hr
  refine ⟨z, hz, e.ex0, e.ex, e.tab, by rw [List.length_set, e.len], F, w.one, w.new, w.has, fun j a ha => ?_⟩
  by_cases q : j = i
  · subst q
    have hj : j < ρ.length := (List.getElem?_eq_some_iff.mp hr).1
    rw [List.getElem?_set_self hj] at ha
    cases ha
    exact ⟨v, e1, h1⟩
  · rw [List.getElem?_set_ne (Ne.symm q)] at ha
    exact w.ok j a ha
theorem En.openT {H0 H : Hp} {σ : L2.St} {ζ : Type} {φ : ζ → Prop} {P : ζ → TP} {i : Nat} (e : En T R H0 ρ σ H) (hr : ρ[i]? = some (.t (exT φ P))) : ∃ z, φ z ∧ En T R H0 (ρ.set i (.t (P z))) σ H := by
  obtain ⟨F, w⟩ := e.own
  obtain ⟨v, e1, z, hz, h1⟩ : ∃ v, σ[i]? = some (some v) ∧ (exT φ P).p v H := w.ok i _ hr
  refine ⟨z, hz, e.ex0, e.ex, e.tab, by rw [List.length_set, e.len], F, w.one, w.new, w.has, fun j a ha => ?_⟩
  by_cases q : j = i
  · subst q
    have hj : j < ρ.length := (List.getElem?_eq_some_iff.mp hr).1
    rw [List.getElem?_set_self hj] at ha
    cases ha
    exact ⟨v, e1, h1⟩
  · rw [List.getElem?_set_ne (Ne.symm q)] at ha
    exact w.ok j a ha
theorem ss_openO {ζ : Type} {φ : ζ → Prop} {O : ζ → OP} {sts : List Stmt} (i : Nat) (hr : ρ[i]? = some (.o (exO φ O))) (h : ∀ z, φ z → Ss T R X (ρ.set i (.o (O z))) sts Eo) : Ss T R X ρ sts Eo :=
  ⟨fun pins s σ H D I ⟨H0, en, q⟩ => by
    obtain ⟨z, hz, en'⟩ := en.openO hr
    exact (h z hz).run pins s σ H D I ⟨H0, en', q⟩⟩
theorem ss_openT {ζ : Type} {φ : ζ → Prop} {P : ζ → TP} {sts : List Stmt} (i : Nat) (hr : ρ[i]? = some (.t (exT φ P))) (h : ∀ z, φ z → Ss T R X (ρ.set i (.t (P z))) sts Eo) : Ss T R X ρ sts Eo :=
  ⟨fun pins s σ H D I ⟨H0, en, q⟩ => by
    obtain ⟨z, hz, en'⟩ := en.openT hr
    exact (h z hz).run pins s σ H D I ⟨H0, en', q⟩⟩
/-- one slot told less -/
theorem En.less {H0 H : Hp} {σ : L2.St} {i : Nat} {A A' : AV} (e : En T R H0 ρ σ H) (hr : ρ[i]? = some A) (k : ∀ S s, SlotOk R H S A s → SlotOk R H S A' s) : En T R H0 (ρ.set i A') σ H := by
  obtain ⟨F, w⟩ := e.own
  refine ⟨e.ex0, e.ex, e.tab, by rw [List.length_set, e.len], F, w.one, w.new, w.has, fun j a ha => ?_⟩
  by_cases q : j = i
  · subst q
    have hj : j < ρ.length := (List.getElem?_eq_some_iff.mp hr).1
    rw [List.getElem?_set_self hj] at ha
    cases ha
    exact k _ _ (w.ok j A hr)
  · rw [List.getElem?_set_ne (Ne.symm q)] at ha
    exact w.ok j a ha
/-! ### for, told by letters -/
theorem s_forE {α ζ : Type} {xs : List α} {gt : α → TP} {tg iter : Expr} {body : List Stmt} {g : TG} {js : List Nat} (φ : List α → ζ → Prop) (inv : List α → ζ → List AV) (ρ' : List α → ζ → α → List AV) (z0 : ζ)
    (hw : W T R X ρ tg iter True (xs.map gt)) (pg : PG X tg g) (h0 : φ [] z0) (w0 : Wk ρ (inv [] z0)) (hg : ∀ pre a post z, xs = pre ++ a :: post → φ pre z → Tg T R (inv pre z) g (gt a) (ρ' pre z a) js)
    (hb : ∀ pre a post z, xs = pre ++ a :: post → φ pre z → Ss T R X (ρ' pre z a) body { nx := fun H0 σ H => ∃ z', φ (pre ++ [a]) z' ∧ En T R H0 (inv (pre ++ [a]) z') σ H, ct := fun H0 σ H => ∃ z', φ (pre ++ [a]) z' ∧ En T R H0 (inv (pre ++ [a]) z') σ H, rt := Eo.rt })
    (hd : ∀ H0 σ H z, φ xs z → En T R H0 (inv xs z) σ H → Eo.nx H0 σ H)
    (hp : PassesOwn (model X.prog X.w) X.A X.env X.xe := by exact PassesOwn.never) (hc : X.calm = true := by rfl) (hs : ∀ x, foldedSetIterable iter X.env x = pure x := by intro _; rfl) : S T R X ρ (.For tg iter body [] pos) Eo := by
  have hb' : PSs X body (fun D σ H => ∃ pre a post z, xs = pre ++ a :: post ∧ φ pre z ∧ cS T R (ρ' pre z a) { nx := fun H0 σ H => ∃ z', φ (pre ++ [a]) z' ∧ En T R H0 (inv (pre ++ [a]) z') σ H, ct := fun H0 σ H => ∃ z', φ (pre ++ [a]) z' ∧ En T R H0 (inv (pre ++ [a]) z') σ H, rt := Eo.rt } D σ H) :=
    ⟨fun pins s σ H D I ⟨pre, a, post, z, h1, hz, h2⟩ => (hb pre a post z h1 hz).run pins s σ H D I h2⟩
  refine s_of (ps_for hp hc hw pg hb' hs) fun D σ H H0 en n r b c => ⟨⟨H0, en⟩, fun J H1 an G Y x1 yl gG hA hfr => ?_⟩
  have hlen : (xs.map gt).length = xs.length := by simp
  obtain ⟨F, w⟩ := en.own
  have w1 : Own R H0 ρ σ H1 F := w.step x1.ext
  have en1 : En T R H0 ρ σ H1 := en.step x1
  obtain ⟨xa, xb⟩ := bare_ex en1 w1
  have eb : En T R (bare F H1) (inv [] z0) σ H1 := (show En T R (bare F H1) ρ σ H1 from ⟨en.ex0.trans xa, xb, en1.tab, en.len, F, w1.one, fun i a ha => bare_own ⟨i, ha⟩, w1.has, w1.ok⟩).weak w0
  have back : ∀ ρ σ H', En T R (bare F H1) ρ σ H' → En T R H0 ρ σ H' := fun ρ σ H' h => by
    obtain ⟨F', w'⟩ := h.own
    exact ⟨en.ex0, xa.trans h.ex, h.tab, h.len, F', w'.one, fun i a ha => xa.bk a (w'.new i a ha), w'.has, w'.ok⟩
  have hAn : ∀ H', Ex T (bare F H1) H' → AncOk an H' := fun H' x pa o z => by
    have hmu : mutO o = true := yl.nt pa o z
    have hn : ¬ ∃ i, F i pa := fun ⟨i, hi⟩ => by
      rcases hfr trivial pa o z with hz | hz
      · obtain ⟨o', e1, _⟩ := w.has i pa hi
        rw [hz] at e1
        cases e1
      · have z0 := w.new i pa hi
        rw [en.ex0.ext pa o hz (mut_ntbl hmu)] at z0
        cases z0
    exact x.ext pa o (by rw [bare_off hn]; exact hA pa o z) (mut_ntbl hmu)
  have hG : ∀ H', Ex T (bare F H1) H' → G H' := fun H' x => yl.st H1 H' (ez_bare w1 x) (hAn H' x) gG
  refine for_it (g := g) (tb := fun D σ H => ∃ pre a post z, xs = pre ++ a :: post ∧ φ pre z ∧ cS T R (ρ' pre z a) { nx := fun H0 σ H => ∃ z', φ (pre ++ [a]) z' ∧ En T R H0 (inv (pre ++ [a]) z') σ H, ct := fun H0 σ H => ∃ z', φ (pre ++ [a]) z' ∧ En T R H0 (inv (pre ++ [a]) z') σ H, rt := Eo.rt } D σ H) (D := D) yl.wk
    (fun k σ' H' => ∃ z, φ (xs.take k) z ∧ En T R (bare F H1) (inv (xs.take k) z) σ' H') ⟨z0, by simpa using h0, by simpa using eb⟩ (fun k σ' H' _ ⟨z, _, h⟩ => hG H' h.ex) ?_ ?_
  · intro k x σ' H2 H3 hk ⟨z, hz, e2⟩ y
    have hk' : k < xs.length := by rwa [hlen] at hk
    have hx : xs = xs.take k ++ xs[k] :: xs.drop (k + 1) := by
      rw [List.getElem_cons_drop, List.take_append_drop]
    have hP : (xs.map gt)[k]? = some (gt xs[k]) := by rw [List.getElem?_map, List.getElem?_eq_getElem hk']; rfl
    obtain ⟨x2, p2⟩ := yl.ye k H2 x H3 _ (hG H2 e2.ex) y hP
    have et : xs.take k ++ [xs[k]] = xs.take (k + 1) := by rw [List.take_add_one, List.getElem?_eq_getElem hk']; rfl
    refine (hg _ _ _ z hx hz).run _ σ' H3 x _ (e2.step x2) p2 fun σ2 e4 _ => ⟨xs.take k, xs[k], xs.drop (k + 1), z, hx, hz, _, e4, fun σ5 H5 e5 => ?_, fun v H5 x5 p5 => r v H5 x5 p5, fun _ _ z => z.elim, fun σ5 H5 e5 => ?_⟩
    · rw [← et]
      exact e5
    · rw [← et]
      exact e5
  · intro σ' H' ⟨z, hz, e2⟩
    rw [hlen, List.take_length] at hz e2
    exact n σ' H' (hd _ _ _ z hz (back _ _ _ e2))
end
end Cf
set_option maxHeartbeats 4000000
/-! what is drawn from -/
namespace Cf
open PySem PySem.Spec PyProof.Rows L2 PySem.W
abbrev PotB : Nat := 16384
structure PotV (n : Nat) (z : Int × Int × Int) : Prop where
  x0 : 0 ≤ z.1
  y0 : 0 ≤ z.2.1
  y1 : z.2.1 < 2305843009213693952
  k0 : 0 ≤ z.2.2
  k1 : z.2.2 ≤ (n : Int)
def potX (a : Addr) (z : Int × Int × Int) : OP where
  p := fun v S H => v = .ref a ∧ S = (fun b => b = a) ∧ H a = some (.lst [.int z.1, .int z.2.1, .int z.2.2])
  st := fun v S H H' e k ⟨h1, h2, h3⟩ => ⟨h1, h2, (k a (by rw [h2])).trans h3⟩
  dom := fun v S H ⟨_, h2, h3⟩ b hb => by
    rw [h2] at hb
    subst hb
    exact ⟨_, h3, rfl⟩
def potO (a : Addr) (n : Nat) : OP := exO (PotV n) (potX a)
def PotAt (a : Addr) (n : Nat) (H : Hp) : Prop := ∃ z, PotV n z ∧ H a = some (.lst [.int z.1, .int z.2.1, .int z.2.2])
/-- a heap without it -/
def mi (a : Addr) (H : Hp) : Hp := fun b => if b = a then none else H b
theorem mi_at {a : Addr} {H : Hp} : mi a H a = none := if_pos rfl
theorem mi_ne {a b : Addr} {H : Hp} (h : b ≠ a) : mi a H b = H b := if_neg h
theorem mi_some {a b : Addr} {H : Hp} {o : HO} (h : mi a H b = some o) : b ≠ a ∧ H b = some o := by
  by_cases e : b = a
  · subst e
    rw [mi_at] at h
    cases h
  · rw [mi_ne e] at h
    exact ⟨e, h⟩
theorem tabs_mi {T : Tb} {a : Addr} {H : Hp} {xs : List V} (h : H a = some (.lst xs)) (t : LamX.Tabs T H) : LamX.Tabs T (mi a H) := fun q hq => by
  obtain ⟨ps, h1, h2, h3⟩ := t q hq
  have ne : ∀ b x, H b = some x → mutO x = false → b ≠ a := fun b x e mx z => by
    subst z
    rw [h] at e
    cases e
    cases mx
  refine ⟨ps, by rw [mi_ne (ne _ _ h1 rfl)]; exact h1, h2, fun pos cv hc => ?_⟩
  obtain ⟨c, e1, e2⟩ := h3 pos cv hc
  exact ⟨c, e1, by rw [mi_ne (ne _ _ e2 rfl)]; exact e2⟩
theorem tabs_of_mi {T : Tb} {a : Addr} {H : Hp} (t : LamX.Tabs T (mi a H)) : LamX.Tabs T H := fun q hq => by
  obtain ⟨ps, h1, h2, h3⟩ := t q hq
  refine ⟨ps, (mi_some h1).2, h2, fun pos cv hc => ?_⟩
  obtain ⟨c, e1, e2⟩ := h3 pos cv hc
  exact ⟨c, e1, (mi_some e2).2⟩
theorem ez_mi {a : Addr} {H : Hp} {xs : List V} (h : H a = some (.lst xs)) : Ez H (mi a H) := fun b o e i => by
  rw [mi_ne fun z => by subst z; rw [h] at e; cases e; cases i]
  exact e
theorem ez_of_mi {a : Addr} {H : Hp} : Ez (mi a H) H := fun b o e _ => (mi_some e).2
theorem ex_mi {T : Tb} {a : Addr} {H : Hp} {xs : List V} (h : H a = some (.lst xs)) : Ex T (mi a H) H :=
  ⟨fun b o e _ => (mi_some e).2, fun b e => by
    by_cases q : b = a
    · subst q
      exact mi_at
    · rw [mi_ne q]
      exact e, tabs_of_mi⟩
theorem PotAt.lst {a : Addr} {n : Nat} {H : Hp} (h : PotAt a n H) : ∃ xs, H a = some (.lst xs) := let ⟨_, _, e⟩ := h; ⟨_, e⟩
theorem ex_mi2 {T : Tb} {a : Addr} {H H' : Hp} {xs : List V} (x : Ex T (mi a H) H') (h : H' a = some (.lst xs)) : Ex T (mi a H) (mi a H') :=
  ⟨fun b o e n => by
    rw [mi_ne (mi_some e).1]
    exact x.ext b o e n, fun b e => by
    by_cases q : b = a
    · subst q
      exact mi_at
    · rw [mi_ne q] at e
      exact x.bk b e, fun t => tabs_mi h (x.tb t)⟩
theorem ex_mi3 {T : Tb} {a : Addr} {H H' : Hp} {xs : List V} (x : Ex T H H') (h : H a = some (.lst xs)) : Ex T (mi a H) (mi a H') :=
  have h' : H' a = some (.lst xs) := x.ext a _ h fun ps z => by cases z
  ex_mi2 ((ex_mi h).trans x) h'
/-- the slots, the first is what is drawn from -/
abbrev pt (a : Addr) (n : Nat) (ρt : List AV) : List AV := .o (potO a n) :: ρt
section
variable {T : Tb} {R H0 H H' : Hp} {σ : L2.St} {a : Addr} {n m : Nat} {ρt : List AV}
theorem En.pot (en : En T R H0 (pt a n ρt) σ H) : σ[0]? = some (some (.ref a)) ∧ PotAt a n H ∧ H0 a = none := by
  obtain ⟨F, w⟩ := en.own
  obtain ⟨v, e1, z, hz, h1, h2, h3⟩ : ∃ v, σ[0]? = some (some v) ∧ (potO a n).p v (F 0) H := w.ok 0 _ rfl
  subst h1
  exact ⟨e1, ⟨z, hz, h3⟩, w.new 0 a (by rw [h2])⟩
theorem En.drawnF (en : En T R H0 (pt a n ρt) σ H) (x : Ex T (mi a H) H') (p : PotAt a m H') : ∃ F, Own R H0 (pt a m ρt) σ H' F ∧ (∀ j b, F j b → H b ≠ none) := by
  obtain ⟨F, w⟩ := en.own
  obtain ⟨v, e1, z, hz, h1, h2, h3⟩ : ∃ v, σ[0]? = some (some v) ∧ (potO a n).p v (F 0) H := w.ok 0 _ rfl
  have hF0 : F 0 a := by rw [h2]
  have off : ∀ j b, j ≠ 0 → F j b → b ≠ a := fun j b hj hb z => hj (w.one j 0 a (z ▸ hb) hF0)
  have ez : Ez H H' := (ez_mi h3).trans x.ez
  refine ⟨F, ⟨w.one, w.new, fun i b hb => ?_, fun i A ha => ?_⟩, fun j b hb => by
    obtain ⟨o, e, _⟩ := w.has j b hb
    rw [e]
    exact fun z => by cases z⟩
  · by_cases q : b = a
    · subst q
      obtain ⟨xs, hx⟩ := p.lst
      exact ⟨_, hx, rfl⟩
    · obtain ⟨o, e, mo⟩ := w.has i b hb
      exact ⟨o, x.ext b o (by rw [mi_ne q]; exact e) (mut_ntbl mo), mo⟩
  · cases i with
    | zero =>
      cases ha
      obtain ⟨z', hz', h'⟩ := p
      exact ⟨v, e1, z', hz', h1, h2, h'⟩
    | succ i =>
      refine (w.ok (i + 1) A ha).step ez fun b hb => ?_
      obtain ⟨o, e, mo⟩ := w.has (i + 1) b hb
      rw [e]
      exact x.ext b o (by rw [mi_ne (off _ b (by omega) hb)]; exact e) (mut_ntbl mo)
theorem En.drawnX (en : En T R H0 (pt a n ρt) σ H) (x : Ex T (mi a H) H') (p : PotAt a m H') : Ex T H0 H' := by
  obtain ⟨_, ⟨z, _, h3⟩, h0⟩ := en.pot
  refine ⟨fun b o e nt => x.ext b o (by rw [mi_ne fun z => by rw [z, h0] at e; cases e]; exact en.ex.ext b o e nt) nt, fun b e => ?_, fun t => x.tb (tabs_mi h3 (en.ex.tb t))⟩
  by_cases q : b = a
  · subst q
    exact h0
  · have := x.bk b e
    rw [mi_ne q] at this
    exact en.ex.bk b this
theorem En.drawn (en : En T R H0 (pt a n ρt) σ H) (x : Ex T (mi a H) H') (p : PotAt a m H') : En T R H0 (pt a m ρt) σ H' := by
  obtain ⟨F, w, _⟩ := en.drawnF x p
  obtain ⟨_, ⟨z, _, h3⟩, h0⟩ := en.pot
  exact ⟨en.ex0, en.drawnX x p, x.tb (tabs_mi h3 en.tab), en.len, F, w⟩
/-- the same, a new thing put into a slot -/
theorem En.drawnN {i : Nat} {v : V} {O : OP} {S : Addr → Prop} (en : En T R H0 (pt a n ρt) σ H) (x : Ex T (mi a H) H') (p : PotAt a m H') (hS : ∀ b, S b → H b = none) (h : O.p v S H') : En T R H0 ((pt a m ρt).set i (.o O)) (σ.set i (some v)) H' := by
  obtain ⟨F, w, hF⟩ := en.drawnF x p
  have en' := en.drawn x p
  refine ⟨en'.ex0, en'.ex, en'.tab, by rw [List.length_set, List.length_set, en'.len], fun j a => (j ≠ i ∧ F j a) ∨ (j = i ∧ S a), fun j k a h1 h2 => ?_, fun j a h1 => ?_, fun j a h1 => ?_, fun j A ha => ?_⟩
  · rcases h1 with h1 | h1 <;> rcases h2 with h2 | h2
    · exact w.one j k a h1.2 h2.2
    · exact absurd (hS _ h2.2) (hF _ _ h1.2)
    · exact absurd (hS _ h1.2) (hF _ _ h2.2)
    · rw [h1.1, h2.1]
  · rcases h1 with h1 | h1
    · exact w.new j a h1.2
    · exact en.ex.bk a (hS a h1.2)
  · rcases h1 with h1 | h1
    · exact w.has j a h1.2
    · exact O.dom _ _ _ h a h1.2
  · by_cases q : j = i
    · subst q
      have hj : j < (pt a m ρt).length := by
        have := (List.getElem?_eq_some_iff.mp ha).1
        rwa [List.length_set] at this
      rw [List.getElem?_set_self hj] at ha
      cases ha
      refine ⟨v, List.getElem?_set_self (by rw [en'.len]; exact hj), ?_⟩
      have eF : (fun a => (j ≠ j ∧ F j a) ∨ (j = j ∧ S a)) = S := funext fun a => propext ⟨fun z => z.elim (fun z => absurd rfl z.1) fun z => z.2, fun z => .inr ⟨rfl, z⟩⟩
      rw [eF]
      exact h
    · rw [List.getElem?_set_ne (Ne.symm q)] at ha
      rw [List.getElem?_set_ne (Ne.symm q)]
      have eF : (fun a => (j ≠ i ∧ F j a) ∨ (j = i ∧ S a)) = F j := funext fun a => propext ⟨fun z => z.elim (fun z => z.2) fun z => absurd z.1 q, fun z => .inl ⟨q, z⟩⟩
      rw [eF]
      exact w.ok j A ha
end
/-! ### readings that draw -/
def cD (T : Tb) (R : Hp) (a : Addr) (ρt : List AV) (n m : Nat) (P : V → Hp → Prop) : TE := fun σ H Q => ∃ H0, En T R H0 (pt a n ρt) σ H ∧ ∀ v H', En T R H0 (pt a m ρt) σ H' → Ex T (mi a H) (mi a H') → P v (mi a H') → Q v H'
def cDA (T : Tb) (R : Hp) (a : Addr) (ρt : List AV) (n m : Nat) (Ps : List RP) : TA := fun σ H Q => ∃ H0, En T R H0 (pt a n ρt) σ H ∧ ∀ vs H', En T R H0 (pt a m ρt) σ H' → Ex T (mi a H) (mi a H') → AllP Ps vs (mi a H') → Q vs H'
def cDN (T : Tb) (R : Hp) (a : Addr) (ρt : List AV) (n m : Nat) (O : OP) : TE := fun σ H Q => ∃ H0, En T R H0 (pt a n ρt) σ H ∧ ∀ v S H', En T R H0 (pt a m ρt) σ H' → (∀ i, En T R H0 ((pt a m ρt).set (i + 1) (.o O)) (σ.set (i + 1) (some v)) H') → Ex T (mi a H) (mi a H') → (∀ b, S b → H b = none) → O.p v S (mi a H') → Q v H'
abbrev D (T : Tb) (R : Hp) (X : Cx) (a : Addr) (ρt : List AV) (n m : Nat) (e : Expr) (P : V → Hp → Prop) : Prop := PE X e (cD T R a ρt n m P)
abbrev DA (T : Tb) (R : Hp) (X : Cx) (a : Addr) (ρt : List AV) (n m : Nat) (es : List Expr) (Ps : List RP) : Prop := PA X es (cDA T R a ρt n m Ps)
abbrev DN (T : Tb) (R : Hp) (X : Cx) (a : Addr) (ρt : List AV) (n m : Nat) (e : Expr) (O : OP) : Prop := PE X e (cDN T R a ρt n m O)
/-- a promise of a def that draws -/
def spD (T : Tb) {ζ : Type} (c : ζ → Nat) (Ps : ζ → List RP) (φ : ζ → Prop) (Pf : ζ → Hp → V → Hp → Prop) : Sp := fun vs H Q _ => ∃ z n a rest, φ z ∧ vs = .ref a :: rest ∧ PotAt a n H ∧ n + c z ≤ PotB ∧ AllP (Ps z) rest (mi a H) ∧ LamX.Tabs T H ∧
  ∀ v H', PotAt a (n + c z) H' → Ex T (mi a H) H' → Pf z (mi a H) v (mi a H') → Q v H'
end Cf
set_option maxHeartbeats 4000000
/-! readings that draw: the rules -/
namespace Cf
open PySem PySem.Spec PyProof.Rows L2 PySem.W
section
variable {T : Tb} {R : Hp} {X : Cx} {a : Addr} {ρt : List AV} {n m m1 : Nat} {e b c : Expr} {es : List Expr} {pos p p1 : Pos} {Eo : Po}
theorem d_of {t : TE} {P : V → Hp → Prop} (h : PE X e t) (k : ∀ σ H H0 Q, En T R H0 (pt a n ρt) σ H → (∀ v H', En T R H0 (pt a m ρt) σ H' → Ex T (mi a H) (mi a H') → P v (mi a H') → Q v H') → t σ H Q) : D T R X a ρt n m e P :=
  ⟨fun pins s σ H Q I ⟨H0, en, q⟩ => h.run pins s σ H Q I (k σ H H0 Q en q)⟩
theorem d_imp {P P' : V → Hp → Prop} (h : D T R X a ρt n m e P) (k : ∀ v H, P v H → P' v H) : D T R X a ρt n m e P' :=
  d_of h fun σ H H0 Q en q => ⟨H0, en, fun v H' e1 x1 p1 => q v H' e1 x1 (k v _ p1)⟩
theorem d_t {P : TP} (h : E T R X (pt a n ρt) e P.p) : D T R X a ρt n n e P.p :=
  d_of h fun σ H H0 Q en q => ⟨⟨H0, en⟩, fun v H' x pv => by
    obtain ⟨_, ⟨z, _, h3⟩, _⟩ := en.pot
    have h3' : H' a = some (.lst [.int z.1, .int z.2.1, .int z.2.2]) := x.ext a _ h3 fun ps z => by cases z
    exact q v H' (en.step x) (ex_mi3 x h3) (P.st _ _ _ (ez_mi h3') pv)⟩
/-- a parameter -/
theorem d_par (i : Nat) {x : Str} {P : RP} (hr : ρt[i]? = some (.r P)) (hN : X.N[i + 1]? = some x := by rfl) (hv : Vis X.env.scope x := by first | exact Or.inl rfl | exact Or.inr (Or.inl rfl) | exact Or.inr (Or.inr rfl)) (hd : (x == ("__debug__" : Str)) = false := by decide)
    (hcd : (x == ("__classdict__" : Str)) = false := by decide) : D T R X a ρt n n (.Name x pos) P.p :=
  d_of (pe_var hN hv hd hcd) fun σ H H0 Q en q => by
    obtain ⟨S, v, h1, h2⟩ := en.slot (i := i + 1) (a := .r P) hr
    obtain ⟨_, ⟨z, _, h3⟩, h0⟩ := en.pot
    have hR : R a = none := en.ex0.bk a h0
    exact ⟨v, h1, q v H en (Ex.refl _) (P.st _ _ _ (fun b o e nt => by rw [mi_ne fun z => by rw [z, hR] at e; cases e]; exact en.exR.ext b o e nt) h2)⟩
/-- a list of one's own -/
theorem d_own {α : Type} [DecidableEq α] [Enc α] {xs : List α} (i : Nat) {x : Str} (hr : ρt[i]? = some (.o (lstO X.K xs))) (hN : X.N[i + 1]? = some x := by rfl) (hv : Vis X.env.scope x := by first | exact Or.inl rfl | exact Or.inr (Or.inl rfl) | exact Or.inr (Or.inr rfl)) (hd : (x == ("__debug__" : Str)) = false := by decide)
    (hcd : (x == ("__classdict__" : Str)) = false := by decide) : D T R X a ρt n n (.Name x pos) (lstX X.K xs).p :=
  d_of (pe_var hN hv hd hcd) fun σ H H0 Q en q => by
    obtain ⟨F, w⟩ := en.own
    obtain ⟨v0, _, z, _, _, g2, g3⟩ : ∃ v, σ[0]? = some (some v) ∧ (potO a n).p v (F 0) H := w.ok 0 _ rfl
    obtain ⟨v, h1, l, vs, rfl, h2, h3, h4⟩ : ∃ v, σ[i + 1]? = some (some v) ∧ (lstO X.K xs).p v (F (i + 1)) H := w.ok (i + 1) _ hr
    have hla : l ≠ a := fun z => by
      have := w.one (i + 1) 0 a (by rw [h2, z]) (by rw [g2])
      omega
    exact ⟨_, h1, q _ H en (Ex.refl _) ⟨l, vs, rfl, by rw [mi_ne hla]; exact h3, dps_ez (ez_mi g3) _ _ (encs_pure _) h4⟩⟩
/-- a new list -/
theorem d_newL {α : Type} [DecidableEq α] [Enc α] {xs : List α} (h : N T R X (pt a n ρt) e (lstO X.K xs)) : D T R X a ρt n n e (lstX X.K xs).p :=
  d_of h fun σ H H0 Q en q => ⟨⟨H0, en⟩, fun v S H' hS x ⟨l, vs, h1, h2, h3, h4⟩ => by
    obtain ⟨_, ⟨z, _, g3⟩, _⟩ := en.pot
    have g3' : H' a = some (.lst [.int z.1, .int z.2.1, .int z.2.2]) := x.ext a _ g3 fun ps z => by cases z
    have hla : l ≠ a := fun z => by
      have := hS l (by rw [h2])
      rw [z, g3] at this
      cases this
    exact q v H' (en.step x) (ex_mi3 x g3) ⟨l, vs, h1, by rw [mi_ne hla]; exact h3, dps_ez (ez_mi g3') _ _ (encs_pure _) h4⟩⟩
/-! arguments -/
theorem da_nil : DA T R X a ρt n n [] [] := ⟨fun pos pins s σ H Q I ⟨H0, en, q⟩ => pa_nil.run pos pins s σ H Q I (q [] H en (Ex.refl _) trivial)⟩
theorem da_cons {P : RP} {Ps : List RP} (h : D T R X a ρt n m1 e P.p) (t : DA T R X a ρt m1 m es Ps) (hs : starEach (e :: es) X.env = (false, eval e X.env) :: starEach es X.env := by rfl) : DA T R X a ρt n m (e :: es) (P :: Ps) := by
  refine ⟨fun pos pins s σ H Q I ⟨H0, en, q⟩ => (pa_cons h t hs).run pos pins s σ H Q I ?_⟩
  exact ⟨H0, en, fun v H1 e1 x1 p1 => ⟨H0, e1, fun vs H2 e2 x2 p2 => q (v :: vs) H2 e2 (x1.trans x2) ⟨P.st _ _ _ x2.ext p1, p2⟩⟩⟩
section
variable {ζ : Type} {cost : ζ → Nat} {Ps : ζ → List RP} {φ : ζ → Prop} {Pf : ζ → Hp → V → Hp → Prop} {k j : Nat} {x x0 : Str}
/-- f(pot, ..) -/
theorem d_call {Pr : V → Hp → Prop} (c : Cal X.prog X.w X.K X.mg X.base k x (spD T cost Ps φ Pf)) (hr : Room j X.A) (hk : k ≤ j) (z : ζ) (hz : φ z) (hc : m + cost z ≤ PotB) (ha : DA T R X a ρt n m es (Ps z)) (hp : ∀ H v H', Ex T H H' → Pf z H v H' → Pr v H') (hg : Gl X x := by rfl)
    (hN : X.N[0]? = some x0 := by rfl) (hv : Vis X.env.scope x0 := by first | exact Or.inl rfl | exact Or.inr (Or.inl rfl) | exact Or.inr (Or.inr rfl)) (hd0 : (x0 == ("__debug__" : Str)) = false := by decide) (hcd : (x0 == ("__classdict__" : Str)) = false := by decide)
    (hdb : (x == ("__debug__" : Str)) = false := by decide) (he : starEach (.Name x0 p1 :: es) X.env = (false, eval (.Name x0 p1) X.env) :: starEach es X.env := by rfl) (hpl : (backTo pos (starEach es X.env)).any (·.1) = false := by rfl) : D T R X a ρt n (m + cost z) (.Call (.Name x p) (.Name x0 p1 :: es) [] pos) Pr := by
  obtain ⟨f, fd, ps, F, hm, kp, b⟩ := c.ex
  refine d_of (pe_call F (hr.mono hk) hg hm kp b .nil pass0 (pa_cons (pe_var hN hv hd0 hcd) ha he) hdb he hpl) fun σ H H0 Q en q => ?_
  obtain ⟨h0, _, _⟩ := en.pot
  refine ⟨_, h0, H0, en, fun vs H1 e1 x1 p1 => ?_⟩
  obtain ⟨_, hp1, _⟩ := e1.pot
  refine ⟨z, m, a, vs, hz, by rw [List.append_nil], hp1, hc, p1, e1.tab, fun v H' hp' x2 p2 => ?_⟩
  obtain ⟨xs, hx⟩ := hp'.lst
  have x3 := ex_mi2 x2 hx
  exact q v H' (e1.drawn x2 hp') (x1.trans x3) (hp _ v _ x3 p2)
/-- the same, a new thing -/
theorem dn_call {O : OP} (c : Cal X.prog X.w X.K X.mg X.base k x (spD T cost Ps φ Pf)) (hr : Room j X.A) (hk : k ≤ j) (z : ζ) (hz : φ z) (hc : m + cost z ≤ PotB) (ha : DA T R X a ρt n m es (Ps z)) (hp : ∀ H v H', Pf z H v H' → nw O H v H') (hg : Gl X x := by rfl)
    (hN : X.N[0]? = some x0 := by rfl) (hv : Vis X.env.scope x0 := by first | exact Or.inl rfl | exact Or.inr (Or.inl rfl) | exact Or.inr (Or.inr rfl)) (hd0 : (x0 == ("__debug__" : Str)) = false := by decide) (hcd : (x0 == ("__classdict__" : Str)) = false := by decide)
    (hdb : (x == ("__debug__" : Str)) = false := by decide) (he : starEach (.Name x0 p1 :: es) X.env = (false, eval (.Name x0 p1) X.env) :: starEach es X.env := by rfl) (hpl : (backTo pos (starEach es X.env)).any (·.1) = false := by rfl) : DN T R X a ρt n (m + cost z) (.Call (.Name x p) (.Name x0 p1 :: es) [] pos) O := by
  obtain ⟨f, fd, ps, F, hm, kp, b⟩ := c.ex
  refine ⟨fun pins s σ H Q I ⟨H0, en, q⟩ => (pe_call F (hr.mono hk) hg hm kp b .nil pass0 (pa_cons (pe_var hN hv hd0 hcd) ha he) hdb he hpl).run pins s σ H Q I ?_⟩
  obtain ⟨h0, ⟨zz, _, hH⟩, _⟩ := en.pot
  refine ⟨_, h0, H0, en, fun vs H1 e1 x1 p1 => ?_⟩
  obtain ⟨_, hp1, _⟩ := e1.pot
  refine ⟨z, m, a, vs, hz, by rw [List.append_nil], hp1, hc, p1, e1.tab, fun v H' hp' x2 p2 => ?_⟩
  obtain ⟨xs, hx⟩ := hp'.lst
  have x3 := ex_mi2 x2 hx
  obtain ⟨S, hS, h1⟩ := hp _ v _ p2
  have hS1 : ∀ b, S b → H1 b = none := fun b hb => by
    have h2 := hS b hb
    by_cases e : b = a
    · subst e
      obtain ⟨o, h3, _⟩ := O.dom _ _ _ h1 b hb
      rw [mi_at] at h3
      cases h3
    · rwa [mi_ne e] at h2
  have hS0 : ∀ b, S b → H b = none := fun b hb => by
    have h2 := x1.bk b (by
      by_cases e : b = a
      · subst e
        exact mi_at
      · rw [mi_ne e]
        exact hS1 b hb)
    by_cases e : b = a
    · subst e
      obtain ⟨o, h3, _⟩ := O.dom _ _ _ h1 b hb
      rw [mi_at] at h3
      cases h3
    · rwa [mi_ne e] at h2
  have h1' : O.p v S H' := O.st _ _ _ _ ez_of_mi (fun b hb => by
    obtain ⟨o, h3, _⟩ := O.dom _ _ _ h1 b hb
    rw [mi_ne (mi_some h3).1]) h1
  exact q v S H' (e1.drawn x2 hp') (fun i => e1.drawnN x2 hp' hS1 h1') (x1.trans x3) hS0 h1
end
/-! ### statements -/
/-- x = e -/
theorem s_setD {P : TP} {x : Str} {pos' : Pos} (i : Nat) (hN : X.N.Nodup) (h : D T R X a ρt n m e P.p) (k : ∀ H0 σ H, En T R H0 ((pt a m ρt).set (i + 1) (.t P)) σ H → Eo.nx H0 σ H) (hi : X.N[i + 1]? = some x := by rfl) (hx : Loc X.env.scope x := by first | exact Or.inl rfl | exact Or.inr rfl)
    (hs : swapsWith e (some (.Name x pos')) pos.line X.env = pure false := by rfl) (hf : X.fn x = true ∨ X.env.scope.names.lookup x = some .local := by first | exact .inl rfl | exact .inr rfl) : S T R X (pt a n ρt) (.Assign [.Name x pos'] e pos) Eo :=
  s_of (ps_set hN hi hx h hs hf) fun D σ H H0 en nn r b c => ⟨H0, en, fun v H' e1 x1 p1 => nn _ _ (k _ _ _ (e1.set_t (P.st _ _ _ ez_of_mi p1)))⟩
/-- x = a new thing -/
theorem s_setDN {O : OP} {x : Str} {pos' : Pos} (i : Nat) (hN : X.N.Nodup) (h : DN T R X a ρt n m e O) (k : ∀ H0 σ H, En T R H0 ((pt a m ρt).set (i + 1) (.o O)) σ H → Eo.nx H0 σ H) (hi : X.N[i + 1]? = some x := by rfl) (hx : Loc X.env.scope x := by first | exact Or.inl rfl | exact Or.inr rfl)
    (hs : swapsWith e (some (.Name x pos')) pos.line X.env = pure false := by rfl) (hf : X.fn x = true ∨ X.env.scope.names.lookup x = some .local := by first | exact .inl rfl | exact .inr rfl) : S T R X (pt a n ρt) (.Assign [.Name x pos'] e pos) Eo :=
  s_of (ps_set hN hi hx h hs hf) fun D σ H H0 en nn r b c => ⟨H0, en, fun v S H' e1 e2 x1 hS p1 => nn _ _ (k _ _ _ (e2 i))⟩
/-- return of what is drawn -/
theorem s_retD {P : V → Hp → Prop} (h : D T R X a ρt n m e P) (k : ∀ v H, PotAt a m H → Ex T R H → P v (mi a H) → Eo.rt v H) : S T R X (pt a n ρt) (.Return (some e) pos) Eo :=
  s_of (ps_ret h) fun D σ H H0 en nn r b c => ⟨H0, en, fun v H' e1 x1 p1 => r v H' e1.exR (k v H' e1.pot.2.1 e1.exR p1)⟩
/-- a plain return, with what the slots tell then -/
theorem s_retW {ρ : List AV} {P : V → Hp → Prop} (h : Cf.E T R X ρ e P) (k : ∀ v H H0 σ, En T R H0 ρ σ H → P v H → Eo.rt v H) : S T R X ρ (.Return (some e) pos) Eo :=
  s_of (ps_ret h) fun D σ H H0 en nn r b c => ⟨⟨H0, en⟩, fun v H' x p => r v H' (en.exR.trans x) (k v H' H0 σ (en.step x) p)⟩
/-! tests -/
def cBD (T : Tb) (R : Hp) (a : Addr) (ρt : List AV) (n m : Nat) : TT := fun σ H Q => ∃ H0, En T R H0 (pt a n ρt) σ H ∧ ∀ k H', En T R H0 (pt a m ρt) σ H' → Q k H'
abbrev BD (T : Tb) (R : Hp) (X : Cx) (a : Addr) (ρt : List AV) (n m : Nat) (e : Expr) : Prop := PT X e (cBD T R a ρt n m)
/-- the next digit below u -/
def below (K : PySem.W.Frag) (u : Nat) : TP := exT (fun i : Nat => i < u) fun i => is K ((i : Nat) : Int)
theorem bd_eq {j u : Nat} {y : Int} (hr : Room j X.A) (ha : D T R X a ρt n m e (below X.K u).p) (hb : ∀ n, Cf.E T R X (pt a n ρt) b (is X.K y).p) : BD T R X a ρt n m (.Compare e [.Eq] [b] pos) :=
  ⟨fun pins s σ H Q I ⟨H0, en, q⟩ => (pt_cmpR (op_eqD hr.units) ha (hb m) (nomark b)).run pins s σ H Q I ⟨H0, en, fun v H1 e1 x1 ⟨i, hi, p1⟩ => ⟨⟨H0, e1⟩, fun w H2 x2 p2 =>
    ⟨enc ((i : Nat) : Int), enc y, (by rw [is_int.mp p1]; exact Dp.int _), p2, enc_shaped (α := Int) (by decide) _, enc_shaped (α := Int) (by decide) y, _, rfl, q _ H2 (e1.step x2)⟩⟩⟩⟩
theorem s_ifD {l r : List Stmt} (h : BD T R X a ρt n m c) (h1 : Ss T R X (pt a m ρt) l Eo) (h2 : Ss T R X (pt a m ρt) r Eo) : S T R X (pt a n ρt) (.If c l r pos) Eo :=
  s_of (ps_if h h1 h2) fun D σ H H0 en nn rr bb cc => ⟨H0, en, fun k H' e1 => by
    cases k with
    | true => exact iteT ⟨H0, e1, nn, rr, bb, cc⟩
    | false => exact iteF ⟨H0, e1, nn, rr, bb, cc⟩⟩
end
section
variable {P : Program} {w : World} {K : PySem.W.Frag} {mg : Str → Option Value} {base : Heap} {T : Tb}
end
end Cf
set_option maxHeartbeats 4000000
/-! defs that draw; items of lists set -/
namespace Cf
open PySem PySem.Spec PyProof.Rows L2 PySem.W
section
variable {P : Program} {w : World} {K : PySem.W.Frag} {mg : Str → Option Value} {base : Heap} {T : Tb}
theorem en_startD {H : Hp} {a : Addr} {n : Nat} {Ps : List RP} {rest : List V} {N : List Str} (hT : LamX.Tabs T H) (hp : PotAt a n H) (h : AllP Ps rest (mi a H)) (hN : Ps.length + 1 ≤ N.length) :
    En T (mi a H) (mi a H) (pt a n (ent (N.length - (Ps.length + 1)) Ps)) (L2.start N (.ref a :: rest)) H := by
  obtain ⟨xs, hx⟩ := hp.lst
  have en0 : En T (mi a H) (mi a H) (ent (N.length - (Ps.length + 1)) ((⟨fun v _ => v = .ref a, fun _ _ _ _ e => e⟩ : RP) :: Ps)) (L2.start N (.ref a :: rest)) (mi a H) :=
    en_start (Ps := (⟨fun v _ => v = .ref a, fun _ _ _ _ e => e⟩ : RP) :: Ps) (tabs_mi hx hT) ⟨rfl, h⟩ hN
  obtain ⟨F, w⟩ := en0.own
  have em : ∀ j b, ¬ F j b := fun j b hb => by
    obtain ⟨o, e, _⟩ := w.has j b hb
    rw [w.new j b hb] at e
    cases e
  refine ⟨Ex.refl _, ex_mi hx, hT, en0.len, fun j b => j = 0 ∧ b = a, fun i j b h1 h2 => h1.1.trans h2.1.symm, fun i b hb => by rw [hb.2]; exact mi_at, fun i b hb => by rw [hb.2]; exact ⟨_, hx, rfl⟩, fun i A hA => ?_⟩
  cases i with
  | zero =>
    cases hA
    obtain ⟨v, e1, e2⟩ := w.ok 0 _ rfl
    obtain ⟨z, hz, hzx⟩ := hp
    exact ⟨v, e1, z, hz, e2, funext fun b => propext ⟨fun q => q.2, fun q => ⟨rfl, q⟩⟩, hzx⟩
  | succ i =>
    have e : (fun b => i + 1 = 0 ∧ b = a) = F (i + 1) := funext fun b => propext ⟨fun q => absurd q.1 (Nat.succ_ne_zero _), fun q => absurd q (em _ _)⟩
    rw [e]
    exact (w.ok (i + 1) A hA).step ez_of_mi fun b hb => absurd hb (em _ _)
/-- a def that draws keeps its promise, by its body -/
theorem cal_ofD {ζ : Type} {cost : ζ → Nat} {Ps : ζ → List RP} {φ : ζ → Prop} {Pf : ζ → Hp → V → Hp → Prop} {x : Str} {st : Stmt} {N ps : List Str} {k : Nat} (F : Fdef K mg x st) (S : FnScope N ps (defScope st)) (hlen : ∀ z, (Ps z).length + 1 = ps.length)
    (hb : ∀ (kV doc pm : Value) (an : Option Addr) (cdv ct : Value) (us : List Value), us.length = ps.length → bindArgs (PySem.W.fnOf x x (defArgs st) (defBody st) (defScope st) .none kV doc pm an cdv ct) ⟨us, []⟩ = pure (ps.zip us))
    (body : ∀ z n a f cdv A outer s H E, φ z → n + cost z ≤ PotB → Room k (A.deeper (envOfC x (defScope st) s.heap.objs.size f cdv)) → Ss T (mi a H) (Bx P w K mg base N x st f cdv A outer s H E) (pt a n (ent (N.length - ps.length) (Ps z))) (defBody st) { rt := fun v H' => PotAt a (n + cost z) H' ∧ Pf z (mi a H) v (mi a H') }) :
    Cal P w K mg base (k + 1) x (spD T cost Ps φ Pf) := by
  obtain ⟨f, fd, F, hm⟩ := F.ex
  refine ⟨f, fd, ps, F.ok S (fun vs H Q E ⟨z, n, a, rest, hz, e, hp, hc, h, _⟩ => by rw [e, List.length_cons, allP_len h, hlen z]) (fun cdv A outer s H vs Q E hr ⟨z, n, a, rest, hz, e, hp, hc, h, hT, q⟩ => ?_), hm, F.kp, F.bindsN hb⟩
  subst e
  have hle : ps.length ≤ N.length := by
    have := congrArg List.length S.pre
    rw [List.length_take] at this
    omega
  refine ⟨_, (body z n a f cdv A outer s H E hz hc hr).nox, mi a H, ?_, fun _ _ z => z.elim, fun v H' x p => q v H' p.1 x p.2, fun _ _ z => z.elim, fun _ _ z => z.elim⟩
  rw [← hlen z]
  exact en_startD hT hp h (by rw [hlen z]; exact hle)
end
section
variable {T : Tb} {R : Hp} {X : Cx} {ρ : List AV} {e b : Expr} {pos p p1 p2 : Pos} {Eo : Po}
/-- x[i] = e, x a list of one's own -/
theorem s_setIx {O O' : OP} {P : TP} {j : Nat} {x : Str} (i : Nat) (hr : ρ[i]? = some (.o O)) (h : Cf.E T R X ρ e P.p) (hix : Cf.E T R X ρ b (is X.K ((j : Nat) : Int)).p)
    (ko : ∀ v S H u, O.p v S H → P.p u H → ∃ l vs, v = .ref l ∧ S l ∧ H l = some (.lst vs) ∧ j < vs.length ∧ O'.p v S (upd H l (.lst (vs.set j u)))) (kn : ∀ H0 σ H, En T R H0 (ρ.set i (.o O')) σ H → Eo.nx H0 σ H)
    (hN : X.N[i]? = some x := by rfl) (hv : Vis X.env.scope x := by first | exact Or.inl rfl | exact Or.inr (Or.inl rfl) | exact Or.inr (Or.inr rfl)) (hd : (x == ("__debug__" : Str)) = false := by decide) (hcd : (x == ("__classdict__" : Str)) = false := by decide)
    (hs : swapsWithSole [.Subscript (.Name x p1) b p2] e pos.line X.env = pure false := by rfl) (hw : swappedStores [.Subscript (.Name x p1) b p2] e X.env = pure none := by rfl)
    (h1 : (assignEach [.Subscript (.Name x p1) b p2] X.env).map (·.2) = [assign (.Subscript (.Name x p1) b p2) X.env] := by rfl)
    (ha : ∀ v, assign (.Subscript (.Name x p1) b p2) X.env v = (do
      let ov ← holding [v] (eval (.Name x p1) X.env)
      let iv ← holding [v, ov] (eval b X.env)
      standAt p2
      holding [v, ov, iv] (setItem ov iv v)
      release [v, ov, iv] []) := by intro _; rfl) : S T R X ρ (.Assign [.Subscript (.Name x p1) b p2] e pos) Eo := by
  refine s_of (ps_asg h (pg_sub (pe_var hN hv hd hcd) hix set_list ha) hs hw h1) fun D σ H H0 en n r bb cc => ⟨⟨H0, en⟩, fun u H1 x1 p1 => ?_⟩
  have en1 := en.step x1
  obtain ⟨S1, v, h3, h4⟩ := en1.slot hr
  refine ⟨v, h3, ⟨H0, en1⟩, fun iv H2 x2 p2 => ?_⟩
  have en2 := en1.step x2
  obtain ⟨S2, v2, g3, g4⟩ := en2.slot hr
  rw [h3] at g3
  cases g3
  obtain ⟨l, vs, rfl, hS, hH, hj, _⟩ := ko _ _ _ u g4 (P.st _ _ _ x2.ez p1)
  refine ⟨l, vs, ((j : Nat) : Int), j, rfl, is_int.mp p2, hH, ?_, n _ _ (kn _ _ _ (en2.put hr h3 fun S0 hO => ?_))⟩
  · unfold ixN
    simp
    omega
  · obtain ⟨l', vs', e, hS', hH', _, ho⟩ := ko _ _ _ u hO (P.st _ _ _ x2.ez p1)
    cases e
    rw [hH] at hH'
    cases hH'
    exact ⟨hS', rfl, ho⟩
end
end Cf
set_option maxHeartbeats 4000000
/-! readings that change a list of one's own -/
namespace Cf
open PySem PySem.Spec PyProof.Rows L2 PySem.W
theorem dps_erase {K : PySem.W.Frag} {H : Hp} : ∀ {vs : List V} {ds : List PyData} (k : Nat), DpAll K H vs ds → DpAll K H (vs.eraseIdx k) (ds.eraseIdx k)
  | _, _, _, .nil => .nil
  | _, _, 0, .cons _ t => t
  | _, _, k + 1, .cons h t => .cons h (dps_erase k t)
theorem encs_erase {α : Type} [DecidableEq α] [Enc α] : ∀ (xs : List α) (k : Nat), encs (xs.eraseIdx k) = (encs xs).eraseIdx k
  | [], _ => rfl
  | _ :: _, 0 => rfl
  | x :: xs, k + 1 => congrArg (enc x :: ·) (encs_erase xs k)
def cX (T : Tb) (R : Hp) (ρ : List AV) (Ψ : V → Hp → L2.St → Hp → Prop) : TE := fun σ H Q => ∃ H0, En T R H0 ρ σ H ∧ ∀ v H', Ψ v H0 σ H' → Q v H'
abbrev XE (T : Tb) (R : Hp) (X : Cx) (ρ : List AV) (e : Expr) (Ψ : V → Hp → L2.St → Hp → Prop) : Prop := PE X e (cX T R ρ Ψ)
section
variable {T : Tb} {R : Hp} {X : Cx} {ρ ρ' : List AV} {a : Addr} {ρt : List AV} {n m : Nat} {e b : Expr} {pos p p1 p2 p3 p4 : Pos} {Eo : Po} {α : Type} [DecidableEq α] [Enc α]
theorem xe_of {t : TE} {Ψ : V → Hp → L2.St → Hp → Prop} (h : PE X e t) (k : ∀ σ H H0 Q, En T R H0 ρ σ H → (∀ v H', Ψ v H0 σ H' → Q v H') → t σ H Q) : XE T R X ρ e Ψ :=
  ⟨fun pins s σ H Q I ⟨H0, en, q⟩ => h.run pins s σ H Q I (k σ H H0 Q en q)⟩
/-- x.pop(i), i drawn -/
theorem xe_popD {xs : List α} {x : Str} (i : Nat) (hr : ρt[i]? = some (.o (lstO X.K xs))) (hl : xs.length ≤ 1000000) (h : D T R X a ρt n m e (below X.K xs.length).p)
    (hN : X.N[i + 1]? = some x := by rfl) (hv : Vis X.env.scope x := by first | exact Or.inl rfl | exact Or.inr (Or.inl rfl) | exact Or.inr (Or.inr rfl)) (hd : (x == ("__debug__" : Str)) = false := by decide) (hcd : (x == ("__classdict__" : Str)) = false := by decide)
    (hbase : attributeBase (.Name x p1) "pop" X.env (eval (.Name x p1) X.env) = eval (.Name x p1) X.env := by rfl)
    (hfew : ((backTo p3 (starEach [e] X.env)).all (fun x => !x.1) && (backToKw p3 (keywordEach [] X.env)).all (fun x => x.1.isSome) && decide (([e] : List Expr).length + ([] : List Keyword).length + (if ([] : List Keyword).isEmpty then 0 else 1) < 30)) = true := by rfl)
    (hline : (p2.endLine == p3.line) = true := by rfl) (hs : starEach [e] X.env = (false, eval e X.env) :: starEach [] X.env := by rfl) (hplain : (backTo p3 (starEach [] X.env)).any (·.1) = false := by rfl) :
    XE T R X (pt a n ρt) (.Call (.Attribute (.Name x p1) "pop" p2) [e] [] p3) fun v H0 σ H' => ∃ k y, xs[k]? = some y ∧ En T R H0 ((pt a m ρt).set (i + 1) (.o (lstO X.K (xs.eraseIdx k)))) σ H' ∧ (is X.K y).p v H' :=
  xe_of (pe_bm PySem.F.plainAttrs_list PySem.F.slot_list_pop PySem.F.type_list_pop (r := rPopAt) (fun pins s σ H x xs v us Q I r1 r2 h => mt_popAt pins s σ H x xs v us Q I r1 r2 h) (pe_var (pos := p1) hN hv hd hcd) (pa_cons h pa_nil hs) hbase hfew hline hs hplain) fun σ H H0 Q en q => by
    obtain ⟨F, w⟩ := en.own
    obtain ⟨v, h1, l, vs, rfl, hF, h3, h4⟩ : ∃ v, σ[i + 1]? = some (some v) ∧ (lstO X.K xs).p v (F (i + 1)) H := w.ok (i + 1) _ hr
    refine ⟨_, h1, Or.inl ⟨rfl, _, Or.inl (Or.inl h3)⟩, H0, en, fun y H1 e1 x1 ⟨k, hk, py⟩ => ?_⟩
    obtain ⟨F1, w1⟩ := e1.own
    obtain ⟨v1, g1, l1, vs1, rfl, gF, g3, g4⟩ : ∃ v, σ[i + 1]? = some (some v) ∧ (lstO X.K xs).p v (F1 (i + 1)) H1 := w1.ok (i + 1) _ hr
    rw [h1] at g1
    cases g1
    have n1 : vs1.length = xs.length := by rw [DpAll.len g4]; simp [encs]
    have hk1 : k < vs1.length := by rw [n1]; exact hk
    have hk2 : seqIndex? ((k : Nat) : Int) vs1.length = some k := by
      have h0 : ¬ ((k : Nat) : Int) < 0 := by omega
      have h5 : (decide ((0 : Int) ≤ ((k : Nat) : Int)) && decide (((k : Nat) : Int) < ((vs1.length : Nat) : Int))) = true := by
        rw [decide_eq_true (by omega), decide_eq_true (by omega)]
        rfl
      unfold seqIndex?
      simp only [if_neg h0, h5, if_true, Int.toNat_natCast]
    obtain ⟨u, e2, e3⟩ : ∃ u, xs[k]? = some u ∧ Dp X.K H1 vs1[k] (enc u) := by
      obtain ⟨d, f1, f2⟩ := DpAll.at g4 (List.getElem?_eq_getElem hk1)
      unfold encs at f1
      rw [List.getElem?_map] at f1
      cases hu : xs[k]? with
      | none => rw [hu] at f1; cases f1
      | some u =>
        rw [hu] at f1
        cases f1
        exact ⟨u, rfl, f2⟩
    refine ⟨l, vs1, ((k : Nat) : Int), k, vs1[k], rfl, by rw [is_int.mp py], g3, by omega, by omega, hk2, List.getElem?_eq_getElem hk1, q _ _ ⟨k, u, e2, e1.put (O' := lstO X.K (xs.eraseIdx k)) hr h1 fun S hS => ?_, dp_ez (Ez.put g3 rfl) _ _ (Enc.pure u) e3⟩⟩
    obtain ⟨l2, vs2, e5, hS2, e6, e7⟩ := hS
    cases e5
    rw [g3] at e6
    cases e6
    refine ⟨by rw [hS2], rfl, l, _, rfl, hS2, upd_same, ?_⟩
    rw [encs_erase]
    exact dps_erase k (dps_ez (Ez.put g3 rfl) _ _ (encs_pure xs) e7)
/-- x.append(such a thing) -/
theorem s_appendX {ζ : Type} {φ : ζ → Prop} {ρ1 : ζ → List AV} {xs0 : List α} {xs : ζ → List α} {z : ζ → α} {x : Str} (i : Nat) (hr : ρ[i]? = some (.o (lstO X.K xs0))) (h : XE T R X ρ e fun v H0 σ H' => ∃ y, φ y ∧ En T R H0 (ρ1 y) σ H' ∧ (is X.K (z y)).p v H')
    (hr1 : ∀ y, φ y → (ρ1 y)[i]? = some (.o (lstO X.K (xs y)))) (hl : ∀ y, φ y → (xs y).length ≤ 1000000) (kn : ∀ y H0 σ H, φ y → En T R H0 ((ρ1 y).set i (.o (lstO X.K (xs y ++ [z y])))) σ H → Eo.nx H0 σ H)
    (hN : X.N[i]? = some x := by rfl) (hv : Vis X.env.scope x := by first | exact Or.inl rfl | exact Or.inr (Or.inl rfl) | exact Or.inr (Or.inr rfl)) (hd : (x == ("__debug__" : Str)) = false := by decide) (hcd : (x == ("__classdict__" : Str)) = false := by decide)
    (hbase : attributeBase (.Name x p1) "append" X.env (eval (.Name x p1) X.env) = eval (.Name x p1) X.env := by rfl)
    (hfew : ((backTo p3 (starEach [e] X.env)).all (fun x => !x.1) && (backToKw p3 (keywordEach [] X.env)).all (fun x => x.1.isSome) && decide (([e] : List Expr).length + ([] : List Keyword).length + (if ([] : List Keyword).isEmpty then 0 else 1) < 30)) = true := by rfl)
    (hline : (p2.endLine == p3.line) = true := by rfl) (hs : starEach [e] X.env = (false, eval e X.env) :: starEach [] X.env := by rfl) (hplain : (backTo p3 (starEach [] X.env)).any (·.1) = false := by rfl)
    (hsw : swapsWith (.Call (.Attribute (.Name x p1) "append" p2) [e] [] p3) none p4.line X.env = pure false := by rfl) : S T R X ρ (.Expr (.Call (.Attribute (.Name x p1) "append" p2) [e] [] p3) p4) Eo :=
  s_of (ps_expr (pe_bm PySem.F.plainAttrs_list PySem.F.slot_list_append PySem.F.type_list_append (r := rAppend) (fun pins s σ H x xs v us Q I r1 r2 h => mt_append pins s σ H x xs v us Q I r1 r2 h) (pe_var (pos := p1) hN hv hd hcd) (pa_cons h pa_nil hs) hbase hfew hline hs hplain) hsw) fun D σ H H0 en nn rt b c => by
    obtain ⟨F, w⟩ := en.own
    obtain ⟨v, h1, l, vs, rfl, hF, h3, h4⟩ : ∃ v, σ[i]? = some (some v) ∧ (lstO X.K xs0).p v (F i) H := w.ok i _ hr
    refine ⟨_, h1, Or.inl ⟨rfl, _, Or.inl (Or.inl h3)⟩, H0, en, fun u H1 ⟨y, hy, e1, pu⟩ => ?_⟩
    obtain ⟨F1, w1⟩ := e1.own
    obtain ⟨v1, g1, l1, vs1, rfl, gF, g3, g4⟩ : ∃ v, σ[i]? = some (some v) ∧ (lstO X.K (xs y)).p v (F1 i) H1 := w1.ok i _ (hr1 y hy)
    rw [h1] at g1
    cases g1
    have n1 : vs1.length = (xs y).length := by rw [DpAll.len g4]; simp [encs]
    have hly := hl y hy
    have : sizeLine = 16777216 := sizeLine_eq
    refine ⟨l, vs1, u, rfl, rfl, g3, by omega, nn _ _ (kn y _ _ _ hy (e1.put (hr1 y hy) h1 fun S hS => ?_))⟩
    obtain ⟨l2, vs2, e5, hS2, e6, e7⟩ := hS
    cases e5
    rw [g3] at e6
    cases e6
    refine ⟨by rw [hS2], rfl, l, _, rfl, hS2, upd_same, ?_⟩
    rw [encs_snoc]
    exact DpAll.app (dps_ez (Ez.put g3 rfl) _ _ (encs_pure _) e7) (.cons (dp_ez (Ez.put g3 rfl) _ _ (Enc.pure _) pu) .nil)
end
end Cf
set_option maxHeartbeats 4000000
/-! for over a range, drawn or not; x, y = a, b with draws -/
namespace Cf
open PySem PySem.Spec PyProof.Rows L2 PySem.W
section
variable {T : Tb} {R : Hp} {X : Cx} {ρ ρ' : List AV} {a : Addr} {ρt : List AV} {n m : Nat} {e b e1 e2 : Expr} {pos p p1 p2 p3 p4 : Pos} {Eo : Po}
theorem s_forRD {ζ : Type} {u : Nat} {x : Str} {body : List Stmt} (i : Nat) (φ : Nat → ζ → Prop) (inv : Nat → ζ → List AV) (z0 : ζ) (hw : D T R X a ρt n m e (below X.K u).p) (hu : u ≤ 1000000) (hm : X.mg "range" = none) (hN : X.N.Nodup) (h0 : φ 0 z0) (w0 : Wk (pt a m ρt) (inv 0 z0))
    (hb : ∀ k z, k < u → φ k z → Ss T R X ((inv k z).set i (.t (is X.K ((k : Nat) : Int)))) body { nx := fun H0 σ H => ∃ z', φ (k + 1) z' ∧ En T R H0 (inv (k + 1) z') σ H, ct := fun H0 σ H => ∃ z', φ (k + 1) z' ∧ En T R H0 (inv (k + 1) z') σ H, rt := Eo.rt })
    (hd : ∀ k z H0 σ H, k < u → φ k z → En T R H0 (inv k z) σ H → Eo.nx H0 σ H)
    (hi : X.N[i]? = some x := by rfl) (hx : Loc X.env.scope x := by first | exact Or.inl rfl | exact Or.inr rfl) (hf : X.fn x = true ∨ X.env.scope.names.lookup x = some .local := by first | exact .inl rfl | exact .inr rfl)
    (hg : Gl X "range" := by rfl) (hs : starEach [e] X.env = [(false, eval e X.env)] := by rfl) (hs2 : starEach [e] X.env = (false, eval e X.env) :: starEach [] X.env := by rfl)
    (hp : PassesOwn (model X.prog X.w) X.A X.env X.xe := by exact PassesOwn.never) (hc : X.calm = true := by rfl) (hsf : ∀ y, foldedSetIterable (.Call (.Name "range" p) [e] [] p1) X.env y = pure y := by intro _; rfl) :
    S T R X (pt a n ρt) (.For (.Name x p2) (.Call (.Name "range" p) [e] [] p1) body [] pos) Eo := by
  have hb' : PSs X body (fun D σ H => ∃ k z, k < u ∧ φ k z ∧ cS T R ((inv k z).set i (.t (is X.K ((k : Nat) : Int)))) { nx := fun H0 σ H => ∃ z', φ (k + 1) z' ∧ En T R H0 (inv (k + 1) z') σ H, ct := fun H0 σ H => ∃ z', φ (k + 1) z' ∧ En T R H0 (inv (k + 1) z') σ H, rt := Eo.rt } D σ H) :=
    ⟨fun pins s σ H D I ⟨k, z, h1, h2, h3⟩ => (hb k z h1 h2).run pins s σ H D I h3⟩
  refine s_of (ps_for hp hc (pi_range1 hg hm (pa_cons hw pa_nil hs2) hs) (pg_name hN hi hx hf) hb' hsf) fun D σ H H0 en nn r bb cc => ⟨H0, en, fun v H1 e1 x1 ⟨c, hk, pv⟩ => ⟨((c : Nat) : Int), by rw [is_int.mp pv], by omega, by omega, ?_⟩⟩
  rw [Int.toNat_natCast]
  refine for_it (g := gName i) (tb := fun D σ H => ∃ k z, k < u ∧ φ k z ∧ cS T R ((inv k z).set i (.t (is X.K ((k : Nat) : Int)))) { nx := fun H0 σ H => ∃ z', φ (k + 1) z' ∧ En T R H0 (inv (k + 1) z') σ H, ct := fun H0 σ H => ∃ z', φ (k + 1) z' ∧ En T R H0 (inv (k + 1) z') σ H, rt := Eo.rt } D σ H) (D := D) (walk_range (lo := 0) (n := c)) (fun k σ' H' => k ≤ c ∧ ∃ z, φ k z ∧ En T R H0 (inv k z) σ' H') ⟨Nat.zero_le _, z0, h0, e1.weak w0⟩ (fun k σ' H' _ _ => trivial) ?_ ?_
  · intro k y σ' H2 H3 hkc ⟨_, z, hz, e2⟩ yy
    obtain ⟨rfl, hy⟩ := yy
    refine ⟨k, z, by omega, hz, H0, e2.set_t (is_int.mpr ?_), fun σ5 H5 ⟨z', hz', e5⟩ => ⟨hkc, z', hz', e5⟩, fun v H5 x5 p5 => r v H5 x5 p5, fun _ _ z => z.elim, fun σ5 H5 ⟨z', hz', e5⟩ => ⟨hkc, z', hz', e5⟩⟩
    rw [hy]
    show V.int (0 + ((k : Nat) : Int)) = V.int ((k : Nat) : Int)
    rw [Int.zero_add]
  · intro σ' H' ⟨_, z, hz, e2⟩
    exact nn σ' H' (hd c z _ _ _ hk hz e2)
/-- x, y = a new drawn thing, a value -/
theorem s_parDE {O : OP} {P : TP} {x y : Str} {px py pt' pt2 : Pos} {kt k2 : Nat} (i k : Nat) (hN : X.N.Nodup) (h1 : DN T R X a ρt n m e1 O) (h2 : Cf.E T R X (pt a m ρt) e2 P.p) (hik : i + 1 ≠ k) (kn : ∀ H0 σ H, En T R H0 (((pt a m ρt).set (i + 1) (.o O)).set k (.t P)) σ H → Eo.nx H0 σ H)
    (hi : X.N[i + 1]? = some x := by rfl) (hk : X.N[k]? = some y := by rfl) (hx : X.env.scope.names.lookup x = some .local := by rfl) (hy : X.env.scope.names.lookup y = some .local := by rfl)
    (hs1 : starEach [e1, e2] X.env = (false, eval e1 X.env) :: starEach [e2] X.env := by rfl) (hs2 : starEach [e2] X.env = (false, eval e2 X.env) :: starEach [] X.env := by rfl)
    (hw : swappedStores [.Tuple [.Name x px, .Name y py] kt pt'] (.Tuple [e1, e2] k2 pt2) X.env = pure (some [x, y]) := by rfl) (hc : X.calm = true := by rfl)
    (hs : swapsWithSole [.Tuple [.Name x px, .Name y py] kt pt'] (.Tuple [e1, e2] k2 pt2) pos.line X.env = pure false := by rfl) :
    S T R X (pt a n ρt) (.Assign [.Tuple [.Name x px, .Name y py] kt pt'] (.Tuple [e1, e2] k2 pt2) pos) Eo :=
  s_of (ps_par hc hN hi hk hik hx hy (pa_cons h1 (pa_cons h2 pa_nil hs2) hs1) hw hs) fun D σ H H0 en nn r bb cc =>
    ⟨H0, en, fun v S1 H1 g1 g2 x1 hS1 p1 => ⟨⟨H0, g1⟩, fun w H2 x2 p2 => ⟨v, w, rfl, nn _ _ (kn _ _ _ (((g2 i).step x2).set_t p2))⟩⟩⟩
end
end Cf
set_option maxHeartbeats 4000000
/-! texts and lists with drawn places -/
namespace Cf
open PySem PySem.Spec PyProof.Rows L2 PySem.W
theorem dps_set {K : PySem.W.Frag} {H : Hp} {u : V} {d : PyData} : ∀ {vs : List V} {ds : List PyData} (k : Nat), Dp K H u d → DpAll K H vs ds → DpAll K H (vs.set k u) (ds.set k d)
  | _, _, _, _, .nil => .nil
  | _, _, 0, hu, .cons _ t => .cons hu t
  | _, _, k + 1, hu, .cons h t => .cons h (dps_set k hu t)
section
variable {T : Tb} {R : Hp} {X : Cx} {ρ ρ' : List AV} {a : Addr} {ρt : List AV} {n m : Nat} {e b c : Expr} {pos p p1 p2 p3 p4 : Pos} {Eo : Po}
/-- one of these signs -/
def oneS (y : Nm) : TP := exT (fun c : Nat => c ∈ cps y) isS
/-- s[i], i drawn -/
theorem d_ixS {y : Nm} {u : Nat} (h : ∀ n, Cf.E T R X (pt a n ρt) b (is X.K y).p) (h' : D T R X a ρt n m e (below X.K u).p) (hl : y.1.length ≤ 1000000) (hu : (cps y).length = u) (hs : PlainIx e := by exact fun _ _ => rfl) : D T R X a ρt n m (.Subscript b e pos) (oneS y).p :=
  d_of (pe_ix ix_str (h n) h' hs) fun σ H H0 Q en q => ⟨⟨H0, en⟩, fun v H1 x1 p1 => ⟨H0, en.step x1, fun w H2 e2 x2 ⟨i, hi, p2⟩ => by
    have hS : sizeLine = 16777216 := sizeLine_eq
    obtain ⟨_, ⟨z, _, h3⟩, _⟩ := en.pot
    have hi' : i < (cps y).length := by rw [hu]; exact hi
    exact ⟨y.1, _, (cps y)[i], is_nm.mp p1, is_int.mp p2, by omega, atI_get (List.getElem?_eq_getElem hi'), q _ _ e2 ((ex_mi3 x1 h3).trans x2) ⟨_, List.getElem_mem hi', rfl⟩⟩⟩⟩
/-- s + a drawn sign -/
theorem d_addS {x y : Nm} {Z : TP} (ha : Cf.E T R X (pt a n ρt) b (is X.K x).p) (hb : D T R X a ρt n m e (oneS y).p) (hl : x.1.length ≤ 100000) (hz : ∀ c ∈ cps y, ∀ H, Z.p (.str (x.1 ++ ⟨#[c]⟩)) H) : D T R X a ρt n m (.BinOp b .Add e pos) Z.p :=
  d_of (pe_op op_add_str ha hb) fun σ H H0 Q en q => ⟨⟨H0, en⟩, fun v H1 x1 p1 => ⟨H0, en.step x1, fun w H2 e2 x2 ⟨c, hc, p2⟩ => by
    have hS : sizeLine = 16777216 := sizeLine_eq
    obtain ⟨_, ⟨z, _, h3⟩, _⟩ := en.pot
    have p2 : w = .str ⟨#[c]⟩ := p2
    have h1 : (⟨#[c]⟩ : Str).length = 1 := rfl
    exact ⟨x.1, ⟨#[c]⟩, is_nm.mp p1, p2, by omega, q _ _ e2 ((ex_mi3 x1 h3).trans x2) (hz c hc _)⟩⟩⟩
/-- x[i] = e, i drawn -/
theorem s_setIxD {α : Type} [DecidableEq α] [Enc α] {xs : List α} {z : α} {x : Str} (i : Nat) (hr : ρt[i]? = some (.o (lstO X.K xs))) (h : Cf.E T R X (pt a n ρt) e (is X.K z).p) (hix : D T R X a ρt n m b (below X.K xs.length).p) (kn : ∀ k H0 σ H, k < xs.length → En T R H0 ((pt a m ρt).set (i + 1) (.o (lstO X.K (xs.set k z)))) σ H → Eo.nx H0 σ H)
    (hN : X.N[i + 1]? = some x := by rfl) (hv : Vis X.env.scope x := by first | exact Or.inl rfl | exact Or.inr (Or.inl rfl) | exact Or.inr (Or.inr rfl)) (hd : (x == ("__debug__" : Str)) = false := by decide) (hcd : (x == ("__classdict__" : Str)) = false := by decide)
    (hs : swapsWithSole [.Subscript (.Name x p1) b p2] e pos.line X.env = pure false := by rfl) (hw : swappedStores [.Subscript (.Name x p1) b p2] e X.env = pure none := by rfl)
    (h1 : (assignEach [.Subscript (.Name x p1) b p2] X.env).map (·.2) = [assign (.Subscript (.Name x p1) b p2) X.env] := by rfl)
    (ha : ∀ v, assign (.Subscript (.Name x p1) b p2) X.env v = (do
      let ov ← holding [v] (eval (.Name x p1) X.env)
      let iv ← holding [v, ov] (eval b X.env)
      standAt p2
      holding [v, ov, iv] (setItem ov iv v)
      release [v, ov, iv] []) := by intro _; rfl) : S T R X (pt a n ρt) (.Assign [.Subscript (.Name x p1) b p2] e pos) Eo := by
  refine s_of (ps_asg h (pg_sub (pe_var hN hv hd hcd) hix set_list ha) hs hw h1) fun D σ H H0 en nn r bb cc => ⟨⟨H0, en⟩, fun u H1 x1 p1 => ?_⟩
  have en1 := en.step x1
  obtain ⟨S1, v, h3, h4⟩ := en1.slot (i := i + 1) (a := .o (lstO X.K xs)) hr
  refine ⟨v, h3, H0, en1, fun iv H2 e2 x2 ⟨k, hk, p2⟩ => ?_⟩
  obtain ⟨S2, v2, g3, g4⟩ := e2.slot (i := i + 1) (a := .o (lstO X.K xs)) hr
  rw [h3] at g3
  cases g3
  obtain ⟨l, vs, rfl, hS2, hH, hD⟩ := g4
  have n1 : vs.length = xs.length := by rw [DpAll.len hD]; simp [encs]
  obtain ⟨_, ⟨zz, _, hp1⟩, _⟩ := en1.pot
  have ez12 : Ez H1 H2 := (ez_mi hp1).trans (x2.ez.trans ez_of_mi)
  refine ⟨l, vs, ((k : Nat) : Int), k, rfl, is_int.mp p2, hH, ?_, nn _ _ (kn k _ _ _ hk (e2.put (i := i + 1) (O' := lstO X.K (xs.set k z)) hr h3 fun S0 hO => ?_))⟩
  · unfold ixN
    rw [if_pos (by omega), if_pos (by omega), Int.toNat_natCast]
  · obtain ⟨l', vs', e5, hS', hH', hD'⟩ := hO
    cases e5
    rw [hH] at hH'
    cases hH'
    refine ⟨by rw [hS'], rfl, l, _, rfl, hS', upd_same, ?_⟩
    have hz : Dp X.K (upd H2 l (.lst (vs.set k u))) u (enc z) := dp_ez (ez12.trans (Ez.put hH rfl)) _ _ (Enc.pure z) p1
    have : encs (xs.set k z) = (encs xs).set k (enc z) := by unfold encs; rw [List.map_set]
    rw [this]
    exact dps_set k hz (dps_ez (Ez.put hH rfl) _ _ (encs_pure xs) hD')
end
end Cf
set_option maxHeartbeats 4000000
/-! lists of lists of one's own -/
namespace Cf
open PySem PySem.Spec PyProof.Rows L2 PySem.W
section
variable {α : Type} [DecidableEq α] [Enc α]
/-- a list of lists, told by their places -/
def sidesX (K : PySem.W.Frag) (l : Addr) (ls : List Addr) (yss : List (List α)) : OP where
  p := fun v S H => v = .ref l ∧ S = (fun b => b = l ∨ b ∈ ls) ∧ l ∉ ls ∧ ls.Nodup ∧ H l = some (.lst (ls.map V.ref)) ∧ EachIs (fun b ys => LstAt K H b ys) ls yss
  st := fun v S H H' e k ⟨h1, h2, h3, h4, h5, h6⟩ => by
    refine ⟨h1, h2, h3, h4, (k l (by rw [h2]; exact .inl rfl)).trans h5, ?_⟩
    have : ∀ {bs : List Addr} {yss : List (List α)}, (∀ b ∈ bs, b ∈ ls) → EachIs (fun b ys => LstAt K H b ys) bs yss → EachIs (fun b ys => LstAt K H' b ys) bs yss := by
      intro bs yss hs h
      induction h with
      | nil => exact .nil
      | cons h t ih =>
        obtain ⟨vs, g1, g2⟩ := h
        exact .cons ⟨vs, (k _ (by rw [h2]; exact .inr (hs _ List.mem_cons_self))).trans g1, dps_ez e _ _ (encs_pure _) g2⟩ (ih fun b hb => hs b (List.mem_cons_of_mem _ hb))
    exact this (fun b hb => hb) h6
  dom := fun v S H ⟨h1, h2, h3, h4, h5, h6⟩ a ha => by
    rw [h2] at ha
    rcases ha with e | e
    · subst e
      exact ⟨_, h5, rfl⟩
    · obtain ⟨ys, _, vs, g1, _⟩ := h6.left a e
      exact ⟨_, g1, rfl⟩
end
section
variable {T : Tb} {R : Hp} {X : Cx} {ρ : List AV} {α β : Type} [DecidableEq β] [Enc β]
abbrev teN (T : Tb) (R : Hp) (K : PySem.W.Frag) (xs : List α) (ρ' : α → List AV) (f : α → List β) : TE := fun σ H Q => ∃ a, a ∈ xs ∧ cN T R (ρ' a) (lstO K (f a)) σ H Q
theorem lc_readN {K : PySem.W.Frag} {xs : List α} {gt : α → TP} {fr : Prop} {g : TG} {js : List Nat} {own : List (Str × Nat)} {ρ' : α → List AV} {f : α → List β}
    (hj : ∀ j ∈ js, j ∈ own.map (·.2)) (hl : xs.length ≤ 1000000) (hg : ∀ a ∈ xs, Tg T R (wipeA ρ (own.map (·.2))) g (gt a) (ρ' a) js) :
    ∀ (σ : L2.St) (H H0 : Hp) (Q : VK), En T R H0 ρ σ H → (∀ v S H' l ls, (∀ a, S a → H a = none) → Ex T H H' → (sidesX K l ls (xs.map f)).p v S H' → Q v H') →
      tLc (cW T R ρ fr (xs.map gt)) g (ttP T R xs ρ' fun _ => true) (teN T R K xs ρ' f) (own.map (·.2)) σ H Q := by
  intro σ H H0 Q en q
  refine ⟨⟨H0, en⟩, fun J H1 an G Y x1 yl gG hA _ D hD => ?_⟩
  have en1 := en.step x1
  obtain ⟨F, ow⟩ := en1.own
  have nF : ∀ i, ¬ F i D := fun i z => by
    obtain ⟨o, h1, _⟩ := ow.has i D z
    rw [hD] at h1
    cases h1
  have nA : ∀ pa o, an = some (pa, o) → pa ≠ D := fun pa o z e => by
    have h1 := hA pa o z
    rw [e, hD] at h1
    cases h1
  have ow' := own_wipe ow (own.map (·.2))
  have lw : (wipe σ (own.map (·.2))).length = (wipeA ρ (own.map (·.2))).length := by rw [wipe_length, wipeA_length, en.len]
  refine lc_it (g := g) (tt := fun σ H Q => ∃ a, a ∈ xs ∧ cT T R (ρ' a) true σ H Q) (te := fun σ H Q => ∃ a, a ∈ xs ∧ cN T R (ρ' a) (lstO K (f a)) σ H Q) (vs := own.map (·.2)) (σ := σ) (Qd := fun H => Q (.ref D) H) yl.wk
    (fun k H' => ∃ ls, H' D = some (.lst (ls.map V.ref)) ∧ D ∉ ls ∧ ls.Nodup ∧ (∀ b ∈ ls, H1 b = none) ∧ EachIs (fun b ys => LstAt K H' b ys) ls ((xs.take k).map f) ∧ ls.length ≤ k ∧ Ex T H1 H' ∧ G H' ∧ AncOk an H' ∧ LamX.Tabs T H' ∧ Own R H0 (wipeA ρ (own.map (·.2))) (wipe σ (own.map (·.2))) H' F)
    ⟨[], upd_same, List.not_mem_nil, List.nodup_nil, (fun b hb => absurd hb List.not_mem_nil), EachIs.nil, Nat.zero_le _, Ex.new hD, yl.st _ _ (Ex.new (T := T) hD).ez (fun pa o z => by rw [upd_ne (nA pa o z)]; exact hA pa o z) gG, fun pa o z => by rw [upd_ne (nA pa o z)]; exact hA pa o z, (Ex.new hD).tb en1.tab, ow'.step (Ex.new (T := T) hD).ext⟩
    (fun k H' _ h => by obtain ⟨_, _, _, _, _, _, _, _, h, _⟩ := h; exact h) ?_ ?_
  · rintro k x H2 H3 hk ⟨ls, a1, a1b, a1c, a1d, a2, a3, a4, a5, a6, a7, a8⟩ y
    have hk' : k < xs.length := by simpa using hk
    obtain ⟨a, ha⟩ : ∃ a, xs[k]? = some a := ⟨_, List.getElem?_eq_getElem hk'⟩
    have hmem : a ∈ xs := List.mem_of_getElem? ha
    have hP : (xs.map gt)[k]? = some (gt a) := by rw [List.getElem?_map, ha]; rfl
    obtain ⟨x2, p2⟩ := yl.ye k H2 x H3 (gt a) a5 y hP
    have x13 := a4.trans x2
    have en3 : En T R H0 (wipeA ρ (own.map (·.2))) (wipe σ (own.map (·.2))) H3 := ⟨en.ex0, en1.ex.trans x13, x2.tb a7, lw, F, a8.step x2.ext⟩
    have go : ∀ H4, Ex T H3 H4 → Own R H0 (wipeA ρ (own.map (·.2))) (wipe σ (own.map (·.2))) H4 F ∧ H4 D = some (.lst (ls.map V.ref)) ∧ AncOk an H4 ∧ G H4 := fun H4 x4 => by
      have x24 := x2.trans x4
      refine ⟨a8.step x24.ext, x24.ext D _ a1 (fun ps z => by cases z), fun pa o z => x24.ext pa o (a6 pa o z) (mut_ntbl (yl.nt pa o z)), yl.st _ _ x24.ez (fun pa o z => x24.ext pa o (a6 pa o z) (mut_ntbl (yl.nt pa o z))) a5⟩
    refine (hg a hmem).run H0 _ H3 x _ en3 p2 fun σ' en4 hw' => ⟨hw' _ hj σ rfl, a, hmem, ⟨H0, en4⟩, fun H4 x4 => ?_⟩
    refine iteT ⟨a, hmem, ⟨H0, en4.step x4⟩, fun v S H5 hS x5 ⟨b, vs, p51, p52, p53, p54⟩ => ?_⟩
    obtain ⟨c1, c2, c3, c4⟩ := go H5 (x4.trans x5)
    have x25 := x2.trans (x4.trans x5)
    have hb4 : H4 b = none := hS b (by rw [p52])
    have hb2 : H2 b = none := x2.bk b (x4.bk b hb4)
    have hbD : b ≠ D := fun z => by rw [z, a1] at hb2; cases hb2
    have hbls : b ∉ ls := fun z => by
      obtain ⟨ys, _, ws, g1, _⟩ := a2.left b z
      rw [hb2] at g1
      cases g1
    subst p51
    refine ⟨ls.map V.ref, c2, ?_, ls ++ [b], by rw [List.map_append]; exact upd_same, ?_, ?_, ?_, ?_, ?_, ⟨?_, ?_, ?_⟩, ?_, ?_, ?_, ?_⟩
    · have : sizeLine = 16777216 := sizeLine_eq
      rw [List.length_map]
      omega
    · rw [List.mem_append, List.mem_singleton]
      exact fun z => z.elim a1b fun z => hbD z.symm
    · rw [List.nodup_append]
      exact ⟨a1c, by simp, fun c hc d hd e => hbls (by rw [List.mem_singleton.mp hd] at e; rw [← e]; exact hc)⟩
    · intro c hc
      rcases List.mem_append.mp hc with z | z
      · exact a1d c z
      · rw [List.mem_singleton.mp z]
        exact a4.bk b hb2
    · rw [List.take_add_one, ha, List.map_append]
      have ez : Ez H5 (upd H5 D (.lst (ls.map V.ref ++ [V.ref b]))) := Ez.put c2 rfl
      have old : ∀ {bs : List Addr} {yss : List (List β)}, (∀ c ∈ bs, c ≠ D) → EachIs (fun b ys => LstAt K H2 b ys) bs yss → EachIs (fun b' ys => LstAt K (upd H5 D (.lst (ls.map V.ref ++ [V.ref b]))) b' ys) bs yss := by
        intro bs yss hbs h
        induction h with
        | nil => exact .nil
        | cons h t ih =>
          obtain ⟨ws, g1, g2⟩ := h
          exact .cons ⟨ws, by rw [upd_ne (hbs _ List.mem_cons_self)]; exact x25.ext _ _ g1 (fun ps z => by cases z), dps_ez (x25.ez.trans ez) _ _ (encs_pure _) g2⟩ (ih fun c hc => hbs c (List.mem_cons_of_mem _ hc))
      have app : ∀ {bs : List Addr} {yss : List (List β)} {c : Addr} {ys : List β} {P : Addr → List β → Prop}, EachIs P bs yss → P c ys → EachIs P (bs ++ [c]) (yss ++ [ys]) := by
        intro bs yss c ys P h hc
        induction h with
        | nil => exact .cons hc .nil
        | cons h t ih => exact .cons h ih
      refine app (old (fun c hc z => a1b (z ▸ hc)) a2) ⟨vs, by rw [upd_ne hbD]; exact p53, dps_ez ez _ _ (encs_pure _) p54⟩
    · rw [List.length_append, List.length_singleton]; omega
    · exact ((a4.trans x25).put hD c2 rfl).ext
    · exact ((a4.trans x25).put hD c2 rfl).bk
    · exact ((a4.trans x25).put hD c2 rfl).tb
    · exact yl.st _ _ (Ez.put c2 rfl) (fun pa o z => by rw [upd_ne (nA pa o z)]; exact c3 pa o z) c4
    · exact fun pa o z => by rw [upd_ne (nA pa o z)]; exact c3 pa o z
    · exact tabs_put c2 rfl (x25.tb a7)
    · exact own_put c1 c2 rfl nF
  · rintro H' ⟨ls, a1, a1b, a1c, a1d, a2, a3, a4, a5, a6, a7, a8⟩
    have hn : (xs.map gt).length = xs.length := by simp
    rw [hn, List.take_length] at a2
    exact q (.ref D) (fun a => a = D ∨ a ∈ ls) H' D ls (fun a z => x1.bk a (by
      rcases z with z | z
      · rw [z]
        exact hD
      · exact a1d a z)) (x1.trans a4) ⟨rfl, rfl, a1b, a1c, a1, a2⟩
end
end Cf
set_option maxHeartbeats 4000000
/-! The text by places: each def's body, its slots. -/
namespace Pg
open PySem PySem.Spec PyProof.Rows L2 Cf
def top (i : Nat) : Stmt := PySem.Challenge.pw_copiedfrom_k61_whole_what_several_have_p.main.body.getD i (.Pass ⟨0, 0, 0, 0⟩)
abbrev s_wall : Stmt := top 0
abbrev N_wall : List Str := ["k"]
theorem sc_wall : FnScope N_wall ["k"] (defScope s_wall) := ⟨rfl, rfl, rfl, by decide +kernel, rfl, by decide +kernel, by decide +kernel⟩
abbrev s_is_integer : Stmt := top 12
abbrev N_is_integer : List Str := ["value"]
theorem sc_is_integer : FnScope N_is_integer ["value"] (defScope s_is_integer) := ⟨rfl, rfl, rfl, by decide +kernel, rfl, by decide +kernel, by decide +kernel⟩
abbrev s_is_between : Stmt := top 13
abbrev N_is_between : List Str := ["value", "least", "most"]
theorem sc_is_between : FnScope N_is_between ["value", "least", "most"] (defScope s_is_between) := ⟨rfl, rfl, rfl, by decide +kernel, rfl, by decide +kernel, by decide +kernel⟩
abbrev s_is_name : Stmt := top 14
abbrev N_is_name : List Str := ["value", "sign"]
theorem sc_is_name : FnScope N_is_name ["value"] (defScope s_is_name) := ⟨rfl, rfl, rfl, by decide +kernel, rfl, by decide +kernel, by decide +kernel⟩
abbrev s_Reader_init : Stmt := inClass (top 22) 0
abbrev N_Reader_init : List Str := ["self"]
theorem sc_Reader_init : FnScope N_Reader_init ["self"] (defScope s_Reader_init) := ⟨rfl, rfl, rfl, by decide +kernel, rfl, by decide +kernel, by decide +kernel⟩
abbrev s_Reader_takes : Stmt := inClass (top 22) 1
abbrev N_Reader_takes : List Str := ["self", "line", "words"]
theorem sc_Reader_takes : FnScope N_Reader_takes ["self", "line"] (defScope s_Reader_takes) := ⟨rfl, rfl, rfl, by decide +kernel, rfl, by decide +kernel, by decide +kernel⟩
abbrev s_Reader_takes_copy : Stmt := inClass (top 22) 2
abbrev N_Reader_takes_copy : List Str := ["self", "words"]
theorem sc_Reader_takes_copy : FnScope N_Reader_takes_copy ["self", "words"] (defScope s_Reader_takes_copy) := ⟨rfl, rfl, rfl, by decide +kernel, rfl, by decide +kernel, by decide +kernel⟩
abbrev s_Reader_takes_place : Stmt := inClass (top 22) 3
abbrev N_Reader_takes_place : List Str := ["self", "words", "place", "word"]
theorem sc_Reader_takes_place : FnScope N_Reader_takes_place ["self", "words"] (defScope s_Reader_takes_place) := ⟨rfl, rfl, rfl, by decide +kernel, rfl, by decide +kernel, by decide +kernel⟩
abbrev s_Reader_found : Stmt := inClass (top 22) 4
abbrev N_Reader_found : List Str := ["self"]
theorem sc_Reader_found : FnScope N_Reader_found ["self"] (defScope s_Reader_found) := ⟨rfl, rfl, rfl, by decide +kernel, rfl, by decide +kernel, by decide +kernel⟩
abbrev s_Shelf_init : Stmt := inClass (top 23) 0
abbrev N_Shelf_init : List Str := ["self", "text", "reader", "number", "line"]
theorem sc_Shelf_init : FnScope N_Shelf_init ["self", "text"] (defScope s_Shelf_init) := ⟨rfl, rfl, rfl, by decide +kernel, rfl, by decide +kernel, by decide +kernel⟩
abbrev s_Shelf_eq : Stmt := inClass (top 23) 1
abbrev N_Shelf_eq : List Str := ["self", "other"]
theorem sc_Shelf_eq : FnScope N_Shelf_eq ["self", "other"] (defScope s_Shelf_eq) := ⟨rfl, rfl, rfl, by decide +kernel, rfl, by decide +kernel, by decide +kernel⟩
abbrev s_Shelf_text : Stmt := inClass (top 23) 2
abbrev N_Shelf_text : List Str := ["self"]
theorem sc_Shelf_text : FnScope N_Shelf_text ["self"] (defScope s_Shelf_text) := ⟨rfl, rfl, rfl, by decide +kernel, rfl, by decide +kernel, by decide +kernel⟩
abbrev s_Shelf_copies : Stmt := inClass (top 23) 3
abbrev N_Shelf_copies : List Str := ["self"]
theorem sc_Shelf_copies : FnScope N_Shelf_copies ["self"] (defScope s_Shelf_copies) := ⟨rfl, rfl, rfl, by decide +kernel, rfl, by decide +kernel, by decide +kernel⟩
abbrev s_Shelf_places : Stmt := inClass (top 23) 4
abbrev N_Shelf_places : List Str := ["self"]
theorem sc_Shelf_places : FnScope N_Shelf_places ["self"] (defScope s_Shelf_places) := ⟨rfl, rfl, rfl, by decide +kernel, rfl, by decide +kernel, by decide +kernel⟩
abbrev s_Shelf_more : Stmt := inClass (top 23) 5
abbrev N_Shelf_more : List Str := ["self", "places", "every", "names", "place"]
theorem sc_Shelf_more : FnScope N_Shelf_more ["self", "places"] (defScope s_Shelf_more) := ⟨rfl, rfl, rfl, by decide +kernel, rfl, by decide +kernel, by decide +kernel⟩
abbrev s_Shelf_without : Stmt := inClass (top 23) 6
abbrev N_Shelf_without : List Str := ["self", "copies"]
theorem sc_Shelf_without : FnScope N_Shelf_without ["self", "copies"] (defScope s_Shelf_without) := ⟨rfl, rfl, rfl, by decide +kernel, rfl, by decide +kernel, by decide +kernel⟩
abbrev s_is_place_of : Stmt := top 24
abbrev N_is_place_of : List Str := ["shelf", "value", "one"]
theorem sc_is_place_of : FnScope N_is_place_of ["shelf", "value"] (defScope s_is_place_of) := ⟨rfl, rfl, rfl, by decide +kernel, rfl, by decide +kernel, by decide +kernel⟩
abbrev s_shelf_of : Stmt := top 25
abbrev N_shelf_of : List Str := ["copies", "places", "lines", "name", "readings", "copy", "reading"]
theorem sc_shelf_of : FnScope N_shelf_of ["copies", "places"] (defScope s_shelf_of) := ⟨rfl, rfl, rfl, by decide +kernel, rfl, by decide +kernel, by decide +kernel⟩
abbrev s_check_shelf : Stmt := top 26
abbrev N_check_shelf : List Str := ["shelf"]
theorem sc_check_shelf : FnScope N_check_shelf ["shelf"] (defScope s_check_shelf) := ⟨rfl, rfl, rfl, by decide +kernel, rfl, by decide +kernel, by decide +kernel⟩
abbrev s_in_sequence : Stmt := top 27
abbrev N_in_sequence : List Str := ["copies", "some", "copy"]
theorem sc_in_sequence : FnScope N_in_sequence ["copies", "some"] (defScope s_in_sequence) := ⟨rfl, rfl, rfl, by decide +kernel, rfl, by decide +kernel, by decide +kernel⟩
abbrev s_is_lot_of : Stmt := top 28
abbrev N_is_lot_of : List Str := ["copies", "value", "copy"]
theorem sc_is_lot_of : FnScope N_is_lot_of ["copies", "value"] (defScope s_is_lot_of) := ⟨rfl, rfl, rfl, by decide +kernel, rfl, by decide +kernel, by decide +kernel⟩
abbrev s_do_clash : Stmt := top 30
abbrev N_do_clash : List Str := ["one", "other", "both", "copy"]
theorem sc_do_clash : FnScope N_do_clash ["one", "other"] (defScope s_do_clash) := ⟨rfl, rfl, rfl, by decide +kernel, rfl, by decide +kernel, by decide +kernel⟩
abbrev s_by_size : Stmt := top 31
abbrev N_by_size : List Str := ["copies", "lots", "found", "lot"]
theorem sc_by_size : FnScope N_by_size ["copies", "lots"] (defScope s_by_size) := ⟨rfl, rfl, rfl, by decide +kernel, rfl, by decide +kernel, by decide +kernel⟩
abbrev s_stemma_of : Stmt := top 32
abbrev N_stemma_of : List Str := ["copies", "lots", "some", "lot"]
theorem sc_stemma_of : FnScope N_stemma_of ["copies", "lots"] (defScope s_stemma_of) := ⟨rfl, rfl, rfl, by decide +kernel, rfl, by decide +kernel, by decide +kernel⟩
abbrev s_are_lots : Stmt := top 33
abbrev N_are_lots : List Str := ["copies", "value", "at", "one", "lot", "other"]
theorem sc_are_lots : FnScope N_are_lots ["copies", "value"] (defScope s_are_lots) := ⟨rfl, rfl, rfl, by decide +kernel, rfl, by decide +kernel, by decide +kernel⟩
abbrev s_is_stemma_of : Stmt := top 34
abbrev N_is_stemma_of : List Str := ["copies", "value"]
theorem sc_is_stemma_of : FnScope N_is_stemma_of ["copies", "value"] (defScope s_is_stemma_of) := ⟨rfl, rfl, rfl, by decide +kernel, rfl, by decide +kernel, by decide +kernel⟩
abbrev s_check_stemma : Stmt := top 35
abbrev N_check_stemma : List Str := ["shelf", "stemma"]
theorem sc_check_stemma : FnScope N_check_stemma ["shelf", "stemma"] (defScope s_check_stemma) := ⟨rfl, rfl, rfl, by decide +kernel, rfl, by decide +kernel, by decide +kernel⟩
abbrev s_is_within : Stmt := top 36
abbrev N_is_within : List Str := ["lot", "other", "copy"]
theorem sc_is_within : FnScope N_is_within ["lot", "other"] (defScope s_is_within) := ⟨rfl, rfl, rfl, by decide +kernel, rfl, by decide +kernel, by decide +kernel⟩
abbrev s_parts_of : Stmt := top 37
abbrev N_parts_of : List Str := ["copies", "stemma", "lot", "inner", "tops", "rest", "other", "one", "copy", "top"]
theorem sc_parts_of : FnScope N_parts_of ["copies", "stemma", "lot"] (defScope s_parts_of) := ⟨rfl, rfl, rfl, by decide +kernel, rfl, by decide +kernel, by decide +kernel⟩
abbrev s_cut_down : Stmt := top 38
abbrev N_cut_down : List Str := ["copies", "stemma", "some", "lots", "lot"]
theorem sc_cut_down : FnScope N_cut_down ["copies", "stemma", "some"] (defScope s_cut_down) := ⟨rfl, rfl, rfl, by decide +kernel, rfl, by decide +kernel, by decide +kernel⟩
abbrev s_are_stemmata_of : Stmt := top 41
abbrev N_are_stemmata_of : List Str := ["shelf", "value", "stemma"]
theorem sc_are_stemmata_of : FnScope N_are_stemmata_of ["shelf", "value"] (defScope s_are_stemmata_of) := ⟨rfl, rfl, rfl, by decide +kernel, rfl, by decide +kernel, by decide +kernel⟩
abbrev s_check_stemmata : Stmt := top 42
abbrev N_check_stemmata : List Str := ["shelf", "stemmata"]
theorem sc_check_stemmata : FnScope N_check_stemmata ["shelf", "stemmata"] (defScope s_check_stemmata) := ⟨rfl, rfl, rfl, by decide +kernel, rfl, by decide +kernel, by decide +kernel⟩
abbrev s_check_two : Stmt := top 43
abbrev N_check_two : List Str := ["shelf", "one", "other"]
theorem sc_check_two : FnScope N_check_two ["shelf", "one", "other"] (defScope s_check_two) := ⟨rfl, rfl, rfl, by decide +kernel, rfl, by decide +kernel, by decide +kernel⟩
abbrev s_lots_in : Stmt := top 44
abbrev N_lots_in : List Str := ["shelf", "stemmata", "every", "stemma"]
theorem sc_lots_in : FnScope N_lots_in ["shelf", "stemmata"] (defScope s_lots_in) := ⟨rfl, rfl, rfl, by decide +kernel, rfl, by decide +kernel, by decide +kernel⟩
abbrev s_many_of : Stmt := top 45
abbrev N_many_of : List Str := ["stemmata", "lot", "stemma"]
theorem sc_many_of : FnScope N_many_of ["stemmata", "lot"] (defScope s_many_of) := ⟨rfl, rfl, rfl, by decide +kernel, rfl, by decide +kernel, by decide +kernel⟩
abbrev s_more_than : Stmt := top 46
abbrev N_more_than : List Str := ["shelf", "stemmata", "part", "lot"]
theorem sc_more_than : FnScope N_more_than ["shelf", "stemmata", "part"] (defScope s_more_than) := ⟨rfl, rfl, rfl, by decide +kernel, rfl, by decide +kernel, by decide +kernel⟩
abbrev s_strict : Stmt := top 47
abbrev N_strict : List Str := ["shelf", "stemmata"]
theorem sc_strict : FnScope N_strict ["shelf", "stemmata"] (defScope s_strict) := ⟨rfl, rfl, rfl, by decide +kernel, rfl, by decide +kernel, by decide +kernel⟩
abbrev s_majority : Stmt := top 48
abbrev N_majority : List Str := ["shelf", "stemmata"]
theorem sc_majority : FnScope N_majority ["shelf", "stemmata"] (defScope s_majority) := ⟨rfl, rfl, rfl, by decide +kernel, rfl, by decide +kernel, by decide +kernel⟩
abbrev s_mild : Stmt := top 49
abbrev N_mild : List Str := ["shelf", "stemmata", "every", "lot", "other"]
theorem sc_mild : FnScope N_mild ["shelf", "stemmata"] (defScope s_mild) := ⟨rfl, rfl, rfl, by decide +kernel, rfl, by decide +kernel, by decide +kernel⟩
abbrev s_far_of : Stmt := top 50
abbrev N_far_of : List Str := ["one", "other", "lot"]
theorem sc_far_of : FnScope N_far_of ["one", "other"] (defScope s_far_of) := ⟨rfl, rfl, rfl, by decide +kernel, rfl, by decide +kernel, by decide +kernel⟩
abbrev s_far : Stmt := top 51
abbrev N_far : List Str := ["shelf", "one", "other"]
theorem sc_far : FnScope N_far ["shelf", "one", "other"] (defScope s_far) := ⟨rfl, rfl, rfl, by decide +kernel, rfl, by decide +kernel, by decide +kernel⟩
abbrev s_least_sum : Stmt := top 52
abbrev N_least_sum : List Str := ["shelf", "stemmata", "some", "lot", "many"]
theorem sc_least_sum : FnScope N_least_sum ["shelf", "stemmata"] (defScope s_least_sum) := ⟨rfl, rfl, rfl, by decide +kernel, rfl, by decide +kernel, by decide +kernel⟩
abbrev s_nearest : Stmt := top 53
abbrev N_nearest : List Str := ["shelf", "stemmata"]
theorem sc_nearest : FnScope N_nearest ["shelf", "stemmata"] (defScope s_nearest) := ⟨rfl, rfl, rfl, by decide +kernel, rfl, by decide +kernel, by decide +kernel⟩
abbrev s_parted_by_all : Stmt := top 54
abbrev N_parted_by_all : List Str := ["copies", "stemmata", "names", "stemma", "number", "part", "copy", "found"]
theorem sc_parted_by_all : FnScope N_parted_by_all ["copies", "stemmata"] (defScope s_parted_by_all) := ⟨rfl, rfl, rfl, by decide +kernel, rfl, by decide +kernel, by decide +kernel⟩
abbrev s_common_lots : Stmt := top 55
abbrev N_common_lots : List Str := ["copies", "stemmata", "found", "lot", "stemma"]
theorem sc_common_lots : FnScope N_common_lots ["copies", "stemmata"] (defScope s_common_lots) := ⟨rfl, rfl, rfl, by decide +kernel, rfl, by decide +kernel, by decide +kernel⟩
abbrev s_common_56 : Stmt := top 56
abbrev N_common_56 : List Str := ["shelf", "stemmata"]
theorem sc_common_56 : FnScope N_common_56 ["shelf", "stemmata"] (defScope s_common_56) := ⟨rfl, rfl, rfl, by decide +kernel, rfl, by decide +kernel, by decide +kernel⟩
abbrev s_all_sayings : Stmt := top 59
abbrev N_all_sayings : List Str := ["copies", "found", "at", "one", "other", "third"]
theorem sc_all_sayings : FnScope N_all_sayings ["copies"] (defScope s_all_sayings) := ⟨rfl, rfl, rfl, by decide +kernel, rfl, by decide +kernel, by decide +kernel⟩
abbrev s_does_show : Stmt := top 60
abbrev N_does_show : List Str := ["stemma", "saying", "one", "other", "third", "lot"]
theorem sc_does_show : FnScope N_does_show ["stemma", "saying"] (defScope s_does_show) := ⟨rfl, rfl, rfl, by decide +kernel, rfl, by decide +kernel, by decide +kernel⟩
abbrev s_shown_by : Stmt := top 61
abbrev N_shown_by : List Str := ["copies", "stemma", "saying"]
theorem sc_shown_by : FnScope N_shown_by ["copies", "stemma"] (defScope s_shown_by) := ⟨rfl, rfl, rfl, by decide +kernel, rfl, by decide +kernel, by decide +kernel⟩
abbrev s_shown : Stmt := top 62
abbrev N_shown : List Str := ["shelf", "stemma"]
theorem sc_shown : FnScope N_shown ["shelf", "stemma"] (defScope s_shown) := ⟨rfl, rfl, rfl, by decide +kernel, rfl, by decide +kernel, by decide +kernel⟩
abbrev s_check_both : Stmt := top 66
abbrev N_check_both : List Str := ["shelf", "stemma", "other"]
theorem sc_check_both : FnScope N_check_both ["shelf", "stemma", "other"] (defScope s_check_both) := ⟨rfl, rfl, rfl, by decide +kernel, rfl, by decide +kernel, by decide +kernel⟩
abbrev s_both : Stmt := top 67
abbrev N_both : List Str := ["shelf", "stemma", "other", "lot", "against", "its"]
theorem sc_both : FnScope N_both ["shelf", "stemma", "other"] (defScope s_both) := ⟨rfl, rfl, rfl, by decide +kernel, rfl, by decide +kernel, by decide +kernel⟩
abbrev s_common_68 : Stmt := top 68
abbrev N_common_68 : List Str := ["shelf", "stemma", "other", "lot"]
theorem sc_common_68 : FnScope N_common_68 ["shelf", "stemma", "other"] (defScope s_common_68) := ⟨rfl, rfl, rfl, by decide +kernel, rfl, by decide +kernel, by decide +kernel⟩
abbrev s_law_pot : Stmt := top 71
abbrev N_law_pot : List Str := ["script", "place", "cell", "own", "small"]
theorem sc_law_pot : FnScope N_law_pot ["script", "place"] (defScope s_law_pot) := ⟨rfl, rfl, rfl, by decide +kernel, rfl, by decide +kernel, by decide +kernel⟩
abbrev s_law_take : Stmt := top 72
abbrev N_law_take : List Str := ["pot", "upto", "digit", "prime", "mixed"]
theorem sc_law_take : FnScope N_law_take ["pot", "upto"] (defScope s_law_take) := ⟨rfl, rfl, rfl, by decide +kernel, rfl, by decide +kernel, by decide +kernel⟩
abbrev s_law_of : Stmt := top 73
abbrev N_law_of : List Str := ["pot", "some"]
theorem sc_law_of : FnScope N_law_of ["pot", "some"] (defScope s_law_of) := ⟨rfl, rfl, rfl, by decide +kernel, rfl, by decide +kernel, by decide +kernel⟩
abbrev s_law_cells : Stmt := top 74
abbrev N_law_cells : List Str := ["script", "upto"]
theorem sc_law_cells : FnScope N_law_cells ["script", "upto"] (defScope s_law_cells) := ⟨rfl, rfl, rfl, by decide +kernel, rfl, by decide +kernel, by decide +kernel⟩
abbrev s_law_some : Stmt := top 75
abbrev N_law_some : List Str := ["pot", "some", "many", "left", "found", "lap"]
theorem sc_law_some : FnScope N_law_some ["pot", "some", "many"] (defScope s_law_some) := ⟨rfl, rfl, rfl, by decide +kernel, rfl, by decide +kernel, by decide +kernel⟩
abbrev s_law_names : Stmt := top 76
abbrev N_law_names : List Str := ["pot", "many", "pool", "found", "signs", "word", "lap"]
theorem sc_law_names : FnScope N_law_names ["pot", "many"] (defScope s_law_names) := ⟨rfl, rfl, rfl, by decide +kernel, rfl, by decide +kernel, by decide +kernel⟩
abbrev s_law_text : Stmt := top 77
abbrev N_law_text : List Str := ["copies", "places", "lines", "name", "readings", "copy", "reading"]
theorem sc_law_text : FnScope N_law_text ["copies", "places"] (defScope s_law_text) := ⟨rfl, rfl, rfl, by decide +kernel, rfl, by decide +kernel, by decide +kernel⟩
abbrev s_law_told : Stmt := top 78
abbrev N_law_told : List Str := ["copies", "lots", "spots", "lines", "lot", "at", "copy", "size", "line"]
theorem sc_law_told : FnScope N_law_told ["copies", "lots"] (defScope s_law_told) := ⟨rfl, rfl, rfl, by decide +kernel, rfl, by decide +kernel, by decide +kernel⟩
abbrev s_law_grown : Stmt := top 79
abbrev N_law_grown : List Str := ["pot", "copies", "wide", "found", "waiting", "lap", "lot", "many", "sides", "copy", "part"]
theorem sc_law_grown : FnScope N_law_grown ["pot", "copies", "wide"] (defScope s_law_grown) := ⟨rfl, rfl, rfl, by decide +kernel, rfl, by decide +kernel, by decide +kernel⟩
abbrev s_law_stemmata : Stmt := top 80
abbrev N_law_stemmata : List Str := ["pot", "copies", "many", "pool", "found", "at", "lots", "lap", "lot"]
theorem sc_law_stemmata : FnScope N_law_stemmata ["pot", "copies", "many"] (defScope s_law_stemmata) := ⟨rfl, rfl, rfl, by decide +kernel, rfl, by decide +kernel, by decide +kernel⟩
abbrev s_law_are_again_right : Stmt := top 81
abbrev N_law_are_again_right : List Str := ["shelf", "some", "told", "word", "joined", "stemma", "lot"]
theorem sc_law_are_again_right : FnScope N_law_are_again_right ["shelf", "some"] (defScope s_law_are_again_right) := ⟨rfl, rfl, rfl, by decide +kernel, rfl, by decide +kernel, by decide +kernel⟩
abbrev s_law_is_strict_right : Stmt := top 82
abbrev N_law_is_strict_right : List Str := ["shelf", "some", "low", "stemma", "mine", "saying"]
theorem sc_law_is_strict_right : FnScope N_law_is_strict_right ["shelf", "some", "low"] (defScope s_law_is_strict_right) := ⟨rfl, rfl, rfl, by decide +kernel, rfl, by decide +kernel, by decide +kernel⟩
abbrev s_law_are_sums_right : Stmt := top 83
abbrev N_law_are_sums_right : List Str := ["shelf", "some", "least", "one", "other"]
theorem sc_law_are_sums_right : FnScope N_law_are_sums_right ["shelf", "some"] (defScope s_law_are_sums_right) := ⟨rfl, rfl, rfl, by decide +kernel, rfl, by decide +kernel, by decide +kernel⟩
abbrev s_law_right : Stmt := top 84
abbrev N_law_right : List Str := ["pot", "copies", "shelf", "some", "low", "lot", "stemma"]
theorem sc_law_right : FnScope N_law_right ["pot"] (defScope s_law_right) := ⟨rfl, rfl, rfl, by decide +kernel, rfl, by decide +kernel, by decide +kernel⟩
abbrev s_law : Stmt := top 85
abbrev N_law : List Str := ["script", "place"]
theorem sc_law : FnScope N_law ["script"] (defScope s_law) := ⟨rfl, rfl, rfl, by decide +kernel, rfl, by decide +kernel, by decide +kernel⟩
/-- the built-ins that the text calls stand free -/
structure Bl (mg : Str → Option Value) : Prop where
  len : mg "len" = none
  tuple : mg "tuple" = none
  list : mg "list" = none
  dict : mg "dict" = none
  set : mg "set" = none
  all : mg "all" = none
  any : mg "any" = none
  sum : mg "sum" = none
  min : mg "min" = none
  max : mg "max" = none
  abs : mg "abs" = none
  int : mg "int" = none
  str : mg "str" = none
  bool : mg "bool" = none
  sorted : mg "sorted" = none
  enumerate : mg "enumerate" = none
  range : mg "range" = none
  isinstance : mg "isinstance" = none
end Pg
set_option maxHeartbeats 4000000
namespace Pg
open PySem PySem.Spec PyProof.Rows L2 Cf
section
variable {P : Program} {w : World} {K : PySem.W.Frag} {mg : Str → Option Value} {base : Heap} {T : Tb}
/-- some, in the sequence -/
def inSeq {α : Type} [DecidableEq α] (copies some : List α) : List α := copies.filter fun c => memb c some
abbrev spInSeq (T : Tb) (K : PySem.W.Frag) : Sp := spF T (fun z : List Nm × List Nm => [seqR K z.1, seqR K z.2]) (fun z => z.1.length ≤ 1000) fun z _ => (is K (inSeq z.1 z.2)).p
theorem ok_in_sequence (F : Fdef K mg "in_sequence" s_in_sequence) (G : Bl mg) : Cal P w K mg base 1 "in_sequence" (spInSeq T K) := by
  refine cal_of F sc_in_sequence (fun _ => rfl) (fun _ _ _ _ _ _ us hl => match us, hl with | [_, _], _ => rfl) (fun z f cdv A outer s H E hz hr => ?_)
  refine ss_one (s_ret (e_tupleOf (e_newS (n_lcF (gt := is K) 2 [("copy", 2)] (fun c => memb c z.2) id (w_par 0 rfl) sc_in_sequence.nd (blkOk_by (N := N_in_sequence) (sc := defScope s_in_sequence) (by decide +kernel)) (by omega)
    (fun _ _ _ _ _ => pg_name (i := 2) sc_in_sequence.nd rfl (Or.inl rfl)) (fun _ _ _ _ _ a ha => by exact b_cm (c_in hr (by decide) (e_var 2 rfl) (e_par 1 rfl))) (fun _ _ _ _ _ a ha _ => by exact e_var 2 rfl))) G.tuple) (fun v H _ p => ?_))
  rw [List.map_id] at p
  exact p
end
end Pg
set_option maxHeartbeats 4000000
namespace Pg
open PySem PySem.Spec PyProof.Rows L2 Cf NdefX PySem.W
section
variable {P : Program} {w : World} {K : PySem.W.Frag} {mg : Str → Option Value} {base : Heap} {T : Tb}
abbrev Lot := List Nm
/-- what lots are sorted by -/
def keySz (copies : List Nm) (lot : Lot) : PyData := .tuple [.int (0 - (lot.length : Int)), .list (encs (lot.map fun c => ((ixOf c copies : Nat) : Int)))]
def bySize (copies : List Nm) (lots : List Lot) : List Lot := (uniq lots).mergeSort (dataLe false (keySz copies))
theorem keySz_alike (copies : List Nm) (xs : List Lot) : AllAlike (xs.map (keySz copies)) := AllAlike.of fun a b => by
  unfold keySz
  have h := alike_ints (a.map fun c => ((ixOf c copies : Nat) : Int)) (b.map fun c => ((ixOf c copies : Nat) : Int))
  show alike (.tuple [.int _, .list ((a.map fun c => ((ixOf c copies : Nat) : Int)).map PyData.int)]) (.tuple [.int _, .list ((b.map fun c => ((ixOf c copies : Nat) : Int)).map PyData.int)]) = true
  rw [alike, alikeAll, alikeAll, alike, alike, alikeAll, h]
  rfl
theorem keySz_depth (copies : List Nm) (a : Lot) : (keySz copies a).depth ≤ 100 := by
  unfold keySz
  have h := depth_ints (a.map fun c => ((ixOf c copies : Nat) : Int))
  show (PyData.tuple [.int _, .list ((a.map fun c => ((ixOf c copies : Nat) : Int)).map PyData.int)]).depth ≤ 100
  show max 0 (max (PyData.depthAll _ + 1) 0) + 1 ≤ 100
  rw [h]
  decide
theorem mem_putU {α : Type} [DecidableEq α] {x y : α} {l : List α} : y ∈ putU l x ↔ y ∈ l ∨ y = x := by
  unfold putU
  split
  · rename_i h
    exact ⟨.inl, fun z => z.elim id fun e => e ▸ memb_iff.mp h⟩
  · rw [List.mem_append, List.mem_singleton]
theorem mem_uniqA {α : Type} [DecidableEq α] {y : α} : ∀ {xs l : List α}, y ∈ xs.foldl putU l ↔ y ∈ l ∨ y ∈ xs
  | [], l => by simp
  | x :: xs, l => by
    rw [List.foldl_cons, mem_uniqA, mem_putU, List.mem_cons, or_assoc]
theorem mem_uniq {α : Type} [DecidableEq α] {y : α} {xs : List α} : y ∈ uniq xs ↔ y ∈ xs := by
  unfold uniq
  rw [mem_uniqA]
  simp
theorem len_uniqA {α : Type} [DecidableEq α] : ∀ (xs l : List α), (xs.foldl putU l).length ≤ l.length + xs.length
  | [], l => by simp
  | x :: xs, l => by
    rw [List.foldl_cons]
    have h := len_uniqA xs (putU l x)
    have h2 : (putU l x).length ≤ l.length + 1 := by
      unfold putU
      split <;> simp
    simp only [List.length_cons]
    omega
theorem len_uniq {α : Type} [DecidableEq α] (xs : List α) : (uniq xs).length ≤ xs.length := by
  have := len_uniqA xs []
  simpa [uniq] using this
abbrev spBySize (T : Tb) (K : PySem.W.Frag) : Sp := spF T (fun z : List Nm × List Lot => [(isX K z.1).r, seqR K z.2]) (fun z => z.2.length ≤ 1000 ∧ ∀ lot ∈ z.2, lot.length ≤ 1000 ∧ ∀ c ∈ lot, c ∈ z.1) fun z _ => (is K (bySize z.1 z.2)).p
theorem room40 {j : Nat} {A : Around} (h : Room j A) : A.units + 40 < cLine := by have := h.un; omega
abbrev lamOfRet : Stmt → Expr
  | .Return (some (.Call _ [.Call _ _ [⟨_, l, _⟩] _] _ _)) _ => l
  | _ => .Constant .none 0 ⟨0, 0, 0, 0⟩
abbrev lamScope : Expr → Scope
  | .Lambda _ _ sc _ => sc
  | _ => default
theorem lsc_by_size : NScope ["lot", "copies", "copy"] ["lot"] ["copies"] (lamScope (lamOfRet ((defBody s_by_size).getD 1 (.Pass ⟨0, 0, 0, 0⟩)))) := nscope_by (by decide +kernel)
theorem ok_by_size (F : FdefL K mg base T "by_size" s_by_size) (G : Bl mg) : Cal P w K mg base 6 "by_size" (spBySize T K) := by
  refine cal_ofL F sc_by_size (fun _ => rfl) (fun _ _ _ _ _ _ us hl => match us, hl with | [_, _], _ => rfl) (fun z f cdv A outer s H E hz hr M => ?_)
  refine ss_cons (ρ1 := [.r (isX K z.1).r, .r (seqR K z.2), .t (keysT K (uniq z.2)), .u]) (s_set (P := keysT K (uniq z.2)) 2 sc_by_size.nd ?_ fun _ _ _ en => en) ?_
  · refine e_cast (f := fun xs => (keysT K (uniq xs)).p) (e_dictN (ps := z.2.map fun lot => (lot, true))
      (e_newX (n_lcM (gt := is K) 3 [("lot", 3)] (fun lot => (lot, true)) (w_par 1 rfl) sc_by_size.nd (blkOk_by (N := N_by_size) (sc := defScope s_by_size) (by decide +kernel)) (by omega)
        (fun _ _ _ _ _ => pg_name (i := 3) sc_by_size.nd rfl (Or.inl rfl)) (fun _ _ _ _ _ a ha => by exact e_tup2 (e_var 3 rfl) e_bl)))
      G.dict (by simp; omega) (by decide) (room40 hr)) ?_
    rw [List.map_map, show ((fun x : Lot × Bool => x.1) ∘ fun lot => (lot, true)) = id from rfl, List.map_id]
  · refine ss_one (s_ret (e_tupleOf (e_newS (n_sortD (k := 1) (j := 5) (N := ["lot", "copies", "copy"]) (p := "lot") (fr := ["copies"]) (js := [0]) (xs := uniq z.2) (key := keySz z.1) (e_var 2 rfl) G.sorted rfl (Nat.le_trans (len_uniq _) (by omega)) M
      ⟨lsc_by_size, ndef_free (sc := defScope s_by_size) (fr := ["copies"]) (by decide +kernel), ndef_fr (sc := defScope s_by_size) (by decide +kernel), rfl⟩ hr (by omega) (keySz_alike _ _) (Sortable.tuples fun b => ⟨_, _, rfl⟩) (fun a _ => keySz_depth _ a) rfl (fun q cl pm cv ctv u => rfl) ?_)) G.tuple) (fun v H _ p => p))
    intro A2 outer2 s2 H2 f2 c2 a ha hr2
    have hz2 := hz.2 a (mem_uniq.mp ha)
    refine e_tupX (Ps := [(is K (0 - (a.length : Int))).r, lstR K (a.map fun c => ((ixOf c z.1 : Nat) : Int))]) (as_cons ?_ (as_cons ?_ as_nil)) (by simp) (fun vs H p => ?_)
    · exact e_sub e_int (e_len (e_seq (e_var 0 rfl)) G.len)
    · refine e_newL (n_lcM (gt := is K) 2 [("copy", 2)] (fun c => ((ixOf c z.1 : Nat) : Int)) (w_tup (e_var 0 rfl)) lsc_by_size.nd (blkOk_by (N := ["lot", "copies", "copy"]) (sc := lamScope (lamOfRet ((defBody s_by_size).getD 1 (.Pass ⟨0, 0, 0, 0⟩)))) (by decide +kernel)) (by omega)
        (fun _ _ _ _ _ => pg_name (i := 2) lsc_by_size.nd rfl (Or.inl rfl)) (fun _ _ _ _ _ c hc => by exact e_index (e_par (P := (isX K z.1).r) 1 rfl) (e_var 2 rfl) (hz2.2 c hc)))
    · obtain ⟨v, w, rfl, h1, l, ws, rfl, h2, h3⟩ := allP2 p
      exact .cons h1 (.cons (.lst h2 h3) .nil)
end
end Pg
set_option maxHeartbeats 4000000
namespace Pg
open PySem PySem.Spec PyProof.Rows L2 Cf NdefX PySem.W
section
variable {P : Program} {w : World} {K : PySem.W.Frag} {mg : Str → Option Value} {base : Heap} {T : Tb}
/-! ### is_lot_of -/
abbrev spIsLot (T : Tb) (K : PySem.W.Frag) : Sp := spF T (fun z : List Nm × Lot => [(isX K z.1).r, (is K z.2).r]) (fun z => z.1.length ≤ 1000 ∧ z.2.length ≤ 1000) fun z _ => (is K (eqb z.2 (inSeq z.1 z.2))).p
theorem ok_is_lot_of (F : Fdef K mg "is_lot_of" s_is_lot_of) (G : Bl mg) (c1 : Cal P w K mg base 1 "in_sequence" (spInSeq T K)) : Cal P w K mg base 2 "is_lot_of" (spIsLot T K) := by
  refine cal_of F sc_is_lot_of (fun _ => rfl) (fun _ _ _ _ _ _ us hl => match us, hl with | [_, _], _ => rfl) (fun z f cdv A outer s H E hz hr => ?_)
  refine ss_cons (ρ1 := ent 1 [(isX K z.1).r, (is K z.2).r]) (s_if (k := false) (b_eq (b_w (bw_or (k := false) (l := false) (b_eq (b_not (b_val (e_isi (P := (is K z.2).r) (k := true) (t := "tuple") (ty := "tuple") (e_par 1 rfl) (fun v H h => ty_tup h) rfl G.isinstance G.tuple rfl))) rfl)
    fun _ => bw_or1 (b_eq (b_not (b_val (e_all (bs := z.2.map fun _ => true) (e_newL (n_lcM (gt := is K) 2 [("copy", 2)] (fun _ => true) (w_tup (e_par (P := (is K z.2).r) 1 rfl)) sc_is_lot_of.nd (blkOk_by (N := N_is_lot_of) (sc := defScope s_is_lot_of) (by decide +kernel)) (by omega)
      (fun _ _ _ _ _ => pg_name (i := 2) sc_is_lot_of.nd rfl (Or.inl rfl)) (fun _ _ _ _ _ a ha => by exact e_isi (P := (is K a).r) (k := true) (t := "str") (ty := "str") (e_var 2 rfl) (fun v H h => ty_nm h) rfl G.isinstance G.str rfl))) G.all))) (by simp)))) rfl)
    (fun h => by cases h) fun _ => ss_nil fun _ _ _ en => en) ?_
  refine ss_one (s_ret (e_cm (c_eq hr (by decide) (e_par (P := (is K z.2).r) 1 rfl) (e_call c1 hr (by omega) z hz.1 (as_cons (e_imp (e_par (P := (isX K z.1).r) 0 rfl) fun _ _ _ p => seq_of_is (is_of_X p)) (as_cons (e_seq (e_par (P := (is K z.2).r) 1 rfl)) as_nil)) fun _ _ _ _ _ p => p))) (fun v H _ p => p))
end
end Pg
set_option maxHeartbeats 4000000
namespace Pg
open PySem PySem.Spec PyProof.Rows L2 Cf NdefX PySem.W
section
variable {P : Program} {w : World} {K : PySem.W.Frag} {mg : Str → Option Value} {base : Heap} {T : Tb}
/-! ### do_clash -/
def clash (one other : Lot) : Bool := decide ((0 : Int) < (((one.filter fun c => memb c other).length : Nat) : Int)) && decide ((((one.filter fun c => memb c other).length : Nat) : Int) < min ((one.length : Nat) : Int) ((other.length : Nat) : Int))
abbrev spClash (T : Tb) (K : PySem.W.Frag) : Sp := spF T (fun z : Lot × Lot => [(is K z.1).r, (is K z.2).r]) (fun z => z.1.length ≤ 1000 ∧ z.2.length ≤ 1000) fun z _ => (is K (clash z.1 z.2)).p
theorem ok_do_clash (F : Fdef K mg "do_clash" s_do_clash) (G : Bl mg) : Cal P w K mg base 1 "do_clash" (spClash T K) := by
  refine cal_of F sc_do_clash (fun _ => rfl) (fun _ _ _ _ _ _ us hl => match us, hl with | [_, _], _ => rfl) (fun z f cdv A outer s H E hz hr => ?_)
  refine ss_cons (ρ1 := [.r (is K z.1).r, .r (is K z.2).r, .t (is K (((z.1.filter fun c => memb c z.2).length : Nat) : Int)), .u]) (s_set (P := is K (((z.1.filter fun c => memb c z.2).length : Nat) : Int)) 2 sc_do_clash.nd ?_ fun _ _ _ en => en) ?_
  · refine e_cast (f := fun xs : List Nm => (is K ((xs.length : Nat) : Int)).p) (e_len (e_newS (n_lcF (gt := is K) 3 [("copy", 3)] (fun c => memb c z.2) id (w_tup (e_par (P := (is K z.1).r) 0 rfl)) sc_do_clash.nd (blkOk_by (N := N_do_clash) (sc := defScope s_do_clash) (by decide +kernel)) (by omega)
      (fun _ _ _ _ _ => pg_name (i := 3) sc_do_clash.nd rfl (Or.inl rfl)) (fun _ _ _ _ _ a ha => by exact b_cm (c_in hr (by decide) (e_var 3 rfl) (e_seq (e_par (P := (is K z.2).r) 1 rfl)))) (fun _ _ _ _ _ a ha _ => by exact e_var 3 rfl))) G.len) (List.map_id _)
  · exact ss_one (s_ret (e_cm (c_chain (f := fun i j => decide (i < j)) (f' := fun i j => decide (i < j)) op_lt op_lt e_int (e_var 2 rfl) (e_min2 (e_len (e_seq (e_par (P := (is K z.1).r) 0 rfl)) G.len) (e_len (e_seq (e_par (P := (is K z.2).r) 1 rfl)) G.len) G.min))) (fun v H _ p => p))
/-! ### stemma_of -/
def big (lots : List Lot) : List Lot := lots.filter fun lot => decide ((1 : Int) < ((lot.length : Nat) : Int))
def stemmaOf (copies : List Nm) (lots : List Lot) : List Lot := bySize copies (if decide ((1 : Int) < ((copies.length : Nat) : Int)) = true then big lots ++ [copies] else big lots)
/-- lots of these copies -/
def LotsOk (copies : List Nm) (lots : List Lot) : Prop := ∀ lot ∈ lots, lot.length ≤ 1000 ∧ ∀ c ∈ lot, c ∈ copies
theorem lots_sub {copies : List Nm} {lots : List Lot} (h : LotsOk copies lots) {some : List Lot} (hs : ∀ lot ∈ some, lot ∈ lots) : LotsOk copies some := fun lot hl => h lot (hs lot hl)
abbrev spStemmaOf (T : Tb) (K : PySem.W.Frag) : Sp := spF T (fun z : List Nm × List Lot => [(isX K z.1).r, seqR K z.2]) (fun z => z.1.length ≤ 1000 ∧ z.2.length ≤ 900 ∧ LotsOk z.1 z.2) fun z _ => (is K (stemmaOf z.1 z.2)).p
theorem ok_stemma_of (F : Fdef K mg "stemma_of" s_stemma_of) (G : Bl mg) (c1 : Cal P w K mg base 6 "by_size" (spBySize T K)) : Cal P w K mg base 7 "stemma_of" (spStemmaOf T K) := by
  refine cal_of F sc_stemma_of (fun _ => rfl) (fun _ _ _ _ _ _ us hl => match us, hl with | [_, _], _ => rfl) (fun z f cdv A outer s H E hz hr => ?_)
  have hbig : (big z.2).length ≤ 900 := Nat.le_trans (List.length_filter_le _ _) hz.2.1
  refine ss_cons (ρ1 := [.r (isX K z.1).r, .r (seqR K z.2), .o (lstO K (big z.2)), .u]) (s_lcF (gt := is K) 2 3 [("lot", 3)] (fun lot : Lot => decide ((1 : Int) < ((lot.length : Nat) : Int))) id (w_par 1 rfl) sc_stemma_of.nd (blkOk_by (N := N_stemma_of) (sc := defScope s_stemma_of) (by decide +kernel)) (by omega)
    (fun _ _ _ _ _ => pg_name (i := 3) sc_stemma_of.nd rfl (Or.inl rfl)) (fun _ _ _ _ _ a ha => by exact b_cm (c_gt (e_len (e_seq (e_var 3 rfl)) G.len) e_int)) (fun _ _ _ _ _ a ha _ => by exact e_var 3 rfl) fun _ _ _ en => by rw [List.map_id] at en; exact en) ?_
  refine ss_one (s_ret (e_call c1 hr (by omega) (z.1, if decide ((1 : Int) < ((z.1.length : Nat) : Int)) = true then big z.2 ++ [z.1] else big z.2) ⟨?_, ?_⟩ (as_cons (e_par (P := (isX K z.1).r) 0 rfl) (as_cons ?_ as_nil)) fun _ _ _ _ _ p => p) fun v H _ p => p)
  · show (if _ then _ else _ : List Lot).length ≤ 1000
    split
    · rw [List.length_append]
      simp only [List.length_cons, List.length_nil]
      omega
    · omega
  · have hb : ∀ lot ∈ big z.2, lot.length ≤ 1000 ∧ ∀ c ∈ lot, c ∈ z.1 := fun lot hl => hz.2.2 lot (List.mem_filter.mp hl).1
    intro lot hl
    have hl : lot ∈ (if decide ((1 : Int) < ((z.1.length : Nat) : Int)) = true then big z.2 ++ [z.1] else big z.2) := hl
    split at hl
    · rcases List.mem_append.mp hl with h | h
      · exact hb lot h
      · rw [List.mem_singleton.mp h]
        exact ⟨hz.1, fun c hc => hc⟩
    · exact hb lot hl
  · refine e_ifS (b_cm (c_gt (e_len (e_seq (e_ofX (e_par (P := (isX K z.1).r) 0 rfl))) G.len) e_int)) (fun h => ?_) (fun h => e_seqL (e_ownL 2 rfl))
    exact e_newS (n_cat (e_ownX 2 rfl) (e_newX (n_lst1 (e_tupleOf (e_seq (e_ofX (e_par (P := (isX K z.1).r) 0 rfl))) G.tuple))) (by simp; omega))
/-! ### is_within -/
def within (lot other : Lot) : Bool := lot.all fun c => memb c other
abbrev spWithin (T : Tb) (K : PySem.W.Frag) : Sp := spF T (fun z : Lot × Lot => [(is K z.1).r, (is K z.2).r]) (fun z => z.1.length ≤ 1000 ∧ z.2.length ≤ 1000) fun z _ => (is K (within z.1 z.2)).p
theorem all_map {α : Type} (f : α → Bool) (xs : List α) : (xs.map f).all id = xs.all f := by rw [List.all_map]; rfl
theorem any_map {α : Type} (f : α → Bool) (xs : List α) : (xs.map f).any id = xs.any f := by rw [List.any_map]; rfl
theorem ok_is_within (F : Fdef K mg "is_within" s_is_within) (G : Bl mg) : Cal P w K mg base 1 "is_within" (spWithin T K) := by
  refine cal_of F sc_is_within (fun _ => rfl) (fun _ _ _ _ _ _ us hl => match us, hl with | [_, _], _ => rfl) (fun z f cdv A outer s H E hz hr => ?_)
  refine ss_one (s_ret (e_cast (f := fun b : Bool => (is K b).p) (e_all (bs := z.1.map fun c => memb c z.2) (e_newL (n_lcM (gt := is K) 2 [("copy", 2)] (fun c => memb c z.2) (w_tup (e_par (P := (is K z.1).r) 0 rfl)) sc_is_within.nd (blkOk_by (N := N_is_within) (sc := defScope s_is_within) (by decide +kernel)) (by omega)
    (fun _ _ _ _ _ => pg_name (i := 2) sc_is_within.nd rfl (Or.inl rfl)) (fun _ _ _ _ _ a ha => by exact e_cm (c_in hr (by decide) (e_var 2 rfl) (e_seq (e_par (P := (is K z.2).r) 1 rfl)))))) G.all) (all_map _ _)) (fun v H _ p => p))
/-! ### many_of -/
def manyOf (ss : List (List Lot)) (lot : Lot) : Nat := (ss.filter fun st => memb lot st).length
abbrev spManyOf (T : Tb) (K : PySem.W.Frag) : Sp := spF T (fun z : List (List Lot) × Lot => [(is K z.1).r, (is K z.2).r]) (fun z => z.1.length ≤ 1000) fun z _ => (is K ((manyOf z.1 z.2 : Nat) : Int)).p
theorem ok_many_of (F : Fdef K mg "many_of" s_many_of) (G : Bl mg) : Cal P w K mg base 1 "many_of" (spManyOf T K) := by
  refine cal_of F sc_many_of (fun _ => rfl) (fun _ _ _ _ _ _ us hl => match us, hl with | [_, _], _ => rfl) (fun z f cdv A outer s H E hz hr => ?_)
  refine ss_one (s_ret (e_cast (f := fun xs : List (List Lot) => (is K ((xs.length : Nat) : Int)).p) (e_len (e_newS (n_lcF (gt := is K) 2 [("stemma", 2)] (fun st => memb z.2 st) id (w_tup (e_par (P := (is K z.1).r) 0 rfl)) sc_many_of.nd (blkOk_by (N := N_many_of) (sc := defScope s_many_of) (by decide +kernel)) (by omega)
    (fun _ _ _ _ _ => pg_name (i := 2) sc_many_of.nd rfl (Or.inl rfl)) (fun _ _ _ _ _ a ha => by exact b_cm (c_in hr (by decide) (e_par (P := (is K z.2).r) 1 rfl) (e_seq (e_var 2 rfl)))) (fun _ _ _ _ _ a ha _ => by exact e_var 2 rfl))) G.len) (List.map_id _)) (fun v H _ p => p))
/-! ### far_of -/
def farOf (one other : List Lot) : Nat := (one.filter fun lot => !memb lot other).length + (other.filter fun lot => !memb lot one).length
abbrev spFarOf (T : Tb) (K : PySem.W.Frag) : Sp := spF T (fun z : List Lot × List Lot => [(is K z.1).r, (is K z.2).r]) (fun z => z.1.length ≤ 1000 ∧ z.2.length ≤ 1000) fun z _ => (is K ((farOf z.1 z.2 : Nat) : Int)).p
theorem ok_far_of (F : Fdef K mg "far_of" s_far_of) (G : Bl mg) : Cal P w K mg base 1 "far_of" (spFarOf T K) := by
  refine cal_of F sc_far_of (fun _ => rfl) (fun _ _ _ _ _ _ us hl => match us, hl with | [_, _], _ => rfl) (fun z f cdv A outer s H E hz hr => ?_)
  refine ss_one (s_ret (e_cast (f := fun i : Int => (is K i).p) (e_add
    (e_cast (f := fun xs : List Lot => (is K ((xs.length : Nat) : Int)).p) (e_len (e_newS (n_lcF (gt := is K) 2 [("lot", 2)] (fun lot => !memb lot z.2) id (w_tup (e_par (P := (is K z.1).r) 0 rfl)) sc_far_of.nd (blkOk_by (N := N_far_of) (sc := defScope s_far_of) (by decide +kernel)) (by omega)
      (fun _ _ _ _ _ => pg_name (i := 2) sc_far_of.nd rfl (Or.inl rfl)) (fun _ _ _ _ _ a ha => by exact b_cm (c_ni hr (by decide) (e_var 2 rfl) (e_seq (e_par (P := (is K z.2).r) 1 rfl)))) (fun _ _ _ _ _ a ha _ => by exact e_var 2 rfl))) G.len) (List.map_id _))
    (e_cast (f := fun xs : List Lot => (is K ((xs.length : Nat) : Int)).p) (e_len (e_newS (n_lcF (gt := is K) 2 [("lot", 2)] (fun lot => !memb lot z.1) id (w_tup (e_par (P := (is K z.2).r) 1 rfl)) sc_far_of.nd (blkOk_by (N := N_far_of) (sc := defScope s_far_of) (by decide +kernel)) (by omega)
      (fun _ _ _ _ _ => pg_name (i := 2) sc_far_of.nd rfl (Or.inl rfl)) (fun _ _ _ _ _ a ha => by exact b_cm (c_ni hr (by decide) (e_var 2 rfl) (e_seq (e_par (P := (is K z.1).r) 0 rfl)))) (fun _ _ _ _ _ a ha _ => by exact e_var 2 rfl))) G.len) (List.map_id _))) (by unfold farOf; omega)) (fun v H _ p => p))
end
end Pg
set_option maxHeartbeats 4000000
namespace Pg
open PySem PySem.Spec PyProof.Rows L2 Cf NdefX PySem.W
section
variable {P : Program} {w : World} {K : PySem.W.Frag} {mg : Str → Option Value} {base : Heap} {T : Tb}
/-! ### are_lots -/
structure LotsV (copies : List Nm) (st : List Lot) : Prop where
  seq : ∀ lot ∈ st, lot = inSeq copies lot
  two : ∀ lot ∈ st, 1 < lot.length
  no : st.Pairwise fun a b => clash a b = false
  few : st.length ≤ 800
  cf : copies.length ≤ 800
theorem inSeq_len (copies some : List Nm) : (inSeq copies some).length ≤ copies.length := List.length_filter_le _ _
theorem LotsV.len {copies : List Nm} {st : List Lot} (h : LotsV copies st) {lot : Lot} (hl : lot ∈ st) : lot.length ≤ 800 := by
  rw [h.seq lot hl]
  exact Nat.le_trans (inSeq_len _ _) h.cf
theorem LotsV.ok {copies : List Nm} {st : List Lot} (h : LotsV copies st) : LotsOk copies st := fun lot hl => ⟨Nat.le_trans (h.len hl) (by decide), fun c hc => by
  rw [h.seq lot hl] at hc
  exact (List.mem_filter.mp hc).1⟩
abbrev spAreLots (T : Tb) (K : PySem.W.Frag) : Sp := spF T (fun z : List Nm × List Lot => [(isX K z.1).r, (is K z.2).r]) (fun z => LotsV z.1 z.2) fun z _ => (is K true).p
theorem pairwise_at {α : Type} {R : α → α → Prop} : ∀ {xs : List α} {i : Nat} {a b : α}, xs.Pairwise R → xs[i]? = some a → b ∈ xs.drop (i + 1) → R a b
  | x :: xs, 0, a, b, h, e, hb => by
    simp at e
    subst e
    exact (List.pairwise_cons.mp h).1 b (by simpa using hb)
  | x :: xs, i + 1, a, b, h, e, hb => pairwise_at (i := i) (List.pairwise_cons.mp h).2 (by simpa using e) (by simpa using hb)
theorem ok_are_lots (F : Fdef K mg "are_lots" s_are_lots) (G : Bl mg) (c1 : Cal P w K mg base 2 "is_lot_of" (spIsLot T K)) (c2 : Cal P w K mg base 1 "do_clash" (spClash T K)) : Cal P w K mg base 3 "are_lots" (spAreLots T K) := by
  refine cal_of F sc_are_lots (fun _ => rfl) (fun _ _ _ _ _ _ us hl => match us, hl with | [_, _], _ => rfl) (fun z f cdv A outer s H E hz hr => ?_)
  have hz4 : z.2.length ≤ 800 := hz.few
  refine ss_cons (ρ1 := ent 4 [(isX K z.1).r, (is K z.2).r]) (s_if (k := false) (b_eq (b_w (bw_or (k := false) (l := false) (b_eq (b_not (b_val (e_isi (P := (is K z.2).r) (k := true) (t := "tuple") (ty := "tuple") (e_par 1 rfl) (fun v H h => ty_tup h) rfl G.isinstance G.tuple rfl))) rfl)
    fun _ => bw_or1 (b_eq (b_not (b_val (e_all (bs := z.2.map fun _ => true) (e_newL (n_lcM (gt := is K) 4 [("lot", 4)] (fun _ => true) (w_tup (e_par (P := (is K z.2).r) 1 rfl)) sc_are_lots.nd (blkOk_by (N := N_are_lots) (sc := defScope s_are_lots) (by decide +kernel)) (by omega)
      (fun _ _ _ _ _ => pg_name (i := 4) sc_are_lots.nd rfl (Or.inl rfl)) (fun _ _ _ _ _ a ha => ?_))) G.all))) (by simp)))) rfl)
    (fun h => by cases h) fun _ => ss_nil fun _ _ _ en => en) ?_
  · have h1 := hz.seq a ha
    have h2 := hz.two a ha
    have h3 := hz.len ha
    have e1 : eqb a (inSeq z.1 a) = true := eqb_iff.mpr h1
    have e2 : decide ((1 : Int) < ((a.length : Nat) : Int)) = true := by rw [decide_eq_true_eq]; omega
    exact e_cast (f := fun b : Bool => (is K b).p) (e_and (k := eqb a (inSeq z.1 a)) (e_call c1 hr (by omega) (z.1, a) ⟨Nat.le_trans hz.cf (by decide), Nat.le_trans h3 (by decide)⟩ (as_cons (e_par (P := (isX K z.1).r) 0 rfl) (as_cons (P := (is K a).r) (e_var 4 rfl) as_nil)) fun _ _ _ _ _ p => p)
      fun _ => e_and1 (e_cm (c_gt (e_len (e_seq (e_var 4 rfl)) G.len) e_int))) (by rw [e1, e2]; rfl)
  refine ss_cons (ρ1 := ent 4 [(isX K z.1).r, (is K z.2).r]) (s_for (xs := numd z.2) (gt := is K) (fun _ => ent 4 [(isX K z.1).r, (is K z.2).r]) (fun _ a => [.r (isX K z.1).r, .r (is K z.2).r, .t (is K a.1), .t (is K a.2), .u, .u])
    (w_enumT (e_par (P := (is K z.2).r) 1 rfl) G.enumerate) (pg_two rfl sc_are_lots.nd rfl rfl (i := 2) (j := 3) (by first | exact Or.inl rfl | exact Or.inr rfl) (by first | exact Or.inl rfl | exact Or.inr rfl) (Or.inl rfl) (Or.inl rfl)) (Wk.refl _) (js := [2, 3]) (fun pre a post _ => by exact tg_pair (i := 2) (j := 3) (pair_is a)) (fun pre a post e => ?_) fun _ _ _ en => en) ?_
  · obtain ⟨h1, h2, h3⟩ := numd_cut e
    have hm : a.2 ∈ z.2 := List.mem_of_getElem? h2
    have hd : ∀ b ∈ z.2.drop (pre.length + 1), clash a.2 b = false ∧ b.length ≤ 800 := fun b hb => ⟨pairwise_at (R := fun a b => clash a b = false) hz.no h2 hb, hz.len (List.mem_of_mem_drop hb)⟩
    refine ss_one (s_if (k := false) (b_val (e_cast (f := fun b : Bool => (is K b).p) (e_any (bs := (z.2.drop (pre.length + 1)).map fun _ => false) (e_newL (n_lcM (gt := is K) 5 [("other", 5)] (fun _ => false) (w_tup (e_from (e_par (P := (is K z.2).r) 1 rfl) (e_cast (f := fun i : Int => (is K i).p) (e_add (e_var 2 rfl) e_int) (by rw [h1]; rfl)) h3)) sc_are_lots.nd (blkOk_by (N := N_are_lots) (sc := defScope s_are_lots) (by decide +kernel)) (by simp; omega)
        (fun _ _ _ _ _ => pg_name (i := 5) sc_are_lots.nd rfl (Or.inl rfl)) (fun _ _ _ _ _ b hb => ?_))) G.any) (by rw [any_map]; exact List.any_eq_false.mpr fun _ _ h => by cases h))) (fun h => by cases h) fun _ => ss_nil fun _ _ _ en => en.weak (.same (.same (.drop (.drop (.same (.same .nil)))))))
    have hb2 := hd b hb
    exact e_cast (f := fun b : Bool => (is K b).p) (e_call c2 hr (by omega) (a.2, b) ⟨Nat.le_trans (hz.len hm) (by decide), Nat.le_trans hb2.2 (by decide)⟩ (as_cons (P := (is K a.2).r) (e_var 3 rfl) (as_cons (P := (is K b).r) (e_var 5 rfl) as_nil)) fun _ _ _ _ _ p => p) hb2.1
  · exact ss_one (s_ret e_bl fun v H _ p => p)
end
end Pg
set_option maxHeartbeats 4000000
namespace Pg
open PySem PySem.Spec PyProof.Rows L2 Cf NdefX PySem.W
section
variable {P : Program} {w : World} {K : PySem.W.Frag} {mg : Str → Option Value} {base : Heap} {T : Tb} {C : Addr}
/-! ### is_stemma_of -/
structure StemV (copies : List Nm) (st : List Lot) : Prop where
  lots : LotsV copies st
  eq : st = stemmaOf copies st
abbrev spIsStem (T : Tb) (K : PySem.W.Frag) : Sp := spF T (fun z : List Nm × List Lot => [(isX K z.1).r, (is K z.2).r]) (fun z => StemV z.1 z.2) fun z _ => (is K true).p
theorem ok_is_stemma_of (F : Fdef K mg "is_stemma_of" s_is_stemma_of) (c1 : Cal P w K mg base 3 "are_lots" (spAreLots T K)) (c2 : Cal P w K mg base 7 "stemma_of" (spStemmaOf T K)) : Cal P w K mg base 8 "is_stemma_of" (spIsStem T K) := by
  refine cal_of F sc_is_stemma_of (fun _ => rfl) (fun _ _ _ _ _ _ us hl => match us, hl with | [_, _], _ => rfl) (fun z f cdv A outer s H E hz hr => ?_)
  refine ss_one (s_ret (e_cast (f := fun b : Bool => (is K b).p) (e_and (k := true) (l := eqb z.2 (stemmaOf z.1 z.2)) (e_call c1 hr (by omega) z hz.lots (as_cons (e_par (P := (isX K z.1).r) 0 rfl) (as_cons (e_par (P := (is K z.2).r) 1 rfl) as_nil)) fun _ _ _ _ _ p => p)
    fun _ => e_and1 (e_cm (c_eq hr (by decide) (e_par (P := (is K z.2).r) 1 rfl) (e_call c2 hr (by omega) z ⟨Nat.le_trans hz.lots.cf (by decide), Nat.le_trans hz.lots.few (by decide), hz.lots.ok⟩ (as_cons (e_par (P := (isX K z.1).r) 0 rfl) (as_cons (e_seq (e_par (P := (is K z.2).r) 1 rfl)) as_nil)) fun _ _ _ _ _ p => p)))) (by rw [eqb_iff.mpr hz.eq]; rfl)) fun v H _ p => p)
/-! ### cut_down -/
def cutDown (st : List Lot) (some : List Nm) : List Lot := stemmaOf some (st.map (inSeq some))
abbrev spCutDown (T : Tb) (K : PySem.W.Frag) : Sp := spF T (fun z : List Nm × List Lot × List Nm => [(isX K z.1).r, (is K z.2.1).r, (isX K z.2.2).r]) (fun z => z.2.1.length ≤ 800 ∧ z.2.2.length ≤ 800) fun z _ => (is K (cutDown z.2.1 z.2.2)).p
theorem ok_cut_down (F : Fdef K mg "cut_down" s_cut_down) (G : Bl mg) (c1 : Cal P w K mg base 1 "in_sequence" (spInSeq T K)) (c2 : Cal P w K mg base 7 "stemma_of" (spStemmaOf T K)) : Cal P w K mg base 8 "cut_down" (spCutDown T K) := by
  refine cal_of F sc_cut_down (fun _ => rfl) (fun _ _ _ _ _ _ us hl => match us, hl with | [_, _, _], _ => rfl) (fun z f cdv A outer s H E hz hr => ?_)
  refine ss_cons (ρ1 := [.r (isX K z.1).r, .r (is K z.2.1).r, .r (isX K z.2.2).r, .o (lstO K (z.2.1.map (inSeq z.2.2))), .u]) (s_lcM (gt := is K) 3 4 [("lot", 4)] (inSeq z.2.2) (w_tup (e_par (P := (is K z.2.1).r) 1 rfl)) sc_cut_down.nd (blkOk_by (N := N_cut_down) (sc := defScope s_cut_down) (by decide +kernel)) (by omega)
    (fun _ _ _ _ _ => pg_name (i := 4) sc_cut_down.nd rfl (Or.inl rfl)) (fun _ _ _ _ _ a ha => by exact e_call c1 hr (by omega) (z.2.2, a) (Nat.le_trans hz.2 (by decide)) (as_cons (P := seqR K z.2.2) (e_seq (e_ofX (e_par (P := (isX K z.2.2).r) 2 rfl))) (as_cons (P := seqR K a) (e_seq (e_var 4 rfl)) as_nil)) fun _ _ _ _ _ p => p) fun _ _ _ en => en) ?_
  refine ss_one (s_ret (e_call c2 hr (by omega) (z.2.2, z.2.1.map (inSeq z.2.2)) ⟨Nat.le_trans hz.2 (by decide), ?_, fun lot hl => ?_⟩ (as_cons (P := (isX K z.2.2).r) (e_tupleXX (e_par (P := (isX K z.2.2).r) 2 rfl) G.tuple) (as_cons (e_seqL (e_ownL 3 rfl)) as_nil)) fun _ _ _ _ _ p => p) fun v H _ p => p)
  · rw [List.length_map]
    omega
  · obtain ⟨a, _, rfl⟩ := List.mem_map.mp hl
    exact ⟨Nat.le_trans (inSeq_len _ _) (Nat.le_trans hz.2 (by decide)), fun c hc => (List.mem_filter.mp hc).1⟩
/-! ### what takes a shelf -/
abbrev shP (K : PySem.W.Frag) (C : Addr) (copies : List Nm) : TP := insP C "own_copies" (isX K copies)
abbrev ShF (P : Program) (w : World) (K : PySem.W.Frag) (mg : Str → Option Value) (base : Heap) (C : Addr) : Prop := ClsF P w K mg base C "Shelf" "copies" "own_copies"
abbrev spCheckShelf (T : Tb) (K : PySem.W.Frag) (C : Addr) : Sp := spF T (fun z : List Nm => [(shP K C z).r]) (fun _ => True) fun z _ v _ => v = .non
theorem ok_check_shelf (F : Fdef K mg "check_shelf" s_check_shelf) (G : Bl mg) (S : ShF P w K mg base C) : Cal P w K mg base 1 "check_shelf" (spCheckShelf T K C) := by
  refine cal_of F sc_check_shelf (fun _ => rfl) (fun _ _ _ _ _ _ us hl => match us, hl with | [_], _ => rfl) (fun z f cdv A outer s H E hz hr => ?_)
  exact ss_one (s_if (k := false) (b_eq (b_not (b_val (e_isiO S (e_par (P := (shP K C z).r) 0 rfl) G.isinstance))) rfl) (fun h => by cases h) fun _ => ss_nil fun _ _ _ en => ⟨en.exR, rfl⟩)
abbrev spCheckStemma (T : Tb) (K : PySem.W.Frag) (C : Addr) : Sp := spF T (fun z : List Nm × List Lot => [(shP K C z.1).r, (is K z.2).r]) (fun z => StemV z.1 z.2) fun z _ v _ => v = .non
theorem ok_check_stemma (F : Fdef K mg "check_stemma" s_check_stemma) (S : ShF P w K mg base C) (c1 : Cal P w K mg base 1 "check_shelf" (spCheckShelf T K C)) (c2 : Cal P w K mg base 8 "is_stemma_of" (spIsStem T K)) : Cal P w K mg base 9 "check_stemma" (spCheckStemma T K C) := by
  refine cal_of F sc_check_stemma (fun _ => rfl) (fun _ _ _ _ _ _ us hl => match us, hl with | [_, _], _ => rfl) (fun z f cdv A outer s H E hz hr => ?_)
  refine ss_cons (ρ1 := ent 0 [(shP K C z.1).r, (is K z.2).r]) (s_expr (e_call c1 hr (by omega) z.1 trivial (as_cons (e_par (P := (shP K C z.1).r) 0 rfl) as_nil) fun _ _ _ _ _ p => p) fun _ _ _ en => en) ?_
  refine ss_one (s_if (k := false) (b_eq (b_not (b_val (k := true) (e_call c2 hr (by omega) z hz (as_cons (P := (isX K z.1).r) (e_prop S (e_par (P := (shP K C z.1).r) 0 rfl) hr (by omega)) (as_cons (e_par (P := (is K z.2).r) 1 rfl) as_nil)) fun _ _ _ _ _ p => p))) rfl) (fun h => by cases h) fun _ => ss_nil fun _ _ _ en => ⟨en.exR, rfl⟩)
structure StemsV (copies : List Nm) (ss : List (List Lot)) : Prop where
  ne : 0 < ss.length
  few : ss.length ≤ 9
  all : ∀ st ∈ ss, StemV copies st
abbrev spAreStems (T : Tb) (K : PySem.W.Frag) (C : Addr) : Sp := spF T (fun z : List Nm × List (List Lot) => [(shP K C z.1).r, (is K z.2).r]) (fun z => StemsV z.1 z.2) fun z _ => (is K true).p
theorem ok_are_stemmata_of (F : Fdef K mg "are_stemmata_of" s_are_stemmata_of) (G : Bl mg) (hc9 : ∃ t, mg "MOST_STEMMATA" = some (.int 9 t)) (S : ShF P w K mg base C) (c2 : Cal P w K mg base 8 "is_stemma_of" (spIsStem T K)) : Cal P w K mg base 9 "are_stemmata_of" (spAreStems T K C) := by
  refine cal_of F sc_are_stemmata_of (fun _ => rfl) (fun _ _ _ _ _ _ us hl => match us, hl with | [_, _], _ => rfl) (fun z f cdv A outer s H E hz hr => ?_)
  have h1 := hz.ne
  have h2 := hz.few
  refine ss_cons (ρ1 := ent 1 [(shP K C z.1).r, (is K z.2).r]) (s_if (k := false) (b_eq (b_w (bw_or (k := false) (l := false) (b_eq (b_not (b_val (e_isi (P := (is K z.2).r) (k := true) (t := "tuple") (ty := "tuple") (e_par 1 rfl) (fun v H h => ty_tup h) rfl G.isinstance G.tuple rfl))) rfl)
    fun _ => bw_or1 (b_eq (b_not (b_cm (c_chain (f := fun i j => decide (i < j)) (f' := fun i j => decide (i ≤ j)) op_lt op_le e_int (e_len (e_seq (e_par (P := (is K z.2).r) 1 rfl)) G.len) (e_globI hc9)))) ?_))) rfl)
    (fun h => by cases h) fun _ => ss_nil fun _ _ _ en => en) ?_
  · rw [decide_eq_true (show (0 : Int) < ((z.2.length : Nat) : Int) by omega), decide_eq_true (show ((z.2.length : Nat) : Int) ≤ 9 by omega)]
    rfl
  · refine ss_one (s_ret (e_cast (f := fun b : Bool => (is K b).p) (e_all (bs := z.2.map fun _ => true) (e_newL (n_lcM (gt := is K) 2 [("stemma", 2)] (fun _ => true) (w_tup (e_par (P := (is K z.2).r) 1 rfl)) sc_are_stemmata_of.nd (blkOk_by (N := N_are_stemmata_of) (sc := defScope s_are_stemmata_of) (by decide +kernel)) (by omega)
      (fun _ _ _ _ _ => pg_name (i := 2) sc_are_stemmata_of.nd rfl (Or.inl rfl)) (fun _ _ _ _ _ a ha => by exact e_call c2 hr (by omega) (z.1, a) (hz.all a ha) (as_cons (P := (isX K z.1).r) (e_prop S (e_par (P := (shP K C z.1).r) 0 rfl) hr (by omega)) (as_cons (P := (is K a).r) (e_var 2 rfl) as_nil)) fun _ _ _ _ _ p => p))) G.all) (by rw [all_map]; exact List.all_eq_true.mpr fun _ _ => rfl)) fun v H _ p => p)
abbrev spCheckStems (T : Tb) (K : PySem.W.Frag) (C : Addr) : Sp := spF T (fun z : List Nm × List (List Lot) => [(shP K C z.1).r, (is K z.2).r]) (fun z => StemsV z.1 z.2) fun z _ v _ => v = .non
theorem ok_check_stemmata (F : Fdef K mg "check_stemmata" s_check_stemmata) (c1 : Cal P w K mg base 1 "check_shelf" (spCheckShelf T K C)) (c2 : Cal P w K mg base 9 "are_stemmata_of" (spAreStems T K C)) : Cal P w K mg base 10 "check_stemmata" (spCheckStems T K C) := by
  refine cal_of F sc_check_stemmata (fun _ => rfl) (fun _ _ _ _ _ _ us hl => match us, hl with | [_, _], _ => rfl) (fun z f cdv A outer s H E hz hr => ?_)
  refine ss_cons (ρ1 := ent 0 [(shP K C z.1).r, (is K z.2).r]) (s_expr (e_call c1 hr (by omega) z.1 trivial (as_cons (e_par (P := (shP K C z.1).r) 0 rfl) as_nil) fun _ _ _ _ _ p => p) fun _ _ _ en => en) ?_
  exact ss_one (s_if (k := false) (b_eq (b_not (b_val (k := true) (e_call c2 hr (by omega) z hz (as_cons (e_par (P := (shP K C z.1).r) 0 rfl) (as_cons (e_par (P := (is K z.2).r) 1 rfl) as_nil)) fun _ _ _ _ _ p => p))) rfl) (fun h => by cases h) fun _ => ss_nil fun _ _ _ en => ⟨en.exR, rfl⟩)
abbrev spCheckTwo (T : Tb) (K : PySem.W.Frag) (C : Addr) : Sp := spF T (fun z : List Nm × List Lot × List Lot => [(shP K C z.1).r, (is K z.2.1).r, (is K z.2.2).r]) (fun z => StemV z.1 z.2.1 ∧ StemV z.1 z.2.2) fun z _ v _ => v = .non
theorem ok_check_two (F : Fdef K mg "check_two" s_check_two) (S : ShF P w K mg base C) (c1 : Cal P w K mg base 9 "check_stemma" (spCheckStemma T K C)) (c2 : Cal P w K mg base 8 "is_stemma_of" (spIsStem T K)) : Cal P w K mg base 10 "check_two" (spCheckTwo T K C) := by
  refine cal_of F sc_check_two (fun _ => rfl) (fun _ _ _ _ _ _ us hl => match us, hl with | [_, _, _], _ => rfl) (fun z f cdv A outer s H E hz hr => ?_)
  refine ss_cons (ρ1 := ent 0 [(shP K C z.1).r, (is K z.2.1).r, (is K z.2.2).r]) (s_expr (e_call c1 hr (by omega) (z.1, z.2.1) hz.1 (as_cons (e_par (P := (shP K C z.1).r) 0 rfl) (as_cons (e_par (P := (is K z.2.1).r) 1 rfl) as_nil)) fun _ _ _ _ _ p => p) fun _ _ _ en => en) ?_
  exact ss_one (s_if (k := false) (b_eq (b_not (b_val (k := true) (e_call c2 hr (by omega) (z.1, z.2.2) hz.2 (as_cons (P := (isX K z.1).r) (e_prop S (e_par (P := (shP K C z.1).r) 0 rfl) hr (by omega)) (as_cons (e_par (P := (is K z.2.2).r) 2 rfl) as_nil)) fun _ _ _ _ _ p => p))) rfl) (fun h => by cases h) fun _ => ss_nil fun _ _ _ en => ⟨en.exR, rfl⟩)
end
end Pg
set_option maxHeartbeats 4000000
namespace Pg
open PySem PySem.Spec PyProof.Rows L2 Cf NdefX PySem.W
section
variable {P : Program} {w : World} {K : PySem.W.Frag} {mg : Str → Option Value} {base : Heap} {T : Tb} {C : Addr}
/-! ### lots_in -/
/-- lots of at most nine stemmata, few each -/
structure SomeV (copies : List Nm) (ss : List (List Lot)) : Prop where
  few : ss.length ≤ 9
  each : ∀ st ∈ ss, st.length ≤ 100
  ok : ∀ st ∈ ss, LotsOk copies st
  cf : copies.length ≤ 800
theorem SomeV.flat {copies : List Nm} {ss : List (List Lot)} (h : SomeV copies ss) : ss.flatten.length ≤ 900 := by
  have : ∀ ss : List (List Lot), (∀ st ∈ ss, st.length ≤ 100) → ss.flatten.length ≤ 100 * ss.length := by
    intro ss
    induction ss with
    | nil => intro _; simp
    | cons st ss ih =>
      intro hh
      have h1 := hh st List.mem_cons_self
      have h2 := ih fun s hs => hh s (List.mem_cons_of_mem _ hs)
      simp only [List.flatten_cons, List.length_append, List.length_cons]
      omega
  have h1 := this ss h.each
  have h2 := h.few
  omega
theorem flat_pre {pre post : List (List Lot)} {a : List Lot} : (pre ++ a :: post).flatten = pre.flatten ++ (a ++ post.flatten) := by simp
def lotsIn (copies : List Nm) (ss : List (List Lot)) : List Lot := bySize copies ss.flatten
theorem SomeV.okF {copies : List Nm} {ss : List (List Lot)} (h : SomeV copies ss) : LotsOk copies ss.flatten := fun lot hl => by
  obtain ⟨st, h1, h2⟩ := List.mem_flatten.mp hl
  exact h.ok st h1 lot h2
abbrev spLotsIn (T : Tb) (K : PySem.W.Frag) (C : Addr) : Sp := spF T (fun z : List Nm × List (List Lot) => [(shP K C z.1).r, (is K z.2).r]) (fun z => SomeV z.1 z.2) fun z _ => (is K (lotsIn z.1 z.2)).p
theorem ok_lots_in (F : Fdef K mg "lots_in" s_lots_in) (S : ShF P w K mg base C) (c1 : Cal P w K mg base 6 "by_size" (spBySize T K)) : Cal P w K mg base 7 "lots_in" (spLotsIn T K C) := by
  refine cal_of F sc_lots_in (fun _ => rfl) (fun _ _ _ _ _ _ us hl => match us, hl with | [_, _], _ => rfl) (fun z f cdv A outer s H E hz hr => ?_)
  have hf := hz.flat
  refine ss_cons (ρ1 := [.r (shP K C z.1).r, .r (is K z.2).r, .o (lstO K ([] : List Lot)), .u]) (s_setN (O := lstO K ([] : List Lot)) 2 sc_lots_in.nd n_lst0 fun _ _ _ en => en) ?_
  refine ss_cons (ρ1 := [.r (shP K C z.1).r, .r (is K z.2).r, .o (lstO K z.2.flatten), .u]) (s_for (xs := z.2) (gt := is K) (fun pre => [.r (shP K C z.1).r, .r (is K z.2).r, .o (lstO K pre.flatten), .u]) (fun pre a => [.r (shP K C z.1).r, .r (is K z.2).r, .o (lstO K pre.flatten), .t (is K a)])
    (w_tup (e_par (P := (is K z.2).r) 1 rfl)) (pg_name (i := 3) sc_lots_in.nd rfl (by first | exact Or.inl rfl | exact Or.inr rfl)) (Wk.refl _) (js := [3]) (fun pre a post _ => by exact tg_name (i := 3) (P := is K a)) (fun pre a post e => ?_) fun _ _ _ en => en) ?_
  · have hl : pre.flatten.length + a.length ≤ 1000000 := by
      rw [e, flat_pre] at hf
      simp only [List.length_append] at hf
      omega
    refine ss_one (s_extendT 2 rfl hl (e_var 3 rfl) fun _ _ _ en => ?_)
    have e2 : (pre ++ [a]).flatten = pre.flatten ++ a := by simp
    rw [show (En1 T H [.r (shP K C z.1).r, .r (is K z.2).r, .o (lstO K (pre ++ [a]).flatten), .u]) = _ from by rw [e2]]
    exact en.weak (.same (.same (.same (.drop .nil))))
  · refine ss_one (s_ret (e_call c1 hr (by omega) (z.1, z.2.flatten) ⟨Nat.le_trans hf (by decide), hz.okF⟩ (as_cons (P := (isX K z.1).r) (e_prop S (e_par (P := (shP K C z.1).r) 0 rfl) hr (by omega)) (as_cons (e_seqL (e_ownL 2 rfl)) as_nil)) fun _ _ _ _ _ p => p) fun v H _ p => p)
/-! ### more_than -/
def moreThan (copies : List Nm) (ss : List (List Lot)) (part : Int) : List Lot := (lotsIn copies ss).filter fun lot => decide (part < 2 * ((manyOf ss lot : Nat) : Int))
theorem bySize_len (copies : List Nm) (lots : List Lot) : (bySize copies lots).length ≤ lots.length := by
  unfold bySize
  rw [List.length_mergeSort]
  exact len_uniq _
theorem manyOf_le (ss : List (List Lot)) (lot : Lot) : manyOf ss lot ≤ ss.length := List.length_filter_le _ _
abbrev spMoreThan (T : Tb) (K : PySem.W.Frag) (C : Addr) : Sp := spF T (fun z : List Nm × List (List Lot) × Int => [(shP K C z.1).r, (is K z.2.1).r, (is K z.2.2).r]) (fun z => SomeV z.1 z.2.1) fun z => nw (lstO K (moreThan z.1 z.2.1 z.2.2))
theorem ok_more_than (F : Fdef K mg "more_than" s_more_than) (c1 : Cal P w K mg base 7 "lots_in" (spLotsIn T K C)) (c2 : Cal P w K mg base 1 "many_of" (spManyOf T K)) : Cal P w K mg base 8 "more_than" (spMoreThan T K C) := by
  refine cal_of F sc_more_than (fun _ => rfl) (fun _ _ _ _ _ _ us hl => match us, hl with | [_, _, _], _ => rfl) (fun z f cdv A outer s H E hz hr => ?_)
  have hf := hz.flat
  have hl := bySize_len z.1 z.2.1.flatten
  refine ss_one (s_retN (n_lcF (gt := is K) 3 [("lot", 3)] (fun lot => decide (z.2.2 < 2 * ((manyOf z.2.1 lot : Nat) : Int))) id
    (w_tup (xs := lotsIn z.1 z.2.1) (e_call c1 hr (by omega) (z.1, z.2.1) hz (as_cons (P := (shP K C z.1).r) (e_par (P := (shP K C z.1).r) 0 rfl) (as_cons (e_par (P := (is K z.2.1).r) 1 rfl) as_nil)) fun _ _ _ _ _ p => p)) sc_more_than.nd (blkOk_by (N := N_more_than) (sc := defScope s_more_than) (by decide +kernel)) (by unfold lotsIn; omega)
    (fun _ _ _ _ _ => pg_name (i := 3) sc_more_than.nd rfl (Or.inl rfl)) (fun _ _ _ _ _ a ha => by
      have hm := manyOf_le z.2.1 a
      have hm2 := hz.few
      exact b_cm (c_gt (e_mul e_int (e_call c2 hr (by omega) (z.2.1, a) (Nat.le_trans hm2 (by decide)) (as_cons (P := (is K z.2.1).r) (e_par (P := (is K z.2.1).r) 1 rfl) (as_cons (P := (is K a).r) (e_var 3 rfl) as_nil)) fun _ _ _ _ _ p => p) (by decide) (by omega)) (e_par (P := (is K z.2.2).r) 2 rfl))) (fun _ _ _ _ _ a ha _ => by exact e_var 3 rfl)) fun v S H hS _ p => ⟨S, hS, ?_⟩)
  rw [List.map_id] at p
  exact p
/-! ### strict, majority, mild -/
theorem StemsV.some {copies : List Nm} {ss : List (List Lot)} (h : StemsV copies ss) (hl : ∀ st ∈ ss, st.length ≤ 100) : SomeV copies ss := ⟨h.few, hl, fun st hs => (h.all st hs).lots.ok, by
  obtain ⟨st, hs⟩ := List.exists_mem_of_length_pos h.ne
  exact (h.all st hs).lots.cf⟩
/-- stemmata that the middles take -/
structure MidV (copies : List Nm) (ss : List (List Lot)) : Prop where
  st : StemsV copies ss
  few : ∀ st ∈ ss, st.length ≤ 100
theorem MidV.some {copies : List Nm} {ss : List (List Lot)} (h : MidV copies ss) : SomeV copies ss := h.st.some h.few
theorem mem_bySize {copies : List Nm} {lots : List Lot} {lot : Lot} : lot ∈ bySize copies lots ↔ lot ∈ lots := by
  unfold bySize
  rw [List.mem_mergeSort, mem_uniq]
theorem moreThan_sub {copies : List Nm} {ss : List (List Lot)} {part : Int} {lot : Lot} (h : lot ∈ moreThan copies ss part) : lot ∈ ss.flatten := by
  have h1 := (List.mem_filter.mp h).1
  unfold lotsIn at h1
  rwa [mem_bySize] at h1
theorem moreThan_len {copies : List Nm} {ss : List (List Lot)} (h : SomeV copies ss) (part : Int) : (moreThan copies ss part).length ≤ 900 := by
  have h1 := List.length_filter_le (fun lot => decide (part < 2 * ((manyOf ss lot : Nat) : Int))) (lotsIn copies ss)
  have h2 := bySize_len copies ss.flatten
  have h3 := h.flat
  unfold moreThan lotsIn at *
  omega
def middle (copies : List Nm) (ss : List (List Lot)) (part : Int) : List Lot := stemmaOf copies (moreThan copies ss part)
def strictOf (copies : List Nm) (ss : List (List Lot)) : List Lot := middle copies ss (2 * ((ss.length : Nat) : Int) - 1)
def majorOf (copies : List Nm) (ss : List (List Lot)) : List Lot := middle copies ss ((ss.length : Nat) : Int)
abbrev spStrict (T : Tb) (K : PySem.W.Frag) (C : Addr) : Sp := spF T (fun z : List Nm × List (List Lot) => [(shP K C z.1).r, (is K z.2).r]) (fun z => MidV z.1 z.2) fun z _ => (is K (strictOf z.1 z.2)).p
abbrev spMajor (T : Tb) (K : PySem.W.Frag) (C : Addr) : Sp := spF T (fun z : List Nm × List (List Lot) => [(shP K C z.1).r, (is K z.2).r]) (fun z => MidV z.1 z.2) fun z _ => (is K (majorOf z.1 z.2)).p
theorem ok_strict (F : Fdef K mg "strict" s_strict) (G : Bl mg) (S : ShF P w K mg base C) (c1 : Cal P w K mg base 10 "check_stemmata" (spCheckStems T K C)) (c2 : Cal P w K mg base 8 "more_than" (spMoreThan T K C)) (c3 : Cal P w K mg base 7 "stemma_of" (spStemmaOf T K)) : Cal P w K mg base 11 "strict" (spStrict T K C) := by
  refine cal_of F sc_strict (fun _ => rfl) (fun _ _ _ _ _ _ us hl => match us, hl with | [_, _], _ => rfl) (fun z f cdv A outer s H E hz hr => ?_)
  have hs := hz.some
  have hfew := hs.few
  refine ss_cons (ρ1 := ent 0 [(shP K C z.1).r, (is K z.2).r]) (s_expr (e_call c1 hr (by omega) z hz.st (as_cons (e_par (P := (shP K C z.1).r) 0 rfl) (as_cons (e_par (P := (is K z.2).r) 1 rfl) as_nil)) fun _ _ _ _ _ p => p) fun _ _ _ en => en) ?_
  refine ss_one (s_ret (e_call c3 hr (by omega) (z.1, moreThan z.1 z.2 (2 * ((z.2.length : Nat) : Int) - 1)) ⟨Nat.le_trans hs.cf (by decide), moreThan_len hs _, fun lot hl => hs.okF lot (moreThan_sub hl)⟩ (as_cons (P := (isX K z.1).r) (e_prop S (e_par (P := (shP K C z.1).r) 0 rfl) hr (by omega))
    (as_cons (e_newS (n_call c2 hr (by omega) (z.1, z.2, 2 * ((z.2.length : Nat) : Int) - 1) hs (as_cons (e_par (P := (shP K C z.1).r) 0 rfl) (as_cons (e_par (P := (is K z.2).r) 1 rfl) (as_cons (P := (is K (2 * ((z.2.length : Nat) : Int) - 1)).r) (e_sub (e_mul e_int (e_len (e_seq (e_par (P := (is K z.2).r) 1 rfl)) G.len) (by decide) (by omega)) e_int) as_nil))) fun _ _ _ p => p)) as_nil)) fun _ _ _ _ _ p => p) fun v H _ p => p)
theorem ok_majority (F : Fdef K mg "majority" s_majority) (G : Bl mg) (S : ShF P w K mg base C) (c1 : Cal P w K mg base 10 "check_stemmata" (spCheckStems T K C)) (c2 : Cal P w K mg base 8 "more_than" (spMoreThan T K C)) (c3 : Cal P w K mg base 7 "stemma_of" (spStemmaOf T K)) : Cal P w K mg base 11 "majority" (spMajor T K C) := by
  refine cal_of F sc_majority (fun _ => rfl) (fun _ _ _ _ _ _ us hl => match us, hl with | [_, _], _ => rfl) (fun z f cdv A outer s H E hz hr => ?_)
  have hs := hz.some
  refine ss_cons (ρ1 := ent 0 [(shP K C z.1).r, (is K z.2).r]) (s_expr (e_call c1 hr (by omega) z hz.st (as_cons (e_par (P := (shP K C z.1).r) 0 rfl) (as_cons (e_par (P := (is K z.2).r) 1 rfl) as_nil)) fun _ _ _ _ _ p => p) fun _ _ _ en => en) ?_
  refine ss_one (s_ret (e_call c3 hr (by omega) (z.1, moreThan z.1 z.2 ((z.2.length : Nat) : Int)) ⟨Nat.le_trans hs.cf (by decide), moreThan_len hs _, fun lot hl => hs.okF lot (moreThan_sub hl)⟩ (as_cons (P := (isX K z.1).r) (e_prop S (e_par (P := (shP K C z.1).r) 0 rfl) hr (by omega))
    (as_cons (e_newS (n_call c2 hr (by omega) (z.1, z.2, ((z.2.length : Nat) : Int)) hs (as_cons (e_par (P := (shP K C z.1).r) 0 rfl) (as_cons (e_par (P := (is K z.2).r) 1 rfl) (as_cons (P := (is K (((z.2.length : Nat) : Int))).r) (e_len (e_seq (e_par (P := (is K z.2).r) 1 rfl)) G.len) as_nil))) fun _ _ _ p => p)) as_nil)) fun _ _ _ _ _ p => p) fun v H _ p => p)
/-- lots that none clashes with -/
def calm (every : List Lot) : List Lot := every.filter fun lot => !every.any fun other => clash lot other
def mildOf (copies : List Nm) (ss : List (List Lot)) : List Lot := stemmaOf copies (calm (lotsIn copies ss))
theorem lotsIn_ok {copies : List Nm} {ss : List (List Lot)} (h : SomeV copies ss) : LotsOk copies (lotsIn copies ss) := fun lot hl => h.okF lot (by unfold lotsIn at hl; rwa [mem_bySize] at hl)
theorem lotsIn_len {copies : List Nm} {ss : List (List Lot)} (h : SomeV copies ss) : (lotsIn copies ss).length ≤ 900 := Nat.le_trans (bySize_len _ _) h.flat
abbrev spMild (T : Tb) (K : PySem.W.Frag) (C : Addr) : Sp := spF T (fun z : List Nm × List (List Lot) => [(shP K C z.1).r, (is K z.2).r]) (fun z => MidV z.1 z.2) fun z _ => (is K (mildOf z.1 z.2)).p
theorem ok_mild (F : Fdef K mg "mild" s_mild) (G : Bl mg) (S : ShF P w K mg base C) (c1 : Cal P w K mg base 10 "check_stemmata" (spCheckStems T K C)) (c2 : Cal P w K mg base 7 "lots_in" (spLotsIn T K C)) (c3 : Cal P w K mg base 7 "stemma_of" (spStemmaOf T K)) (c4 : Cal P w K mg base 1 "do_clash" (spClash T K)) : Cal P w K mg base 11 "mild" (spMild T K C) := by
  refine cal_of F sc_mild (fun _ => rfl) (fun _ _ _ _ _ _ us hl => match us, hl with | [_, _], _ => rfl) (fun z f cdv A outer s H E hz hr => ?_)
  have hs := hz.some
  have hlen := lotsIn_len hs
  have hok := lotsIn_ok hs
  refine ss_cons (ρ1 := ent 3 [(shP K C z.1).r, (is K z.2).r]) (s_expr (e_call c1 hr (by omega) z hz.st (as_cons (e_par (P := (shP K C z.1).r) 0 rfl) (as_cons (e_par (P := (is K z.2).r) 1 rfl) as_nil)) fun _ _ _ _ _ p => p) fun _ _ _ en => en) ?_
  refine ss_cons (ρ1 := [.r (shP K C z.1).r, .r (is K z.2).r, .t (is K (lotsIn z.1 z.2)), .u, .u]) (s_set (P := is K (lotsIn z.1 z.2)) 2 sc_mild.nd (e_call c2 hr (by omega) z hs (as_cons (e_par (P := (shP K C z.1).r) 0 rfl) (as_cons (e_par (P := (is K z.2).r) 1 rfl) as_nil)) fun _ _ _ _ _ p => p) (fun _ _ _ en => en) rfl (by first | exact Or.inl rfl | exact Or.inr rfl)) ?_
  refine ss_one (s_ret (e_call c3 hr (by omega) (z.1, calm (lotsIn z.1 z.2)) ⟨Nat.le_trans hs.cf (by decide), Nat.le_trans (List.length_filter_le _ _) (by omega), fun lot hl => hok lot (List.mem_filter.mp hl).1⟩ (as_cons (P := (isX K z.1).r) (e_prop S (e_par (P := (shP K C z.1).r) 0 rfl) hr (by omega))
    (as_cons (P := seqR K (calm (lotsIn z.1 z.2))) ?_ as_nil)) fun _ _ _ _ _ p => p) fun v H _ p => p)
  refine e_cast (f := fun xs : List Lot => (seqR K xs).p) (e_newS (n_lcF (gt := is K) 3 [("lot", 3)] (fun lot => !(lotsIn z.1 z.2).any fun other => clash lot other) id (w_tup (e_var 2 rfl)) sc_mild.nd (blkOk_by (N := N_mild) (sc := defScope s_mild) (by decide +kernel)) (by omega)
    (fun _ _ _ _ _ => pg_name (i := 3) sc_mild.nd rfl (by first | exact Or.inl rfl | exact Or.inr rfl)) (fun _ _ _ _ _ a ha => ?_) (fun _ _ _ _ _ a ha _ => by exact e_var 3 rfl))) (List.map_id _)
  have hsc : FnScope N_mild ["shelf", "stemmata"] (defScope s_mild) := sc_mild
  refine b_not (b_val (e_cast (f := fun b : Bool => (is K b).p) (e_any (bs := (lotsIn z.1 z.2).map fun other => clash a other) (e_newL (n_lcM (gt := is K) 4 [("other", 4)] (fun other => clash a other) (w_tup (e_var 2 rfl)) sc_mild.nd ?_ (by omega)
    (fun _ _ _ _ _ => pg_name (i := 4) sc_mild.nd rfl (by first | exact Or.inl rfl | exact Or.inr rfl)) (fun _ _ _ _ _ b hb => ?_))) G.any) (any_map _ _)))
  · exact blkOk_by rfl
  · have ha1 := (hok a ha).1
    have hb1 := (hok b hb).1
    exact e_call c4 hr (by omega) (a, b) ⟨ha1, hb1⟩ (as_cons (P := (is K a).r) (e_var 3 rfl) (as_cons (P := (is K b).r) (e_var 4 rfl) as_nil)) fun _ _ _ _ _ p => p
end
end Pg
set_option maxHeartbeats 4000000
namespace Pg
open PySem PySem.Spec PyProof.Rows L2 Cf NdefX PySem.W
section
variable {P : Program} {w : World} {K : PySem.W.Frag} {mg : Str → Option Value} {base : Heap} {T : Tb} {C : Addr}
/-! ### far -/
abbrev spFar (T : Tb) (K : PySem.W.Frag) (C : Addr) : Sp := spF T (fun z : List Nm × List Lot × List Lot => [(shP K C z.1).r, (is K z.2.1).r, (is K z.2.2).r]) (fun z => StemV z.1 z.2.1 ∧ StemV z.1 z.2.2) fun z _ => (is K ((farOf z.2.1 z.2.2 : Nat) : Int)).p
theorem ok_far (F : Fdef K mg "far" s_far) (c1 : Cal P w K mg base 10 "check_two" (spCheckTwo T K C)) (c2 : Cal P w K mg base 1 "far_of" (spFarOf T K)) : Cal P w K mg base 11 "far" (spFar T K C) := by
  refine cal_of F sc_far (fun _ => rfl) (fun _ _ _ _ _ _ us hl => match us, hl with | [_, _, _], _ => rfl) (fun z f cdv A outer s H E hz hr => ?_)
  refine ss_cons (ρ1 := ent 0 [(shP K C z.1).r, (is K z.2.1).r, (is K z.2.2).r]) (s_expr (e_call c1 hr (by omega) z hz (as_cons (e_par (P := (shP K C z.1).r) 0 rfl) (as_cons (e_par (P := (is K z.2.1).r) 1 rfl) (as_cons (e_par (P := (is K z.2.2).r) 2 rfl) as_nil))) fun _ _ _ _ _ p => p) fun _ _ _ en => en) ?_
  exact ss_one (s_ret (e_call c2 hr (by omega) z.2 ⟨Nat.le_trans hz.1.lots.few (by decide), Nat.le_trans hz.2.lots.few (by decide)⟩ (as_cons (e_par (P := (is K z.2.1).r) 1 rfl) (as_cons (e_par (P := (is K z.2.2).r) 2 rfl) as_nil)) fun _ _ _ _ _ p => p) fun v H _ p => p)
/-! ### least_sum -/
def leastSum (copies : List Nm) (ss : List (List Lot)) : Int := (((lotsIn copies ss).map fun lot => ((manyOf ss lot : Nat) : Int)).map fun many => min many (((ss.length : Nat) : Int) - many)).sum
abbrev spLeast (T : Tb) (K : PySem.W.Frag) (C : Addr) : Sp := spF T (fun z : List Nm × List (List Lot) => [(shP K C z.1).r, (is K z.2).r]) (fun z => SomeV z.1 z.2) fun z _ => (is K (leastSum z.1 z.2)).p
theorem ok_least_sum (F : Fdef K mg "least_sum" s_least_sum) (G : Bl mg) (c1 : Cal P w K mg base 7 "lots_in" (spLotsIn T K C)) (c2 : Cal P w K mg base 1 "many_of" (spManyOf T K)) : Cal P w K mg base 8 "least_sum" (spLeast T K C) := by
  refine cal_of F sc_least_sum (fun _ => rfl) (fun _ _ _ _ _ _ us hl => match us, hl with | [_, _], _ => rfl) (fun z f cdv A outer s H E hz hr => ?_)
  have hlen := lotsIn_len hz
  have hfew := hz.few
  refine ss_cons (ρ1 := [.r (shP K C z.1).r, .r (is K z.2).r, .o (lstO K ((lotsIn z.1 z.2).map fun lot => ((manyOf z.2 lot : Nat) : Int))), .u, .u]) (s_lcM (gt := is K) 2 3 [("lot", 3)] (fun lot => ((manyOf z.2 lot : Nat) : Int))
    (w_tup (xs := lotsIn z.1 z.2) (e_call c1 hr (by omega) z hz (as_cons (P := (shP K C z.1).r) (e_par (P := (shP K C z.1).r) 0 rfl) (as_cons (e_par (P := (is K z.2).r) 1 rfl) as_nil)) fun _ _ _ _ _ p => p)) sc_least_sum.nd (blkOk_by (N := N_least_sum) (sc := defScope s_least_sum) (by decide +kernel)) (by omega)
    (fun _ _ _ _ _ => pg_name (i := 3) sc_least_sum.nd rfl (Or.inl rfl)) (fun _ _ _ _ _ a ha => by exact e_call c2 hr (by omega) (z.2, a) (Nat.le_trans hfew (by decide)) (as_cons (P := (is K z.2).r) (e_par (P := (is K z.2).r) 1 rfl) (as_cons (P := (is K a).r) (e_var 3 rfl) as_nil)) fun _ _ _ _ _ p => p) fun _ _ _ en => en) ?_
  refine ss_one (s_ret (e_sum (ns := ((lotsIn z.1 z.2).map fun lot => ((manyOf z.2 lot : Nat) : Int)).map fun many => min many (((z.2.length : Nat) : Int) - many)) (e_newL (n_lcM (gt := is K) 4 [("many", 4)] (fun many => min many (((z.2.length : Nat) : Int) - many)) (w_lst (e_ownL 2 rfl)) sc_least_sum.nd (blkOk_by (N := N_least_sum) (sc := defScope s_least_sum) (by decide +kernel)) (by rw [List.length_map]; omega)
    (fun _ _ _ _ _ => pg_name (i := 4) sc_least_sum.nd rfl (Or.inl rfl)) (fun _ _ _ _ _ a ha => by exact e_min2 (e_var 4 rfl) (e_sub (e_len (e_seq (e_par (P := (is K z.2).r) 1 rfl)) G.len) (e_var 4 rfl)) G.min))) G.sum) fun v H _ p => p)
/-! ### nearest -/
abbrev spNearest (T : Tb) (K : PySem.W.Frag) (C : Addr) : Sp := spF T (fun z : List Nm × List (List Lot) => [(shP K C z.1).r, (is K z.2).r]) (fun z => MidV z.1 z.2) fun z _ => (is K (leastSum z.1 z.2, majorOf z.1 z.2)).p
theorem ok_nearest (F : Fdef K mg "nearest" s_nearest) (G : Bl mg) (S : ShF P w K mg base C) (c1 : Cal P w K mg base 10 "check_stemmata" (spCheckStems T K C)) (c0 : Cal P w K mg base 8 "least_sum" (spLeast T K C)) (c2 : Cal P w K mg base 8 "more_than" (spMoreThan T K C)) (c3 : Cal P w K mg base 7 "stemma_of" (spStemmaOf T K)) : Cal P w K mg base 11 "nearest" (spNearest T K C) := by
  refine cal_of F sc_nearest (fun _ => rfl) (fun _ _ _ _ _ _ us hl => match us, hl with | [_, _], _ => rfl) (fun z f cdv A outer s H E hz hr => ?_)
  have hs := hz.some
  refine ss_cons (ρ1 := ent 0 [(shP K C z.1).r, (is K z.2).r]) (s_expr (e_call c1 hr (by omega) z hz.st (as_cons (e_par (P := (shP K C z.1).r) 0 rfl) (as_cons (e_par (P := (is K z.2).r) 1 rfl) as_nil)) fun _ _ _ _ _ p => p) fun _ _ _ en => en) ?_
  refine ss_one (s_ret (e_tup2 (x := leastSum z.1 z.2) (y := majorOf z.1 z.2) (e_call c0 hr (by omega) z hs (as_cons (e_par (P := (shP K C z.1).r) 0 rfl) (as_cons (e_par (P := (is K z.2).r) 1 rfl) as_nil)) fun _ _ _ _ _ p => p)
    (e_call c3 hr (by omega) (z.1, moreThan z.1 z.2 ((z.2.length : Nat) : Int)) ⟨Nat.le_trans hs.cf (by decide), moreThan_len hs _, fun lot hl => hs.okF lot (moreThan_sub hl)⟩ (as_cons (P := (isX K z.1).r) (e_prop S (e_par (P := (shP K C z.1).r) 0 rfl) hr (by omega))
    (as_cons (e_newS (n_call c2 hr (by omega) (z.1, z.2, ((z.2.length : Nat) : Int)) hs (as_cons (e_par (P := (shP K C z.1).r) 0 rfl) (as_cons (e_par (P := (is K z.2).r) 1 rfl) (as_cons (P := (is K (((z.2.length : Nat) : Int))).r) (e_len (e_seq (e_par (P := (is K z.2).r) 1 rfl)) G.len) as_nil))) fun _ _ _ p => p)) as_nil)) fun _ _ _ _ _ p => p)) fun v H _ p => p)
/-! ### does_show -/
abbrev Say := List Nm
def doesShow (st : List Lot) (a b c : Nm) : Bool := st.any fun lot => memb a lot && (memb b lot && !memb c lot)
abbrev spDoesShow (T : Tb) (K : PySem.W.Frag) : Sp := spF T (fun z : List Lot × Nm × Nm × Nm => [(is K z.1).r, (is K [z.2.1, z.2.2.1, z.2.2.2]).r]) (fun z => z.1.length ≤ 1000) fun z _ => (is K (doesShow z.1 z.2.1 z.2.2.1 z.2.2.2)).p
theorem ok_does_show (F : Fdef K mg "does_show" s_does_show) (G : Bl mg) : Cal P w K mg base 1 "does_show" (spDoesShow T K) := by
  refine cal_of F sc_does_show (fun _ => rfl) (fun _ _ _ _ _ _ us hl => match us, hl with | [_, _], _ => rfl) (fun z f cdv A outer s H E hz hr => ?_)
  refine ss_cons (ρ1 := [.r (is K z.1).r, .r (is K [z.2.1, z.2.2.1, z.2.2.2]).r, .t (is K z.2.1), .t (is K z.2.2.1), .t (is K z.2.2.2), .u]) (s_unp3 2 3 4 sc_does_show.nd (e_par (P := (is K [z.2.1, z.2.2.1, z.2.2.2]).r) 1 rfl) fun _ _ _ en => en) ?_
  refine ss_one (s_ret (e_cast (f := fun b : Bool => (is K b).p) (e_any (bs := z.1.map fun lot => memb z.2.1 lot && (memb z.2.2.1 lot && !memb z.2.2.2 lot)) (e_newL (n_lcM (gt := is K) 5 [("lot", 5)] (fun lot => memb z.2.1 lot && (memb z.2.2.1 lot && !memb z.2.2.2 lot)) (w_tup (e_par (P := (is K z.1).r) 0 rfl)) sc_does_show.nd (blkOk_by (N := N_does_show) (sc := defScope s_does_show) (by decide +kernel)) (by omega)
    (fun _ _ _ _ _ => pg_name (i := 5) sc_does_show.nd rfl (Or.inl rfl)) (fun _ _ _ _ _ a ha => by
      exact e_and (e_cm (c_in hr (by decide) (e_var 2 rfl) (e_seq (e_var 5 rfl)))) fun _ => e_and (e_cm (c_in hr (by decide) (e_var 3 rfl) (e_seq (e_var 5 rfl)))) fun _ => e_and1 (e_cm (c_ni hr (by decide) (e_var 4 rfl) (e_seq (e_var 5 rfl))))))) G.any) (any_map _ _)) fun v H _ p => p)
/-! ### all_sayings -/
def saysOf (copies : List Nm) (one other : Nm) : List Say := (copies.filter fun t => !memb t [one, other]).map fun t => [one, other, t]
def saysAt (copies : List Nm) (a : Int × Nm) : List Say := (copies.drop (a.1.toNat + 1)).flatMap (saysOf copies a.2)
def rawSays (copies : List Nm) : List Say := (numd copies).flatMap (saysAt copies)
def sayings (copies : List Nm) : List Say := (rawSays copies).mergeSort (dataLe false (enc (α := Say)))
theorem flatMap_len {α β : Type} {f : α → List β} {n : Nat} : ∀ {xs : List α}, (∀ x ∈ xs, (f x).length ≤ n) → (xs.flatMap f).length ≤ n * xs.length
  | [], _ => by simp
  | x :: xs, h => by
    rw [List.flatMap_cons, List.length_append, List.length_cons, Nat.mul_succ]
    have h1 := h x List.mem_cons_self
    have h2 := flatMap_len (xs := xs) fun y hy => h y (List.mem_cons_of_mem _ hy)
    omega
theorem saysOf_len (copies : List Nm) (one other : Nm) : (saysOf copies one other).length ≤ copies.length := by
  unfold saysOf
  rw [List.length_map]
  exact List.length_filter_le _ _
theorem saysAt_len {copies : List Nm} (h : copies.length ≤ 50) (a : Int × Nm) : (saysAt copies a).length ≤ 2500 := by
  have h1 := flatMap_len (f := saysOf copies a.2) (n := 50) (xs := copies.drop (a.1.toNat + 1)) fun x _ => Nat.le_trans (saysOf_len _ _ _) h
  rw [List.length_drop] at h1
  unfold saysAt
  omega
theorem rawSays_pre {copies : List Nm} (h : copies.length ≤ 50) {pre : List (Int × Nm)} (hp : pre.length ≤ 50) : (pre.flatMap (saysAt copies)).length ≤ 125000 := by
  have h1 := flatMap_len (f := saysAt copies) (n := 2500) (xs := pre) fun x _ => saysAt_len h x
  omega
theorem alike_strs : ∀ xs ys : List Nm, alikeAll (encs xs) (encs ys) = true
  | [], _ => by cases ‹List Nm› <;> rfl
  | _ :: _, [] => rfl
  | x :: xs, y :: ys => by
    show alikeAll (PyData.str x.1 :: encs xs) (PyData.str y.1 :: encs ys) = true
    rw [alikeAll, alike_strs xs ys]
    simp [alike]
theorem says_alike (xs : List Say) : AllAlike (encs xs) := AllAlike.of fun a b => by
  show alike (.tuple (encs a)) (.tuple (encs b)) = true
  rw [alike]
  exact alike_strs a b
theorem says_sortable {xs : List Say} (h : ∀ s ∈ xs, s ≠ []) : Sortable (encs xs) := .inl fun d hd => by
  obtain ⟨s, hs, rfl⟩ := List.mem_map.mp hd
  cases s with
  | nil => exact absurd rfl (h _ hs)
  | cons x xs => exact ⟨_, _, rfl⟩
theorem rawSays_ne {copies : List Nm} : ∀ s ∈ rawSays copies, s ≠ [] := fun s hs => by
  obtain ⟨a, _, h1⟩ := List.mem_flatMap.mp hs
  obtain ⟨b, _, h2⟩ := List.mem_flatMap.mp h1
  obtain ⟨t, _, rfl⟩ := List.mem_map.mp h2
  simp
theorem flatMap_snoc {α β : Type} (f : α → List β) (xs : List α) (a : α) : (xs ++ [a]).flatMap f = xs.flatMap f ++ f a := by simp
abbrev spAllSayings (T : Tb) (K : PySem.W.Frag) : Sp := spF T (fun z : List Nm => [(is K z).r]) (fun z => z.length ≤ 50) fun z => nw (lstO K (sayings z))
theorem ok_all_sayings (F : Fdef K mg "all_sayings" s_all_sayings) (G : Bl mg) : Cal P w K mg base 1 "all_sayings" (spAllSayings T K) := by
  refine cal_of F sc_all_sayings (fun _ => rfl) (fun _ _ _ _ _ _ us hl => match us, hl with | [_], _ => rfl) (fun z f cdv A outer s H E hz hr => ?_)
  refine ss_cons (ρ1 := [.r (is K z).r, .o (lstO K ([] : List Say)), .u, .u, .u, .u]) (s_setN (O := lstO K ([] : List Say)) 1 sc_all_sayings.nd n_lst0 fun _ _ _ en => en) ?_
  refine ss_cons (ρ1 := [.r (is K z).r, .o (lstO K (rawSays z)), .u, .u, .u, .u]) (s_for (xs := numd z) (gt := is K) (fun pre => [.r (is K z).r, .o (lstO K (pre.flatMap (saysAt z))), .u, .u, .u, .u]) (fun pre a => [.r (is K z).r, .o (lstO K (pre.flatMap (saysAt z))), .t (is K a.1), .t (is K a.2), .u, .u])
    (w_enumT (e_par (P := (is K z).r) 0 rfl) G.enumerate) (pg_two (i := 2) (j := 3) rfl sc_all_sayings.nd rfl rfl (by first | exact Or.inl rfl | exact Or.inr rfl) (by first | exact Or.inl rfl | exact Or.inr rfl) (Or.inl rfl) (Or.inl rfl)) (Wk.refl _) (js := [2, 3]) (fun pre a post _ => by exact tg_pair (i := 2) (j := 3) (pair_is a)) (fun pre a post e => ?_) fun _ _ _ en => en) ?_
  · obtain ⟨h1, h2, h3⟩ := numd_cut e
    have hpl : pre.length ≤ 50 := by omega
    have hb := rawSays_pre hz hpl
    have ea : a.1.toNat = pre.length := by omega
    refine ss_one (s_for (xs := z.drop (pre.length + 1)) (gt := is K) (fun pre2 => [.r (is K z).r, .o (lstO K (pre.flatMap (saysAt z) ++ pre2.flatMap (saysOf z a.2))), .t (is K a.1), .t (is K a.2), .u, .u]) (fun pre2 b => [.r (is K z).r, .o (lstO K (pre.flatMap (saysAt z) ++ pre2.flatMap (saysOf z a.2))), .t (is K a.1), .t (is K a.2), .t (is K b), .u])
      (w_tup (e_from (e_par (P := (is K z).r) 0 rfl) (e_cast (f := fun i : Int => (is K i).p) (e_add (e_var 2 rfl) e_int) (by rw [h1]; rfl)) h3)) (pg_name (i := 4) sc_all_sayings.nd rfl (by first | exact Or.inl rfl | exact Or.inr rfl)) ?_ (js := [4]) (fun pre2 b post2 _ => by exact tg_name (i := 4) (P := is K b)) (fun pre2 b post2 e2 => ?_) fun H0 σ H' en => ?_)
    · rw [List.flatMap_nil, List.append_nil]
      exact Wk.refl _
    · have hp2 : pre2.length ≤ 50 := by
        have := congrArg List.length e2
        simp only [List.length_append, List.length_drop, List.length_cons] at this
        omega
      have hg := flatMap_len (f := saysOf z a.2) (n := 50) (xs := pre2) fun x _ => Nat.le_trans (saysOf_len _ _ _) hz
      have hs := saysOf_len z a.2 b
      refine ss_one (s_extendL (ys := saysOf z a.2 b) 1 rfl (by rw [List.length_append]; omega) (e_newX (n_lcF (gt := is K) 5 [("third", 5)] (fun t => !memb t [a.2, b]) (fun t => [a.2, b, t]) (w_tup (e_par (P := (is K z).r) 0 rfl)) sc_all_sayings.nd (blkOk_by (N := N_all_sayings) (sc := defScope s_all_sayings) (by decide +kernel)) (by omega)
        (fun _ _ _ _ _ => pg_name (i := 5) sc_all_sayings.nd rfl (Or.inl rfl)) (fun _ _ _ _ _ c hc => by exact b_cm (c_ni hr (by decide) (e_var 5 rfl) (e_seq (e_tup2L (e_var 3 rfl) (e_var 4 rfl))))) (fun _ _ _ _ _ c hc _ => by exact e_tup3L (e_var 3 rfl) (e_var 4 rfl) (e_var 5 rfl)))) fun _ _ _ en => ?_)
      have e3 : pre.flatMap (saysAt z) ++ (pre2 ++ [b]).flatMap (saysOf z a.2) = pre.flatMap (saysAt z) ++ pre2.flatMap (saysOf z a.2) ++ saysOf z a.2 b := by rw [flatMap_snoc, List.append_assoc]
      rw [show (En1 T H [.r (is K z).r, .o (lstO K (pre.flatMap (saysAt z) ++ (pre2 ++ [b]).flatMap (saysOf z a.2))), .t (is K a.1), .t (is K a.2), .u, .u]) = _ from by rw [e3]]
      exact en.weak (.same (.same (.same (.same (.drop (.same .nil))))))
    · have e3 : (pre ++ [a]).flatMap (saysAt z) = pre.flatMap (saysAt z) ++ (z.drop (pre.length + 1)).flatMap (saysOf z a.2) := by
        rw [flatMap_snoc]
        unfold saysAt
        rw [ea]
      rw [show (En1 T H [.r (is K z).r, .o (lstO K ((pre ++ [a]).flatMap (saysAt z))), .u, .u, .u, .u]) = _ from by rw [e3]]
      exact en.weak (.same (.same (.drop (.drop (.same (.same .nil))))))
  · have hb := rawSays_pre hz (pre := numd z) (by rw [numd_len]; exact hz)
    exact ss_one (s_retN (n_sorted (e_ownX 1 rfl) G.sorted hr (by unfold rawSays; omega) (says_alike _) (says_sortable rawSays_ne) (by decide)) fun v S H hS _ p => ⟨S, hS, p⟩)
end
end Pg
set_option maxHeartbeats 4000000
namespace Pg
open PySem PySem.Spec PyProof.Rows L2 Cf NdefX PySem.W
section
variable {P : Program} {w : World} {K : PySem.W.Frag} {mg : Str → Option Value} {base : Heap} {T : Tb} {C : Addr}
/-! ### shown_by, shown -/
def shows (st : List Lot) (s : Say) : Bool := match s with
  | [a, b, c] => doesShow st a b c
  | _ => false
theorem sayings_len {copies : List Nm} (h : copies.length ≤ 50) : (sayings copies).length ≤ 125000 := by
  unfold sayings
  rw [List.length_mergeSort]
  exact rawSays_pre h (by rw [numd_len]; exact h)
theorem sayings_three {copies : List Nm} {s : Say} (h : s ∈ sayings copies) : ∃ a b c, s = [a, b, c] := by
  unfold sayings at h
  rw [List.mem_mergeSort] at h
  obtain ⟨a, _, h1⟩ := List.mem_flatMap.mp h
  obtain ⟨b, _, h2⟩ := List.mem_flatMap.mp h1
  obtain ⟨t, _, rfl⟩ := List.mem_map.mp h2
  exact ⟨_, _, _, rfl⟩
def shownBy (copies : List Nm) (st : List Lot) : List Say := (sayings copies).filter (shows st)
abbrev spShownBy (T : Tb) (K : PySem.W.Frag) : Sp := spF T (fun z : List Nm × List Lot => [(is K z.1).r, (is K z.2).r]) (fun z => z.1.length ≤ 50 ∧ z.2.length ≤ 1000) fun z _ => (is K (shownBy z.1 z.2)).p
theorem ok_shown_by (F : Fdef K mg "shown_by" s_shown_by) (G : Bl mg) (c1 : Cal P w K mg base 1 "all_sayings" (spAllSayings T K)) (c2 : Cal P w K mg base 1 "does_show" (spDoesShow T K)) : Cal P w K mg base 2 "shown_by" (spShownBy T K) := by
  refine cal_of F sc_shown_by (fun _ => rfl) (fun _ _ _ _ _ _ us hl => match us, hl with | [_, _], _ => rfl) (fun z f cdv A outer s H E hz hr => ?_)
  have hl := sayings_len hz.1
  refine ss_one (s_ret (e_cast (f := fun xs : List Say => (is K xs).p) (e_tupleOf (e_newS (n_lcF (gt := is K) 2 [("saying", 2)] (shows z.2) id (w_new (xs := sayings z.1) (n_call c1 hr (by omega) z.1 hz.1 (as_cons (e_par (P := (is K z.1).r) 0 rfl) as_nil) fun _ _ _ p => p)) sc_shown_by.nd (blkOk_by (N := N_shown_by) (sc := defScope s_shown_by) (by decide +kernel)) (by omega)
    (fun _ _ _ _ _ => pg_name (i := 2) sc_shown_by.nd rfl (Or.inl rfl)) (fun _ _ _ _ _ a ha => ?_) (fun _ _ _ _ _ a ha _ => by exact e_var 2 rfl))) G.tuple) (List.map_id _)) fun v H _ p => p)
  obtain ⟨x, y, t, rfl⟩ := sayings_three ha
  exact b_val (e_call c2 hr (by omega) (z.2, x, y, t) hz.2 (as_cons (P := (is K z.2).r) (e_par (P := (is K z.2).r) 1 rfl) (as_cons (P := (is K [x, y, t]).r) (e_var 2 rfl) as_nil)) fun _ _ _ _ _ p => p)
abbrev spShown (T : Tb) (K : PySem.W.Frag) (C : Addr) : Sp := spF T (fun z : List Nm × List Lot => [(shP K C z.1).r, (is K z.2).r]) (fun z => StemV z.1 z.2 ∧ z.1.length ≤ 50) fun z _ => (is K (shownBy z.1 z.2)).p
theorem ok_shown (F : Fdef K mg "shown" s_shown) (S : ShF P w K mg base C) (c1 : Cal P w K mg base 9 "check_stemma" (spCheckStemma T K C)) (c2 : Cal P w K mg base 2 "shown_by" (spShownBy T K)) : Cal P w K mg base 10 "shown" (spShown T K C) := by
  refine cal_of F sc_shown (fun _ => rfl) (fun _ _ _ _ _ _ us hl => match us, hl with | [_, _], _ => rfl) (fun z f cdv A outer s H E hz hr => ?_)
  refine ss_cons (ρ1 := ent 0 [(shP K C z.1).r, (is K z.2).r]) (s_expr (e_call c1 hr (by omega) z hz.1 (as_cons (e_par (P := (shP K C z.1).r) 0 rfl) (as_cons (e_par (P := (is K z.2).r) 1 rfl) as_nil)) fun _ _ _ _ _ p => p) fun _ _ _ en => en) ?_
  exact ss_one (s_ret (e_call c2 hr (by omega) z ⟨hz.2, Nat.le_trans hz.1.lots.few (by decide)⟩ (as_cons (P := (is K z.1).r) (e_ofX (e_prop S (e_par (P := (shP K C z.1).r) 0 rfl) hr (by omega))) (as_cons (e_par (P := (is K z.2).r) 1 rfl) as_nil)) fun _ _ _ _ _ p => p) fun v H _ p => p)
/-! ### check_both, both, common -/
abbrev spCheckBoth (T : Tb) (K : PySem.W.Frag) (C : Addr) : Sp := spF T (fun z : List Nm × List Lot × List Lot => [(shP K C z.1).r, (is K z.2.1).r, (is K z.2.2).r]) (fun z => StemV z.1 z.2.1 ∧ StemV z.1 z.2.2) fun z _ v _ => v = .non
theorem ok_check_both (F : Fdef K mg "check_both" s_check_both) (c1 : Cal P w K mg base 9 "check_stemma" (spCheckStemma T K C)) : Cal P w K mg base 10 "check_both" (spCheckBoth T K C) := by
  refine cal_of F sc_check_both (fun _ => rfl) (fun _ _ _ _ _ _ us hl => match us, hl with | [_, _, _], _ => rfl) (fun z f cdv A outer s H E hz hr => ?_)
  refine ss_cons (ρ1 := ent 0 [(shP K C z.1).r, (is K z.2.1).r, (is K z.2.2).r]) (s_expr (e_call c1 hr (by omega) (z.1, z.2.1) hz.1 (as_cons (e_par (P := (shP K C z.1).r) 0 rfl) (as_cons (e_par (P := (is K z.2.1).r) 1 rfl) as_nil)) fun _ _ _ _ _ p => p) fun _ _ _ en => en) ?_
  exact ss_one (s_expr (e_call c1 hr (by omega) (z.1, z.2.2) hz.2 (as_cons (e_par (P := (shP K C z.1).r) 0 rfl) (as_cons (e_par (P := (is K z.2.2).r) 2 rfl) as_nil)) fun _ _ _ _ _ p => p) fun _ _ _ en => ⟨en.exR, rfl⟩)
abbrev nmStemma : Nm := ⟨"stemma", by decide +kernel⟩
def joinOf (copies : List Nm) (st other : List Lot) : List Lot := stemmaOf copies (st ++ other)
abbrev spBoth (T : Tb) (K : PySem.W.Frag) (C : Addr) : Sp := spF T (fun z : List Nm × List Lot × List Lot => [(shP K C z.1).r, (is K z.2.1).r, (is K z.2.2).r]) (fun z => (StemV z.1 z.2.1 ∧ StemV z.1 z.2.2) ∧ (z.2.1.length ≤ 100 ∧ z.2.2.length ≤ 100) ∧ ∀ a ∈ z.2.1, ∀ b ∈ z.2.2, clash a b = false) fun z _ => (is K (nmStemma, joinOf z.1 z.2.1 z.2.2)).p
theorem ok_both (F : Fdef K mg "both" s_both) (S : ShF P w K mg base C) (hst : ∃ t, mg "STEMMA" = some (.str "stemma" t)) (c1 : Cal P w K mg base 10 "check_both" (spCheckBoth T K C)) (c2 : Cal P w K mg base 7 "stemma_of" (spStemmaOf T K)) (c3 : Cal P w K mg base 1 "do_clash" (spClash T K)) : Cal P w K mg base 11 "both" (spBoth T K C) := by
  refine cal_of F sc_both (fun _ => rfl) (fun _ _ _ _ _ _ us hl => match us, hl with | [_, _, _], _ => rfl) (fun z f cdv A outer s H E hz hr => ?_)
  obtain ⟨hz1, hz2, hz3⟩ := hz
  have hok1 := hz1.1.lots.ok
  have hok2 := hz1.2.lots.ok
  refine ss_cons (ρ1 := ent 3 [(shP K C z.1).r, (is K z.2.1).r, (is K z.2.2).r]) (s_expr (e_call c1 hr (by omega) z hz1 (as_cons (e_par (P := (shP K C z.1).r) 0 rfl) (as_cons (e_par (P := (is K z.2.1).r) 1 rfl) (as_cons (e_par (P := (is K z.2.2).r) 2 rfl) as_nil))) fun _ _ _ _ _ p => p) fun _ _ _ en => en) ?_
  refine ss_cons (ρ1 := ent 3 [(shP K C z.1).r, (is K z.2.1).r, (is K z.2.2).r]) (s_for (xs := z.2.1) (gt := is K) (fun _ => ent 3 [(shP K C z.1).r, (is K z.2.1).r, (is K z.2.2).r]) (fun _ a => [.r (shP K C z.1).r, .r (is K z.2.1).r, .r (is K z.2.2).r, .t (is K a), .u, .u])
    (w_tup (e_par (P := (is K z.2.1).r) 1 rfl)) (pg_name (i := 3) sc_both.nd rfl (by first | exact Or.inl rfl | exact Or.inr rfl)) (Wk.refl _) (js := [3]) (fun pre a post _ => by exact tg_name (i := 3) (P := is K a)) (fun pre a post e => ?_) fun _ _ _ en => en) ?_
  · have ha : a ∈ z.2.1 := by rw [e]; simp
    have hno : z.2.2.filter (fun its => clash a its) = [] := List.filter_eq_nil_iff.mpr fun b hb => by rw [hz3 a ha b hb]; exact Bool.false_ne_true
    refine ss_cons (ρ1 := [.r (shP K C z.1).r, .r (is K z.2.1).r, .r (is K z.2.2).r, .t (is K a), .o (lstO K (z.2.2.filter fun its => clash a its)), .u]) (s_lcF (gt := is K) 4 5 [("its", 5)] (fun its => clash a its) id (w_tup (e_par (P := (is K z.2.2).r) 2 rfl)) sc_both.nd (blkOk_by (N := N_both) (sc := defScope s_both) (by decide +kernel)) (by omega)
      (fun _ _ _ _ _ => pg_name (i := 5) sc_both.nd rfl (Or.inl rfl)) (fun _ _ _ _ _ b hb => by
        have hb1 := (hok2 b hb).1
        have ha1 := (hok1 a ha).1
        exact b_val (e_call c3 hr (by omega) (a, b) ⟨ha1, hb1⟩ (as_cons (P := (is K a).r) (e_var 3 rfl) (as_cons (P := (is K b).r) (e_var 5 rfl) as_nil)) fun _ _ _ _ _ p => p)) (fun _ _ _ _ _ b hb _ => by exact e_var 5 rfl) fun _ _ _ en => by rw [List.map_id] at en; exact en) ?_
    refine ss_one (s_if (k := false) (b_eq (b_cm (c_neL hr (by decide) (x := z.2.2.filter fun its => clash a its) (y := ([] : List Lot)) (e_ownL 4 rfl) (e_newL n_lst0))) (by rw [hno]; rfl)) (fun h => by cases h) fun _ => ss_nil fun _ _ _ en => en.weak (.same (.same (.same (.drop (.drop (.same .nil)))))))
  · refine ss_one (s_ret (e_tup2 (x := nmStemma) (y := joinOf z.1 z.2.1 z.2.2) (e_globS nmStemma hst) (e_call c2 hr (by omega) (z.1, z.2.1 ++ z.2.2) ⟨Nat.le_trans hz1.1.lots.cf (by decide), ?_, fun lot hl => (List.mem_append.mp hl).elim (hok1 lot) (hok2 lot)⟩ (as_cons (P := (isX K z.1).r) (e_prop S (e_par (P := (shP K C z.1).r) 0 rfl) hr (by omega))
      (as_cons (P := seqR K (z.2.1 ++ z.2.2)) (e_seq (e_catT (e_par (P := (is K z.2.1).r) 1 rfl) (e_par (P := (is K z.2.2).r) 2 rfl) (by omega))) as_nil)) fun _ _ _ _ _ p => p)) fun v H _ p => p)
    rw [List.length_append]
    omega
def meetOf (copies : List Nm) (st other : List Lot) : List Lot := stemmaOf copies (st.filter fun lot => memb lot other)
abbrev spMeet (T : Tb) (K : PySem.W.Frag) (C : Addr) : Sp := spF T (fun z : List Nm × List Lot × List Lot => [(shP K C z.1).r, (is K z.2.1).r, (is K z.2.2).r]) (fun z => StemV z.1 z.2.1 ∧ StemV z.1 z.2.2) fun z _ => (is K (meetOf z.1 z.2.1 z.2.2)).p
theorem ok_meet (F : Fdef K mg "common" s_common_68) (S : ShF P w K mg base C) (c1 : Cal P w K mg base 10 "check_both" (spCheckBoth T K C)) (c2 : Cal P w K mg base 7 "stemma_of" (spStemmaOf T K)) : Cal P w K mg base 11 "common" (spMeet T K C) := by
  refine cal_of F sc_common_68 (fun _ => rfl) (fun _ _ _ _ _ _ us hl => match us, hl with | [_, _, _], _ => rfl) (fun z f cdv A outer s H E hz hr => ?_)
  have hok1 := hz.1.lots.ok
  have hf := hz.1.lots.few
  refine ss_cons (ρ1 := ent 1 [(shP K C z.1).r, (is K z.2.1).r, (is K z.2.2).r]) (s_expr (e_call c1 hr (by omega) z hz (as_cons (e_par (P := (shP K C z.1).r) 0 rfl) (as_cons (e_par (P := (is K z.2.1).r) 1 rfl) (as_cons (e_par (P := (is K z.2.2).r) 2 rfl) as_nil))) fun _ _ _ _ _ p => p) fun _ _ _ en => en) ?_
  refine ss_one (s_ret (e_call c2 hr (by omega) (z.1, z.2.1.filter fun lot => memb lot z.2.2) ⟨Nat.le_trans hz.1.lots.cf (by decide), Nat.le_trans (List.length_filter_le _ _) (by omega), fun lot hl => hok1 lot (List.mem_filter.mp hl).1⟩ (as_cons (P := (isX K z.1).r) (e_prop S (e_par (P := (shP K C z.1).r) 0 rfl) hr (by omega))
    (as_cons (P := seqR K (z.2.1.filter fun lot => memb lot z.2.2)) (e_cast (f := fun xs : List Lot => (seqR K xs).p) (e_newS (n_lcF (gt := is K) 3 [("lot", 3)] (fun lot => memb lot z.2.2) id (w_tup (e_par (P := (is K z.2.1).r) 1 rfl)) sc_common_68.nd (blkOk_by (N := N_common_68) (sc := defScope s_common_68) (by decide +kernel)) (by omega)
      (fun _ _ _ _ _ => pg_name (i := 3) sc_common_68.nd rfl (Or.inl rfl)) (fun _ _ _ _ _ a ha => by exact b_cm (c_in hr (by decide) (e_var 3 rfl) (e_seq (e_par (P := (is K z.2.2).r) 2 rfl)))) (fun _ _ _ _ _ a ha _ => by exact e_var 3 rfl))) (List.map_id _)) as_nil)) fun _ _ _ _ _ p => p) fun v H _ p => p)
end
end Pg
set_option maxHeartbeats 4000000
namespace Pg
open PySem PySem.Spec PyProof.Rows L2 Cf NdefX PySem.W
section
variable {P : Program} {w : World} {K : PySem.W.Frag} {mg : Str → Option Value} {base : Heap} {T : Tb} {C : Addr}
/-! ### parts_of -/
def shorter (a b : Lot) : Bool := decide (((a.length : Nat) : Int) < ((b.length : Nat) : Int))
def innerOf (st : List Lot) (lot : Lot) : List Lot := st.filter fun o => within o lot && shorter o lot
def topsOf (inner : List Lot) : List Lot := inner.filter fun one => !inner.any fun other => within one other && shorter one other
def restOf (lot : Lot) (tops : List Lot) : List Lot := (lot.filter fun c => !tops.any fun top => memb c top).map fun c => [c]
def keyPart (copies : List Nm) : Lot → PyData
  | [] => .int 0
  | x :: _ => .int ((ixOf x copies : Nat) : Int)
def partsRaw (st : List Lot) (lot : Lot) : List Lot := topsOf (innerOf st lot) ++ restOf lot (topsOf (innerOf st lot))
def partsOf (copies : List Nm) (st : List Lot) (lot : Lot) : List Lot := (partsRaw st lot).mergeSort (dataLe false (keyPart copies))
theorem keyPart_int (copies : List Nm) (a : Lot) : ∃ i, keyPart copies a = .int i := by cases a <;> exact ⟨_, rfl⟩
/-- what parts_of takes -/
structure PartV (copies : List Nm) (st : List Lot) (lot : Lot) : Prop where
  few : st.length ≤ 800
  each : ∀ o ∈ st, o.length ≤ 800 ∧ o ≠ [] ∧ ∀ c ∈ o, c ∈ copies
  lf : lot.length ≤ 800
  mem : ∀ c ∈ lot, c ∈ copies
theorem lsc_parts_of : NScope ["part", "copies"] ["part"] ["copies"] (lamScope (lamOfRet ((defBody s_parts_of).getD 3 (.Pass ⟨0, 0, 0, 0⟩)))) := nscope_by (by decide +kernel)
abbrev spPartsOf (T : Tb) (K : PySem.W.Frag) : Sp := spF T (fun z : List Nm × List Lot × Lot => [(isX K z.1).r, (is K z.2.1).r, (is K z.2.2).r]) (fun z => PartV z.1 z.2.1 z.2.2) fun z _ => (is K (partsOf z.1 z.2.1 z.2.2)).p
theorem topsOf_sub {inner : List Lot} {o : Lot} (h : o ∈ topsOf inner) : o ∈ inner := (List.mem_filter.mp h).1
theorem innerOf_sub {st : List Lot} {lot o : Lot} (h : o ∈ innerOf st lot) : o ∈ st := (List.mem_filter.mp h).1
theorem parts_mem {copies : List Nm} {st : List Lot} {lot : Lot} (hz : PartV copies st lot) {o : Lot} (h : o ∈ partsRaw st lot) : o.length ≤ 800 ∧ ∃ x r, o = x :: r ∧ x ∈ copies := by
  rcases List.mem_append.mp h with h | h
  · obtain ⟨h1, h2, h3⟩ := hz.each o (innerOf_sub (topsOf_sub h))
    cases o with
    | nil => exact absurd rfl h2
    | cons x r => exact ⟨h1, x, r, rfl, h3 x List.mem_cons_self⟩
  · obtain ⟨c, h1, rfl⟩ := List.mem_map.mp h
    exact ⟨by simp, c, [], rfl, hz.mem c (List.mem_filter.mp h1).1⟩
theorem innerOf_len (st : List Lot) (lot : Lot) : (innerOf st lot).length ≤ st.length := List.length_filter_le _ _
theorem topsOf_len (inner : List Lot) : (topsOf inner).length ≤ inner.length := List.length_filter_le _ _
theorem restOf_len (lot : Lot) (tops : List Lot) : (restOf lot tops).length ≤ lot.length := by
  unfold restOf
  rw [List.length_map]
  exact List.length_filter_le _ _
theorem ok_parts_of (F : FdefL K mg base T "parts_of" s_parts_of) (G : Bl mg) (c1 : Cal P w K mg base 1 "is_within" (spWithin T K)) : Cal P w K mg base 6 "parts_of" (spPartsOf T K) := by
  refine cal_ofL F sc_parts_of (fun _ => rfl) (fun _ _ _ _ _ _ us hl => match us, hl with | [_, _, _], _ => rfl) (fun z f cdv A outer s H E hz hr M => ?_)
  have hin := innerOf_len z.2.1 z.2.2
  have htn := topsOf_len (innerOf z.2.1 z.2.2)
  have hrn := restOf_len z.2.2 (topsOf (innerOf z.2.1 z.2.2))
  have hf := hz.few
  have hlf := hz.lf
  refine ss_cons (ρ1 := [.r (isX K z.1).r, .r (is K z.2.1).r, .r (is K z.2.2).r, .o (lstO K (innerOf z.2.1 z.2.2)), .u, .u, .u, .u, .u, .u]) (s_lcFc (gt := is K) 3 6 [("other", 6)] (fun o => within o z.2.2 && shorter o z.2.2) id (w_tup (e_par (P := (is K z.2.1).r) 1 rfl)) sc_parts_of.nd (blkOk_by (N := N_parts_of) (sc := defScope s_parts_of) (by decide +kernel)) (by omega)
    (fun _ _ _ _ _ => pg_name (i := 6) sc_parts_of.nd rfl (by first | exact Or.inl rfl | exact Or.inr rfl)) (fun _ _ _ _ _ a ha => by
      have h1 := (hz.each a ha).1
      exact b_w (bw_and (k := within a z.2.2) (b_val (e_call c1 hr (by omega) (a, z.2.2) ⟨Nat.le_trans h1 (by decide), Nat.le_trans hlf (by decide)⟩ (as_cons (P := (is K a).r) (e_var 6 rfl) (as_cons (P := (is K z.2.2).r) (e_par (P := (is K z.2.2).r) 2 rfl) as_nil)) fun _ _ _ _ _ p => p)) fun _ => bw_and1 (b_cm (c_lt (e_len (e_seq (e_var 6 rfl)) G.len) (e_len (e_seq (e_par (P := (is K z.2.2).r) 2 rfl)) G.len))))) (fun _ _ _ _ _ a ha _ => by exact e_var 6 rfl) fun _ _ _ en => by rw [List.map_id] at en; exact en) ?_
  refine ss_cons (ρ1 := [.r (isX K z.1).r, .r (is K z.2.1).r, .r (is K z.2.2).r, .o (lstO K (innerOf z.2.1 z.2.2)), .o (lstO K (topsOf (innerOf z.2.1 z.2.2))), .u, .u, .u, .u, .u]) (s_lcFc (gt := is K) 4 7 [("one", 7)] (fun one => !(innerOf z.2.1 z.2.2).any fun other => within one other && shorter one other) id (w_lst (e_ownL 3 rfl)) sc_parts_of.nd (blkOk_by (N := N_parts_of) (sc := defScope s_parts_of) (by decide +kernel)) (by omega)
    (fun _ _ _ _ _ => pg_name (i := 7) sc_parts_of.nd rfl (by first | exact Or.inl rfl | exact Or.inr rfl)) (fun _ _ _ _ _ a ha => by
      have h1 := (hz.each a (innerOf_sub ha)).1
      refine b_not (b_val (e_cast (f := fun b : Bool => (is K b).p) (e_any (bs := (innerOf z.2.1 z.2.2).map fun other => within a other && shorter a other) (e_newL (n_lcM (gt := is K) 6 [("other", 6)] (fun other => within a other && shorter a other) (w_lst (e_ownL 3 rfl)) sc_parts_of.nd (blkOk_by rfl) (by omega)
        (fun _ _ _ _ _ => pg_name (i := 6) sc_parts_of.nd rfl (by first | exact Or.inl rfl | exact Or.inr rfl)) (fun _ _ _ _ _ b hb => ?_))) G.any) (any_map _ _)))
      have h2 := (hz.each b (innerOf_sub hb)).1
      exact e_and (k := within a b) (e_call c1 hr (by omega) (a, b) ⟨Nat.le_trans h1 (by decide), Nat.le_trans h2 (by decide)⟩ (as_cons (P := (is K a).r) (e_var 7 rfl) (as_cons (P := (is K b).r) (e_var 6 rfl) as_nil)) fun _ _ _ _ _ p => p) fun _ => e_and1 (e_cm (c_lt (e_len (e_seq (e_var 7 rfl)) G.len) (e_len (e_seq (e_var 6 rfl)) G.len)))) (fun _ _ _ _ _ a ha _ => by exact e_var 7 rfl) fun _ _ _ en => by rw [List.map_id] at en; exact en) ?_
  refine ss_cons (ρ1 := [.r (isX K z.1).r, .r (is K z.2.1).r, .r (is K z.2.2).r, .o (lstO K (innerOf z.2.1 z.2.2)), .o (lstO K (topsOf (innerOf z.2.1 z.2.2))), .o (lstO K (restOf z.2.2 (topsOf (innerOf z.2.1 z.2.2)))), .u, .u, .u, .u]) (s_lcF (gt := is K) 5 8 [("copy", 8)] (fun c => !(topsOf (innerOf z.2.1 z.2.2)).any fun top => memb c top) (fun c => [c]) (w_tup (e_par (P := (is K z.2.2).r) 2 rfl)) sc_parts_of.nd (blkOk_by (N := N_parts_of) (sc := defScope s_parts_of) (by decide +kernel)) (by omega)
    (fun _ _ _ _ _ => pg_name (i := 8) sc_parts_of.nd rfl (by first | exact Or.inl rfl | exact Or.inr rfl)) (fun _ _ _ _ _ a ha => by
      exact b_not (b_val (e_cast (f := fun b : Bool => (is K b).p) (e_any (bs := (topsOf (innerOf z.2.1 z.2.2)).map fun top => memb a top) (e_newL (n_lcM (gt := is K) 9 [("top", 9)] (fun top => memb a top) (w_lst (e_ownL 4 rfl)) sc_parts_of.nd (blkOk_by rfl) (by omega)
        (fun _ _ _ _ _ => pg_name (i := 9) sc_parts_of.nd rfl (by first | exact Or.inl rfl | exact Or.inr rfl)) (fun _ _ _ _ _ b hb => by exact e_cm (c_in hr (by decide) (e_var 8 rfl) (e_seq (e_var 9 rfl)))))) G.any) (any_map _ _)))) (fun _ _ _ _ _ a ha _ => by exact e_tup1 (e_var 8 rfl)) fun _ _ _ en => en) ?_
  refine ss_one (s_ret (e_tupleOf (e_newS (n_sortL (k := 1) (j := 5) (N := ["part", "copies"]) (p := "part") (fr := ["copies"]) (js := [0]) (xs := partsRaw z.2.1 z.2.2) (key := keyPart z.1) (e_newX (n_cat (e_ownX 4 rfl) (e_ownX 5 rfl) (by omega))) G.sorted (by unfold partsRaw; rw [List.length_append]; omega) M
    ⟨lsc_parts_of, ndef_free (sc := defScope s_parts_of) (fr := ["copies"]) (by decide +kernel), ndef_fr (sc := defScope s_parts_of) (by decide +kernel), rfl⟩ hr (by omega) (AllAlike.of fun a b => ?_) (Sortable.others fun a => ?_) (fun a _ => ?_) rfl (fun q cl pm cv ctv u => rfl) ?_)) G.tuple) (fun v H _ p => p))
  · obtain ⟨i, e1⟩ := keyPart_int z.1 a
    obtain ⟨j, e2⟩ := keyPart_int z.1 b
    rw [e1, e2]
    rfl
  · obtain ⟨i, e1⟩ := keyPart_int z.1 a
    rw [e1]
    exact ⟨(fun h => nomatch h), (fun xs h => nomatch h)⟩
  · obtain ⟨i, e1⟩ := keyPart_int z.1 a
    rw [e1]
    exact Nat.zero_le _
  · intro A2 outer2 s2 H2 f2 c2 a ha hr2
    obtain ⟨h1, x, r, rfl, h2⟩ := parts_mem hz ha
    exact e_index (e_par (P := (isX K z.1).r) 1 rfl) (e_ixT (i := 0) (e_var 0 rfl) e_int rfl) h2
end
end Pg
set_option maxHeartbeats 4000000
namespace Pg
open PySem PySem.Spec PyProof.Rows L2 Cf NdefX PySem.W
section
variable {T : Tb} {R : Hp} {X : Cx} {ρ : List AV} {es : List Expr} {pos : Pos}
theorem e_tupI {ns : List Int} {kk : Nat} (h : Sp1 T R X ρ es (encs ns)) (hl : ns.length ≤ 1000000) : Cf.E T R X ρ (.Tuple es kk pos) (tupI ns).p :=
  e_of (pe_tup h.pa) fun σ H H0 Q en q => ⟨⟨H0, en⟩, fun vs H1 x1 p1 => by
    have e1 := dps_ints p1
    subst e1
    refine ⟨?_, fun p hp => q _ _ (x1.trans (Ex.new hp)) ⟨p, rfl, upd_same⟩⟩
    have : sizeLine = 16777216 := sizeLine_eq
    rw [List.length_map]
    omega⟩
theorem sp_cast {ds ds' : List PyData} (h : Sp1 T R X ρ es ds) (e : ds = ds') : Sp1 T R X ρ es ds' := e ▸ h
end
/-! ### tables that grow -/
section
variable {κ α : Type} [DecidableEq κ]
def addTo (nm : List (κ × List α)) (k : κ) (x : α) : List (κ × List α) := putB nm k ((getB nm k).getD [] ++ [x])
def szT : List (κ × List α) → Nat
  | [] => 0
  | p :: nm => p.2.length + 1 + szT nm
theorem szT_len : ∀ nm : List (κ × List α), nm.length ≤ szT nm
  | [] => Nat.zero_le _
  | p :: nm => by
    have := szT_len nm
    simp only [szT, List.length_cons]
    omega
theorem szT_get {k : κ} {l : List α} : ∀ {nm : List (κ × List α)}, getB nm k = some l → l.length ≤ szT nm
  | [], h => by cases h
  | p :: nm, h => by
    unfold getB at h
    rw [List.find?_cons] at h
    by_cases e : p.1 = k
    · rw [decide_eq_true e] at h
      cases h
      simp only [szT]
      omega
    · rw [decide_eq_false e] at h
      have := szT_get (nm := nm) h
      simp only [szT]
      omega
theorem szT_getD (nm : List (κ × List α)) (k : κ) : ((getB nm k).getD []).length ≤ szT nm := by
  cases h : getB nm k with
  | none => exact Nat.zero_le _
  | some l => exact szT_get h
theorem szT_app (a b : List (κ × List α)) : szT (a ++ b) = szT a + szT b := by
  induction a with
  | nil => simp [szT]
  | cons p a ih => simp only [List.cons_append, szT, ih]; omega
theorem addTo_any (nm : List (κ × List α)) (k : κ) : (nm.any fun p => decide (p.1 = k)) = (getB nm k).isSome := by
  unfold getB
  rw [Option.isSome_map]
  induction nm with
  | nil => rfl
  | cons p nm ih =>
    rw [List.any_cons, List.find?_cons, ih]
    by_cases e : p.1 = k
    · rw [decide_eq_true e]
      rfl
    · rw [decide_eq_false e]
      rfl
theorem find_none_map {k : κ} {l : List α} : ∀ {nm : List (κ × List α)}, (∀ p ∈ nm, p.1 ≠ k) → nm.map (fun p => if p.1 = k then (p.1, l) else p) = nm
  | [], _ => rfl
  | p :: nm, h => by
    rw [List.map_cons, if_neg (h p List.mem_cons_self), find_none_map fun q hq => h q (List.mem_cons_of_mem _ hq)]
/-- the keys are told once -/
def Uni (nm : List (κ × List α)) : Prop := (nm.map (·.1)).Nodup
theorem szT_map {k : κ} {l l0 : List α} : ∀ {nm : List (κ × List α)}, Uni nm → getB nm k = some l0 → szT (nm.map (fun p => if p.1 = k then (p.1, l) else p)) + l0.length = szT nm + l.length
  | [], _, h => by cases h
  | p :: nm, hn, h => by
    have hn' : Uni nm ∧ ∀ q ∈ nm, q.1 ≠ p.1 := by
      unfold Uni at hn
      rw [List.map_cons, List.nodup_cons] at hn
      exact ⟨hn.2, fun q hq e => hn.1 (List.mem_map.mpr ⟨q, hq, e⟩)⟩
    unfold getB at h
    rw [List.find?_cons] at h
    by_cases e : p.1 = k
    · rw [decide_eq_true e] at h
      cases h
      rw [List.map_cons, if_pos e, find_none_map fun q hq => e ▸ hn'.2 q hq]
      simp only [szT]
      omega
    · rw [decide_eq_false e] at h
      have := szT_map (nm := nm) (l := l) hn'.1 h
      rw [List.map_cons, if_neg e]
      simp only [szT]
      omega
theorem addTo_sz {nm : List (κ × List α)} (hn : Uni nm) (k : κ) (x : α) : szT (addTo nm k x) ≤ szT nm + 2 := by
  unfold addTo putB
  rw [addTo_any]
  cases h : getB nm k with
  | none =>
    rw [if_neg (by simp), szT_app]
    simp [szT]
  | some l0 =>
    rw [if_pos (by simp)]
    have := szT_map (l := l0 ++ [x]) hn h
    simp only [List.length_append, List.length_cons, List.length_nil] at this
    simp only [Option.getD_some]
    omega
theorem addTo_uni {nm : List (κ × List α)} (hn : Uni nm) (k : κ) (x : α) : Uni (addTo nm k x) := by
  unfold addTo putB
  rw [addTo_any]
  cases h : getB nm k with
  | some l0 =>
    rw [if_pos (by simp)]
    unfold Uni
    rw [List.map_map]
    have : ((fun p : κ × List α => p.1) ∘ fun p => if p.1 = k then (p.1, (some l0).getD [] ++ [x]) else p) = fun p => p.1 := by
      funext p
      show (if p.1 = k then (p.1, _) else p).1 = p.1
      split <;> rfl
    rw [this]
    exact hn
  | none =>
    rw [if_neg (by simp)]
    unfold Uni
    rw [List.map_append, List.nodup_append]
    refine ⟨hn, by simp, fun a ha b hb => ?_⟩
    simp only [List.map_cons, List.map_nil, List.mem_singleton] at hb
    obtain ⟨p, hp, rfl⟩ := List.mem_map.mp ha
    intro e
    have h2 := addTo_any nm k
    rw [h] at h2
    have h3 : (nm.any fun p => decide (p.1 = k)) = true := List.any_eq_true.mpr ⟨p, hp, decide_eq_true (e.trans hb)⟩
    rw [h2] at h3
    cases h3
end
/-- the numbers of the parts where each copy lies -/
def addP (nm : List (Nm × List Int)) (a : Int × Lot) : List (Nm × List Int) := a.2.foldl (fun nm c => addTo nm c a.1) nm
def addS (copies : List Nm) (nm : List (Nm × List Int)) (st : List Lot) : List (Nm × List Int) := (numd (partsOf copies st copies)).foldl addP nm
def namesOf (copies : List Nm) (ss : List (List Lot)) : List (Nm × List Int) := ss.foldl (addS copies) []
theorem addL_ok {nm : List (Nm × List Int)} (hn : Uni nm) (x : Int) : ∀ l : List Nm, Uni (l.foldl (fun nm c => addTo nm c x) nm) ∧ szT (l.foldl (fun nm c => addTo nm c x) nm) ≤ szT nm + 2 * l.length
  | [] => ⟨hn, by simp⟩
  | c :: l => by
    obtain ⟨h1, h2⟩ := addL_ok (addTo_uni hn c x) x l
    have h3 := addTo_sz hn c x
    rw [List.foldl_cons]
    refine ⟨h1, ?_⟩
    simp only [List.length_cons]
    omega
theorem addA_ok : ∀ (l : List (Int × Lot)) {nm : List (Nm × List Int)}, Uni nm → (∀ a ∈ l, a.2.length ≤ 12) → Uni (l.foldl addP nm) ∧ szT (l.foldl addP nm) ≤ szT nm + 24 * l.length
  | [], nm, hn, _ => ⟨hn, by simp⟩
  | a :: l, nm, hn, h => by
    obtain ⟨h1, h2⟩ := addL_ok hn a.1 a.2
    obtain ⟨h3, h4⟩ := addA_ok l (nm := addP nm a) h1 fun b hb => h b (List.mem_cons_of_mem _ hb)
    have h5 := h a List.mem_cons_self
    have h6 : szT (addP nm a) ≤ szT nm + 2 * a.2.length := h2
    rw [List.foldl_cons]
    refine ⟨h3, ?_⟩
    simp only [List.length_cons]
    omega
/-- what parted_by_all takes -/
structure PbaV (copies : List Nm) (ss : List (List Lot)) : Prop where
  cf : copies.length ≤ 12
  few : ss.length ≤ 9
  each : ∀ st ∈ ss, st.length ≤ 100 ∧ ∀ o ∈ st, o.length ≤ 12 ∧ o ≠ [] ∧ ∀ c ∈ o, c ∈ copies
  all : ∀ c ∈ copies, (getB (namesOf copies ss) c).isSome = true
theorem PbaV.part {copies : List Nm} {ss : List (List Lot)} (h : PbaV copies ss) {st : List Lot} (hs : st ∈ ss) : PartV copies st copies :=
  ⟨Nat.le_trans (h.each st hs).1 (by decide), fun o ho => ⟨Nat.le_trans ((h.each st hs).2 o ho).1 (by decide), ((h.each st hs).2 o ho).2⟩, Nat.le_trans h.cf (by decide), fun c hc => hc⟩
theorem partsRaw_len (st : List Lot) (lot : Lot) : (partsRaw st lot).length ≤ st.length + lot.length := by
  unfold partsRaw
  rw [List.length_append]
  have h1 := topsOf_len (innerOf st lot)
  have h2 := innerOf_len st lot
  have h3 := restOf_len lot (topsOf (innerOf st lot))
  omega
theorem partsOf_len (copies : List Nm) (st : List Lot) (lot : Lot) : (partsOf copies st lot).length ≤ st.length + lot.length := by
  unfold partsOf
  rw [List.length_mergeSort]
  exact partsRaw_len st lot
theorem parts_short {copies : List Nm} {st : List Lot} (h : ∀ o ∈ st, o.length ≤ 12) {lot o : Lot} (ho : o ∈ partsOf copies st lot) : o.length ≤ 12 := by
  unfold partsOf at ho
  rw [List.mem_mergeSort] at ho
  rcases List.mem_append.mp ho with ho | ho
  · exact h o (innerOf_sub (topsOf_sub ho))
  · obtain ⟨c, _, rfl⟩ := List.mem_map.mp ho
    simp
theorem numd_mem {α : Type} [DecidableEq α] [Enc α] {xs : List α} {a : Int × α} (h : a ∈ numd xs) : a.2 ∈ xs := by
  obtain ⟨i, hi, rfl⟩ := List.mem_iff_getElem.mp h
  obtain ⟨y, h1, h2⟩ := numd_at (List.getElem?_eq_getElem hi)
  rw [h2]
  exact List.mem_of_getElem? h1
theorem PbaV.sizes {copies : List Nm} {ss : List (List Lot)} (h : PbaV copies ss) : ∀ (pre : List (List Lot)) {nm : List (Nm × List Int)}, Uni nm → (∀ st ∈ pre, st ∈ ss) → Uni (pre.foldl (addS copies) nm) ∧ szT (pre.foldl (addS copies) nm) ≤ szT nm + 2688 * pre.length
  | [], nm, hn, _ => ⟨hn, by simp⟩
  | st :: pre, nm, hn, hs => by
    have hst := hs st List.mem_cons_self
    have hp := partsOf_len copies st copies
    have h0 := h.cf
    have h00 := (h.each st hst).1
    obtain ⟨h1, h2⟩ := addA_ok (numd (partsOf copies st copies)) hn fun a ha => parts_short (fun o ho => ((h.each st hst).2 o ho).1) (numd_mem ha)
    rw [numd_len] at h2
    obtain ⟨h3, h4⟩ := PbaV.sizes h pre (nm := addS copies nm st) h1 fun s hs' => hs s (List.mem_cons_of_mem _ hs')
    have h5 : szT (addS copies nm st) ≤ szT nm + 24 * (partsOf copies st copies).length := h2
    rw [List.foldl_cons]
    refine ⟨h3, ?_⟩
    simp only [List.length_cons]
    omega
/-- the copies that have the same names, together -/
def foundOf (nm : List (Nm × List Int)) (copies : List Nm) : List (List Int × Lot) := copies.foldl (fun fd c => addTo fd ((getB nm c).getD []) c) []
def partedBy (copies : List Nm) (ss : List (List Lot)) : List Lot := (foundOf (namesOf copies ss) copies).map (·.2)
theorem found_ok {nm : List (Nm × List Int)} : ∀ (l : List Nm) {fd : List (List Int × Lot)}, Uni fd → Uni (l.foldl (fun fd c => addTo fd ((getB nm c).getD []) c) fd) ∧ szT (l.foldl (fun fd c => addTo fd ((getB nm c).getD []) c) fd) ≤ szT fd + 2 * l.length
  | [], fd, hn => ⟨hn, by simp⟩
  | c :: l, fd, hn => by
    obtain ⟨h1, h2⟩ := found_ok l (addTo_uni hn ((getB nm c).getD []) c)
    have h3 := addTo_sz hn ((getB nm c).getD []) c
    rw [List.foldl_cons]
    refine ⟨h1, ?_⟩
    simp only [List.length_cons]
    omega
end Pg
set_option maxHeartbeats 4000000
namespace Pg
open PySem PySem.Spec PyProof.Rows L2 Cf NdefX PySem.W
section
variable {P : Program} {w : World} {K : PySem.W.Frag} {mg : Str → Option Value} {base : Heap} {T : Tb} {C : Addr}
abbrev nO (K : PySem.W.Frag) (nm : List (Nm × List Int)) : AV := .o (dictO (kindN K) tupI nm)
abbrev fO (K : PySem.W.Frag) (fd : List (List Int × Lot)) : AV := .o (dictO kindI (isX K) fd)
abbrev spParted (T : Tb) (K : PySem.W.Frag) : Sp := spF T (fun z : List Nm × List (List Lot) => [(isX K z.1).r, seqR K z.2]) (fun z => PbaV z.1 z.2) fun z => nw (lstSO K (partedBy z.1 z.2))
theorem snoc_foldl {α β : Type} (f : β → α → β) (b : β) (xs : List α) (a : α) : (xs ++ [a]).foldl f b = f (xs.foldl f b) a := by rw [List.foldl_append]; rfl
theorem foldl_eq {α β : Type} {f : β → α → β} {b : β} {xs pre post : List α} {a : α} (h : xs = pre ++ a :: post) : a ∈ xs := by rw [h]; simp
theorem ok_parted_by_all (F : Fdef K mg "parted_by_all" s_parted_by_all) (G : Bl mg) (c1 : Cal P w K mg base 6 "parts_of" (spPartsOf T K)) : Cal P w K mg base 7 "parted_by_all" (spParted T K) := by
  refine cal_of F sc_parted_by_all (fun _ => rfl) (fun _ _ _ _ _ _ us hl => match us, hl with | [_, _], _ => rfl) (fun z f cdv A outer s H E hz hr => ?_)
  have hcf := hz.cf
  refine ss_cons (ρ1 := [.r (isX K z.1).r, .r (seqR K z.2), nO K [], .u, .u, .u, .u, .u]) (s_setN (O := dictO (kindN K) tupI []) 2 sc_parted_by_all.nd n_dictN fun _ _ _ en => en) ?_
  refine ss_cons (ρ1 := [.r (isX K z.1).r, .r (seqR K z.2), nO K (namesOf z.1 z.2), .u, .u, .u, .u, .u]) (s_for (xs := z.2) (gt := is K) (fun pre => [.r (isX K z.1).r, .r (seqR K z.2), nO K (pre.foldl (addS z.1) []), .u, .u, .u, .u, .u]) (fun pre st => [.r (isX K z.1).r, .r (seqR K z.2), nO K (pre.foldl (addS z.1) []), .t (is K st), .u, .u, .u, .u])
    (w_par 1 rfl) (pg_name (i := 3) sc_parted_by_all.nd rfl (by first | exact Or.inl rfl | exact Or.inr rfl)) (Wk.refl _) (js := [3]) (fun pre st post _ => by exact tg_name (i := 3) (P := is K st)) (fun pre st post e => ?_) fun _ _ _ en => en) ?_
  · have hst : st ∈ z.2 := foldl_eq (f := addS z.1) (b := []) e
    obtain ⟨u1, s1⟩ := hz.sizes pre (nm := []) (by unfold Uni; simp) fun x hx => by rw [e]; exact List.mem_append_left _ hx
    have hpre : pre.length ≤ 9 := by
      have h1 := congrArg List.length e
      have h2 := hz.few
      simp only [List.length_append, List.length_cons] at h1
      omega
    have s1' : szT (pre.foldl (addS z.1) []) ≤ 24192 := by
      have : szT ([] : List (Nm × List Int)) = 0 := rfl
      omega
    obtain ⟨nm1, hnm1⟩ : ∃ nm1, nm1 = pre.foldl (addS z.1) [] := ⟨_, rfl⟩
    rw [← hnm1] at u1 s1'
    rw [show (pre ++ [st]).foldl (addS z.1) [] = addS z.1 nm1 st from by rw [snoc_foldl, hnm1]]
    rw [← hnm1]
    have hplen := partsOf_len z.1 st z.1
    have hst1 := (hz.each st hst).1
    refine ss_one (s_for (xs := numd (partsOf z.1 st z.1)) (gt := is K) (fun pre2 => [.r (isX K z.1).r, .r (seqR K z.2), nO K (pre2.foldl addP nm1), .t (is K st), .u, .u, .u, .u]) (fun pre2 a => [.r (isX K z.1).r, .r (seqR K z.2), nO K (pre2.foldl addP nm1), .t (is K st), .t (is K a.1), .t (is K a.2), .u, .u])
      (w_enumT (e_call c1 hr (by omega) (z.1, st, z.1) (hz.part hst) (as_cons (P := (isX K z.1).r) (e_par (P := (isX K z.1).r) 0 rfl) (as_cons (P := (is K st).r) (e_var 3 rfl) (as_cons (P := (is K z.1).r) (e_tupleOf (e_seq (e_ofX (e_par (P := (isX K z.1).r) 0 rfl))) G.tuple) as_nil))) fun _ _ _ _ _ p => p) G.enumerate) (pg_two (i := 4) (j := 5) rfl sc_parted_by_all.nd rfl rfl (Or.inl rfl) (Or.inl rfl) (Or.inl rfl) (Or.inl rfl)) (Wk.refl _) (js := [4, 5]) (fun pre2 a post2 _ => by exact tg_pair (i := 4) (j := 5) (pair_is a)) (fun pre2 a post2 e2 => ?_) fun _ _ _ en => en.weak (.same (.same (.same (.drop (.same (.same (.same (.same .nil)))))))))
    have ha : a ∈ numd (partsOf z.1 st z.1) := foldl_eq (f := addP) (b := nm1) e2
    have hshort : ∀ b ∈ numd (partsOf z.1 st z.1), b.2.length ≤ 12 := fun b hb => parts_short (fun o ho => ((hz.each st hst).2 o ho).1) (numd_mem hb)
    obtain ⟨u2, s2⟩ := addA_ok pre2 u1 fun b hb => hshort b (by rw [e2]; exact List.mem_append_left _ hb)
    have hpre2 : pre2.length ≤ 112 := by
      have h1 := congrArg List.length e2
      rw [numd_len] at h1
      simp only [List.length_append, List.length_cons] at h1
      omega
    obtain ⟨nm2, hnm2⟩ : ∃ nm2, nm2 = pre2.foldl addP nm1 := ⟨_, rfl⟩
    rw [← hnm2] at u2 s2
    rw [show (pre2 ++ [a]).foldl addP nm1 = addP nm2 a from by rw [snoc_foldl, hnm2]]
    rw [← hnm2]
    refine ss_one (s_for (xs := a.2) (gt := is K) (fun pre3 => [.r (isX K z.1).r, .r (seqR K z.2), nO K (pre3.foldl (fun nm c => addTo nm c a.1) nm2), .t (is K st), .t (is K a.1), .t (is K a.2), .u, .u]) (fun pre3 c => [.r (isX K z.1).r, .r (seqR K z.2), nO K (pre3.foldl (fun nm c => addTo nm c a.1) nm2), .t (is K st), .t (is K a.1), .t (is K a.2), .t (is K c), .u])
      (w_tup (e_var 5 rfl)) (pg_name (i := 6) sc_parted_by_all.nd rfl (Or.inl rfl)) (Wk.refl _) (js := [6]) (fun pre3 c post3 _ => by exact tg_name (i := 6) (P := is K c)) (fun pre3 c post3 e3 => ?_) fun _ _ _ en => en.weak (.same (.same (.same (.same (.drop (.drop (.same (.same .nil)))))))))
    have hal := hshort a ha
    obtain ⟨u3, s3⟩ := addL_ok u2 a.1 pre3
    have hpre3 : pre3.length ≤ 12 := by
      have h1 := congrArg List.length e3
      simp only [List.length_append, List.length_cons] at h1
      omega
    obtain ⟨nm3, hnm3⟩ : ∃ nm3, nm3 = pre3.foldl (fun nm c => addTo nm c a.1) nm2 := ⟨_, rfl⟩
    rw [← hnm3] at u3 s3
    rw [show (pre3 ++ [c]).foldl (fun nm c => addTo nm c a.1) nm2 = putB nm3 c ((getB nm3 c).getD [] ++ [a.1]) from by rw [snoc_foldl, hnm3]; rfl]
    rw [← hnm3]
    have hgl := szT_getD nm3 c
    have hnl := szT_len nm3
    refine ss_one (s_dput (D := kindN K) (VP := tupI) (k := c) (x := (getB nm3 c).getD [] ++ [a.1]) 2 hr rfl (e_var (P := is K c) 6 rfl) (e_tupI (sp_cast (sp_star (xs := (getB nm3 c).getD []) (e_dgetD (D := kindN K) (VP := tupI) (kvs := nm3) (k := c) (Pz := is K ([] : List Int)) 2 hr rfl (e_var (P := is K c) 6 rfl) e_tup0 (fun x v H h1 h2 => by rw [h1]; exact is_of_tupI h2) (fun v H h1 h2 => by rw [h1]; exact h2)) (sp_one (d := enc a.1) (e_var (P := is K a.1) 4 rfl) (Enc.pure a.1) sp_nil)) (encs_snoc _ _).symm) (by rw [List.length_append]; simp only [List.length_cons, List.length_nil]; omega)) (by omega) fun _ _ _ en => en.weak (.same (.same (.same (.same (.same (.same (.drop (.same .nil)))))))))
  refine ss_cons (ρ1 := [.r (isX K z.1).r, .r (seqR K z.2), nO K (namesOf z.1 z.2), .u, .u, .u, .u, fO K []]) (s_setN (O := dictO kindI (isX K) []) 7 sc_parted_by_all.nd n_dictI fun _ _ _ en => en) ?_
  refine ss_cons (ρ1 := [.r (isX K z.1).r, .r (seqR K z.2), nO K (namesOf z.1 z.2), .u, .u, .u, .u, fO K (foundOf (namesOf z.1 z.2) z.1)]) (s_for (xs := z.1) (gt := is K) (fun pre => [.r (isX K z.1).r, .r (seqR K z.2), nO K (namesOf z.1 z.2), .u, .u, .u, .u, fO K (foundOf (namesOf z.1 z.2) pre)]) (fun pre c => [.r (isX K z.1).r, .r (seqR K z.2), nO K (namesOf z.1 z.2), .u, .u, .u, .t (is K c), fO K (foundOf (namesOf z.1 z.2) pre)])
    (w_tup (e_ofX (e_par (P := (isX K z.1).r) 0 rfl))) (pg_name (i := 6) sc_parted_by_all.nd rfl (Or.inl rfl)) (Wk.refl _) (js := [6]) (fun pre c post _ => by exact tg_name (i := 6) (P := is K c)) (fun pre c post e => ?_) fun _ _ _ en => en) ?_
  · have hc : c ∈ z.1 := by rw [e]; simp
    obtain ⟨k, hk⟩ := Option.isSome_iff_exists.mp (hz.all c hc)
    obtain ⟨u1, s1⟩ := found_ok (nm := namesOf z.1 z.2) pre (fd := []) (by unfold Uni; simp)
    have hpre : pre.length ≤ 12 := by
      have h1 := congrArg List.length e
      simp only [List.length_append, List.length_cons] at h1
      omega
    have s1 : szT (foundOf (namesOf z.1 z.2) pre) ≤ 24 := by
      have h0 : szT ([] : List (List Int × Lot)) = 0 := rfl
      rw [h0] at s1
      have : szT (foundOf (namesOf z.1 z.2) pre) ≤ 0 + 2 * pre.length := s1
      omega
    obtain ⟨fd, hfd⟩ : ∃ fd, fd = foundOf (namesOf z.1 z.2) pre := ⟨_, rfl⟩
    rw [show foundOf (namesOf z.1 z.2) (pre ++ [c]) = putB fd k ((getB fd k).getD [] ++ [c]) from by unfold foundOf; rw [snoc_foldl, hk, hfd]; rfl]
    rw [← hfd] at s1
    rw [← hfd]
    have hgl := szT_getD fd k
    have hnl := szT_len fd
    refine ss_one (s_dput (D := kindI) (VP := isX K) (k := k) (x := (getB fd k).getD [] ++ [c]) 7 hr rfl (e_dget (D := kindN K) (VP := tupI) (k := c) (x := k) 2 hr rfl (e_var (P := is K c) 6 rfl) hk) (e_tupS (sp_cast (sp_star (xs := (getB fd k).getD []) (e_dgetD (D := kindI) (VP := isX K) (kvs := fd) (k := k) (Pz := is K ([] : List Nm)) 7 hr rfl (e_dget (D := kindN K) (VP := tupI) (k := c) (x := k) 2 hr rfl (e_var (P := is K c) 6 rfl) hk) e_tup0 (fun x v H h1 h2 => by rw [h1]; exact is_of_X h2) (fun v H h1 h2 => by rw [h1]; exact h2)) (sp_one (d := enc c) (e_var (P := is K c) 6 rfl) (Enc.pure c) sp_nil)) (encs_snoc _ _).symm) (by rw [List.length_append]; simp only [List.length_cons, List.length_nil]; omega)) (by omega) fun _ _ _ en => en.weak (.same (.same (.same (.same (.same (.same (.drop (.same .nil)))))))))
  · exact ss_one (s_retN (n_valsL 7 rfl G.list) fun v S H hS _ p => ⟨S, hS, p⟩)
end
end Pg
set_option maxHeartbeats 4000000
namespace Cf
open PySem PySem.Spec PyProof.Rows L2 PySem.W
/-- a def x under the global name g -/
structure Fdef2 (K : PySem.W.Frag) (mg : Str → Option Value) (g x : Str) (st : Stmt) : Prop where
  ex : ∃ f fd, FunD K x x (defArgs st) (defBody st) (defScope st) [] [] f fd ∧ mg g = some (.ref f)
theorem cal_of2 {P : Program} {w : World} {K : PySem.W.Frag} {mg : Str → Option Value} {base : Heap} {T : Tb} {ζ : Type} {Ps : ζ → List RP} {φ : ζ → Prop} {Pf : ζ → Hp → V → Hp → Prop} {g x : Str} {st : Stmt} {N ps : List Str} {k : Nat} (F : Fdef2 K mg g x st) (S : FnScope N ps (defScope st)) (hlen : ∀ z, (Ps z).length = ps.length)
    (hb : ∀ (kV doc pm : Value) (an : Option Addr) (cdv ct : Value) (us : List Value), us.length = ps.length → bindArgs (PySem.W.fnOf x x (defArgs st) (defBody st) (defScope st) .none kV doc pm an cdv ct) ⟨us, []⟩ = pure (ps.zip us))
    (body : ∀ z f cdv A outer s H E, φ z → Room k (A.deeper (envOfC x (defScope st) s.heap.objs.size f cdv)) → Ss T H (Bx P w K mg base N x st f cdv A outer s H E) (ent (N.length - ps.length) (Ps z)) (defBody st) { rt := Pf z H, nx := fun H0 σ H' => Ex T H H' ∧ Pf z H .non H' }) :
    Cal P w K mg base (k + 1) g (spF T Ps φ Pf) := by
  obtain ⟨f, fd, F, hm⟩ := F.ex
  have hle : ps.length ≤ N.length := by
    have := congrArg List.length S.pre
    rw [List.length_take] at this
    omega
  refine ⟨f, fd, ps, F.ok S (fun vs H Q E ⟨z, _, h, _⟩ => (allP_len h).trans (hlen z)) (fun cdv A outer s H vs Q E hr ⟨z, hz, h, hT, q⟩ => ?_), hm, F.kp, F.bindsN hb⟩
  refine ⟨_, (body z f cdv A outer s H E hz hr).nox, H, ?_, fun σ' H' h => q _ H' h.1 h.2, fun v H' x p => q v H' x p, fun _ _ z => z.elim, fun _ _ z => z.elim⟩
  rw [← hlen z]
  exact en_start hT h (by rw [hlen z]; exact hle)
end Cf
namespace Pg
open PySem PySem.Spec PyProof.Rows L2 Cf NdefX PySem.W
section
variable {P : Program} {w : World} {K : PySem.W.Frag} {mg : Str → Option Value} {base : Heap} {T : Tb} {C : Addr}
/-! ### common_lots -/
def isBig (lot : Lot) : Bool := decide ((1 : Int) < ((lot.length : Nat) : Int))
def commonL : Nat → List Nm → List (List Lot) → List Lot
  | 0, copies, _ => [copies]
  | n + 1, copies, ss => copies :: (partedBy copies ss).flatMap fun lot => if isBig lot = true then commonL n lot (ss.map fun st => cutDown st lot) else []
def CmV : Nat → List Nm → List (List Lot) → Prop
  | 0, _, _ => False
  | n + 1, copies, ss => PbaV copies ss ∧ (commonL (n + 1) copies ss).length ≤ 900 ∧ ∀ lot ∈ partedBy copies ss, isBig lot = true → lot.length ≤ 12 ∧ CmV n lot (ss.map fun st => cutDown st lot)
abbrev spCommonL (n : Nat) (T : Tb) (K : PySem.W.Frag) : Sp := spF T (fun z : List Nm × List (List Lot) => [(isX K z.1).r, seqR K z.2]) (fun z => CmV n z.1 z.2) fun z => nw (lstO K (commonL n z.1 z.2))
theorem ok_common_lots0 (F : Fdef K mg "common_lots" s_common_lots) : Cal P w K mg base 9 "common_lots" (spCommonL 0 T K) :=
  cal_of F sc_common_lots (fun _ => rfl) (fun _ _ _ _ _ _ us hl => match us, hl with | [_, _], _ => rfl) fun z f cdv A outer s H E hz hr => hz.elim
theorem ok_common_lots1 {n j : Nat} (hj : 9 ≤ j) (F : Fdef K mg "common_lots" s_common_lots) (G : Bl mg) (c0 : Cal P w K mg base j "common_lots" (spCommonL n T K)) (c1 : Cal P w K mg base 7 "parted_by_all" (spParted T K)) (c2 : Cal P w K mg base 8 "cut_down" (spCutDown T K)) : Cal P w K mg base (j + 1) "common_lots" (spCommonL (n + 1) T K) := by
  refine cal_of F sc_common_lots (fun _ => rfl) (fun _ _ _ _ _ _ us hl => match us, hl with | [_, _], _ => rfl) (fun z f cdv A outer s H E hz hr => ?_)
  obtain ⟨hz1, hz2, hz3⟩ := hz
  obtain ⟨g, hg⟩ : ∃ g : Lot → List Lot, g = fun lot => if isBig lot = true then commonL n lot (z.2.map fun st => cutDown st lot) else [] := ⟨_, rfl⟩
  have ec : commonL (n + 1) z.1 z.2 = z.1 :: (partedBy z.1 z.2).flatMap g := by rw [hg]; rfl
  rw [ec] at hz2
  refine ss_cons (ρ1 := [.r (isX K z.1).r, .r (seqR K z.2), .o (lstO K [z.1]), .u, .u]) (s_setN (O := lstO K [z.1]) 2 sc_common_lots.nd (n_lst1 (e_tupleOf (e_seq (e_ofX (e_par (P := (isX K z.1).r) 0 rfl))) G.tuple)) fun _ _ _ en => en) ?_
  refine ss_cons (ρ1 := [.r (isX K z.1).r, .r (seqR K z.2), .o (lstO K (z.1 :: (partedBy z.1 z.2).flatMap g)), .u, .u]) (s_for (xs := partedBy z.1 z.2) (gt := isX K) (fun pre => [.r (isX K z.1).r, .r (seqR K z.2), .o (lstO K (z.1 :: pre.flatMap g)), .u, .u]) (fun pre lot => [.r (isX K z.1).r, .r (seqR K z.2), .o (lstO K (z.1 :: pre.flatMap g)), .t (isX K lot), .u])
    (w_newS (n_call c1 hr (by omega) z hz1 (as_cons (P := (isX K z.1).r) (e_par (P := (isX K z.1).r) 0 rfl) (as_cons (P := seqR K z.2) (e_par 1 rfl) as_nil)) fun _ _ _ p => p)) (pg_name (i := 3) sc_common_lots.nd rfl (by first | exact Or.inl rfl | exact Or.inr rfl)) (Wk.refl _) (js := [3]) (fun pre lot post _ => by exact tg_name (i := 3) (P := isX K lot)) (fun pre lot post e => ?_) fun _ _ _ en => en) ?_
  · have hlot : lot ∈ partedBy z.1 z.2 := by rw [e]; simp
    have hlen : (z.1 :: pre.flatMap g).length + (g lot).length ≤ 900 := by
      rw [e] at hz2
      simp only [List.flatMap_append, List.flatMap_cons, List.length_cons, List.length_append] at hz2
      simp only [List.length_cons]
      omega
    have e2 : z.1 :: (pre ++ [lot]).flatMap g = (z.1 :: pre.flatMap g) ++ g lot := by rw [flatMap_snoc]; rfl
    rw [show (En1 T H [.r (isX K z.1).r, .r (seqR K z.2), .o (lstO K (z.1 :: (pre ++ [lot]).flatMap g)), .u, .u]) = (En1 T H [.r (isX K z.1).r, .r (seqR K z.2), .o (lstO K ((z.1 :: pre.flatMap g) ++ g lot)), .u, .u]) from by rw [e2]]
    refine ss_one (s_if (k := isBig lot) (b_cm (c_gt (e_len (e_seq (e_ofX (e_var (P := isX K lot) 3 rfl))) G.len) e_int)) (fun hb => ?_) fun hb => ss_nil fun _ _ _ en => ?_)
    · obtain ⟨h1, h2⟩ := hz3 lot hlot hb
      have eg : g lot = commonL n lot (z.2.map fun st => cutDown st lot) := by rw [hg]; exact if_pos hb
      rw [eg] at hlen ⊢
      refine ss_one (s_extendL (ys := commonL n lot (z.2.map fun st => cutDown st lot)) 2 rfl (by omega) (e_newX (n_call c0 hr (by omega) (lot, z.2.map fun st => cutDown st lot) h2 (as_cons (P := (isX K lot).r) (e_var (P := isX K lot) 3 rfl) (as_cons (P := seqR K (z.2.map fun st => cutDown st lot))
        (e_newS (n_lcM (gt := is K) 4 [("stemma", 4)] (fun st => cutDown st lot) (w_par 1 rfl) sc_common_lots.nd (blkOk_by (N := N_common_lots) (sc := defScope s_common_lots) (by decide +kernel)) (by have := hz1.few; omega)
          (fun _ _ _ _ _ => pg_name (i := 4) sc_common_lots.nd rfl (Or.inl rfl)) (fun _ _ _ _ _ st hst => by
            have h3 := (hz1.each st hst).1
            exact e_call c2 hr (by omega) (z.1, st, lot) ⟨Nat.le_trans h3 (by decide), Nat.le_trans h1 (by decide)⟩ (as_cons (P := (isX K z.1).r) (e_par (P := (isX K z.1).r) 0 rfl) (as_cons (P := (is K st).r) (e_var 4 rfl) (as_cons (P := (isX K lot).r) (e_var (P := isX K lot) 3 rfl) as_nil))) fun _ _ _ _ _ p => p)))
        as_nil)) fun _ _ _ p => p)) fun _ _ _ en => en.weak (.same (.same (.same (.drop (.same .nil))))))
    · have eg : g lot = [] := by rw [hg]; exact if_neg (by rw [hb]; exact Bool.false_ne_true)
      rw [eg, List.append_nil]
      exact en.weak (.same (.same (.same (.drop (.same .nil)))))
  · rw [← ec]
    exact ss_one (s_retO 2 rfl fun v S H hS _ p => ⟨S, hS, p⟩)
theorem ok_common_lots (F : Fdef K mg "common_lots" s_common_lots) (G : Bl mg) (c1 : Cal P w K mg base 7 "parted_by_all" (spParted T K)) (c2 : Cal P w K mg base 8 "cut_down" (spCutDown T K)) : ∀ n, Cal P w K mg base (9 + n) "common_lots" (spCommonL n T K)
  | 0 => ok_common_lots0 F
  | n + 1 => ok_common_lots1 (Nat.le_add_right 9 n) F G (ok_common_lots F G c1 c2 n) c1 c2
/-! ### common -/
def commonOf (copies : List Nm) (ss : List (List Lot)) : List Lot := stemmaOf copies (commonL 12 copies ss)
abbrev spCommon (T : Tb) (K : PySem.W.Frag) (C : Addr) : Sp := spF T (fun z : List Nm × List (List Lot) => [(shP K C z.1).r, (is K z.2).r]) (fun z => MidV z.1 z.2 ∧ 2 ≤ z.1.length ∧ CmV 12 z.1 z.2 ∧ LotsOk z.1 (commonL 12 z.1 z.2)) fun z _ => (is K (commonOf z.1 z.2)).p
theorem ok_common (F : Fdef2 K mg "common_middles" "common" s_common_56) (G : Bl mg) (S : ShF P w K mg base C) (c1 : Cal P w K mg base 10 "check_stemmata" (spCheckStems T K C)) (c2 : Cal P w K mg base 21 "common_lots" (spCommonL 12 T K)) (c3 : Cal P w K mg base 7 "stemma_of" (spStemmaOf T K)) : Cal P w K mg base 22 "common_middles" (spCommon T K C) := by
  refine cal_of2 F sc_common_56 (fun _ => rfl) (fun _ _ _ _ _ _ us hl => match us, hl with | [_, _], _ => rfl) (fun z f cdv A outer s H E hz hr => ?_)
  obtain ⟨hz1, hz2, hz3, hz4⟩ := hz
  have hs := hz1.some
  refine ss_cons (ρ1 := ent 0 [(shP K C z.1).r, (is K z.2).r]) (s_expr (e_call c1 hr (by omega) z hz1.st (as_cons (e_par (P := (shP K C z.1).r) 0 rfl) (as_cons (e_par (P := (is K z.2).r) 1 rfl) as_nil)) fun _ _ _ _ _ p => p) fun _ _ _ en => en) ?_
  refine ss_cons (ρ1 := ent 0 [(shP K C z.1).r, (is K z.2).r]) (s_if (k := false) (b_eq (b_cm (c_eq (x := ((z.1.length : Nat) : Int)) (y := (1 : Int)) hr (by decide) (e_len (e_seq (e_ofX (e_prop S (e_par (P := (shP K C z.1).r) 0 rfl) hr (by omega)))) G.len) e_int)) (decide_eq_false (by omega))) (fun h => by cases h) fun _ => ss_nil fun _ _ _ en => en) ?_
  exact ss_one (s_ret (e_call c3 hr (by omega) (z.1, commonL 12 z.1 z.2) ⟨Nat.le_trans hs.cf (by decide), hz3.2.1, hz4⟩ (as_cons (P := (isX K z.1).r) (e_prop S (e_par (P := (shP K C z.1).r) 0 rfl) hr (by omega))
    (as_cons (e_newS (n_call c2 hr (by omega) z hz3 (as_cons (P := (isX K z.1).r) (e_prop S (e_par (P := (shP K C z.1).r) 0 rfl) hr (by omega)) (as_cons (P := seqR K z.2) (e_seq (e_par (P := (is K z.2).r) 1 rfl)) as_nil)) fun _ _ _ p => p)) as_nil)) fun _ _ _ _ _ p => p) fun v H _ p => p)
end
end Pg
set_option maxHeartbeats 4000000
namespace Pg
open PySem PySem.Spec PyProof.Rows L2 Cf NdefX PySem.W
/-- the text's constants -/
structure Gc (mg : Str → Option Value) : Prop where
  letters : ∃ t, mg "LETTERS" = some (.str "abcdefghijklmnopqrstuvwxyz" t)
  figures : ∃ t, mg "FIGURES_words" = some (.str "0123456789" t)
  signs : ∃ t, mg "MOST_SIGNS" = some (.int 8 t)
  copies : ∃ t, mg "MOST_COPIES" = some (.int 12 t)
  copy : ∃ t, mg "COPY" = some (.str "copy" t)
  stemmata : ∃ t, mg "MOST_STEMMATA" = some (.int 9 t)
  stemma : ∃ t, mg "STEMMA" = some (.str "stemma" t)
abbrev nmLetters : Nm := ⟨"abcdefghijklmnopqrstuvwxyz", by decide +kernel⟩
abbrev nmFigures : Nm := ⟨"0123456789", by decide +kernel⟩
abbrev nmCopy : Nm := ⟨"copy", by decide +kernel⟩
structure NameOk (y : Nm) : Prop where
  pos : 0 < y.1.length
  few : y.1.length ≤ 8
  fst : ∃ c, (cps y)[0]? = some c ∧ c ∈ cps nmLetters
  all : ∀ c ∈ cps y, c ∈ cps nmLetters ∨ c ∈ cps nmFigures
section
variable {P : Program} {w : World} {K : PySem.W.Frag} {mg : Str → Option Value} {base : Heap} {T : Tb} {Cr Cs : Addr}
/-! ### is_name -/
abbrev spIsName (T : Tb) (K : PySem.W.Frag) : Sp := spF T (fun z : Nm => [(is K z).r]) (fun z => NameOk z) fun z _ => (is K true).p
theorem ok_is_name (F : Fdef K mg "is_name" s_is_name) (G : Bl mg) (Q : Gc mg) : Cal P w K mg base 1 "is_name" (spIsName T K) := by
  refine cal_of F sc_is_name (fun _ => rfl) (fun _ _ _ _ _ _ us hl => match us, hl with | [_], _ => rfl) (fun z f cdv A outer s H E hz hr => ?_)
  have h1 := hz.pos
  have h2 := hz.few
  obtain ⟨c0, h3, h4⟩ := hz.fst
  have hcl : (cps z).length ≤ 1000000 := by
    have e : (cps z).length = z.1.length := by simp [Str.length]
    omega
  refine ss_cons (ρ1 := ent 1 [(is K z).r]) (s_if (k := false) (b_eq (b_w (bw_or (k := false) (l := false) (b_eq (b_not (b_val (e_isi (P := (is K z).r) (k := true) (t := "str") (ty := "str") (e_par 0 rfl) (fun v H h => ty_nm h) rfl G.isinstance G.str rfl))) rfl)
    fun _ => bw_or (k := false) (l := false) (b_eq (b_not (b_cm (c_chain (f := fun i j => decide (i < j)) (f' := fun i j => decide (i ≤ j)) (x := 0) (y := ((z.1.length : Nat) : Int)) (z := 8) op_lt op_le e_int (e_lenS (by omega) (e_par (P := (is K z).r) 0 rfl) G.len) (e_globI Q.signs)))) ?_)
    fun _ => bw_or1 (b_eq (b_cm (c_niS (c := c0) (z := nmLetters) (e_ixS (y := z) (i := 0) (e_par (P := (is K z).r) 0 rfl) e_int (by omega) h3) (e_globS nmLetters Q.letters))) (by rw [decide_eq_true h4]; rfl)))) rfl)
    (fun h => by cases h) fun _ => ss_nil fun _ _ _ en => en) ?_
  · rw [decide_eq_true (show (0 : Int) < ((z.1.length : Nat) : Int) by omega), decide_eq_true (show ((z.1.length : Nat) : Int) ≤ 8 by omega)]
    rfl
  · refine ss_one (s_ret (e_cast (f := fun b : Bool => (is K b).p) (e_all (bs := (cps z).map fun c => decide (c ∈ cps nmLetters) || decide (c ∈ cps nmFigures)) (e_newL (n_lcM (gt := isS) 1 [("sign", 1)] (fun c => decide (c ∈ cps nmLetters) || decide (c ∈ cps nmFigures)) (w_signs (e_par (P := (is K z).r) 0 rfl)) sc_is_name.nd (blkOk_by (N := N_is_name) (sc := defScope s_is_name) (by decide +kernel)) hcl
      (fun _ _ _ _ _ => pg_name (i := 1) sc_is_name.nd rfl (Or.inl rfl)) (fun _ _ _ _ _ c hc => by exact e_or (e_cm (c_inS (z := nmLetters) (e_var (P := isS c) 1 rfl) (e_globS nmLetters Q.letters))) fun _ => e_and1 (e_cm (c_inS (z := nmFigures) (e_var (P := isS c) 1 rfl) (e_globS nmFigures Q.figures)))))) G.all) ?_) fun v H _ p => p)
    rw [all_map, List.all_eq_true]
    intro c hc
    rcases hz.all c hc with h | h
    · rw [decide_eq_true h]
      rfl
    · rw [decide_eq_true h, Bool.or_true]
/-! ### the reader -/
abbrev rdFs (l1 l2 : Addr) : List (Str × V) := [("own_copies", .ref l1), ("own_places", .ref l2)]
abbrev txs (xs : List Nm) : List V := (xs.map (·.1)).map V.str
/-- a reader that took these -/
structure RdAt (Cr x dx l1 l2 : Addr) (H : Hp) (cs : List Nm) : Prop where
  ins : H x = some (.ins Cr dx (rdFs l1 l2))
  h1 : H l1 = some (.lst (txs cs))
  h2 : H l2 = some (.lst [])
  ne : l1 ≠ l2
theorem RdAt.ext {x dx l1 l2 : Addr} {H H' : Hp} {cs : List Nm} (h : RdAt Cr x dx l1 l2 H cs) (e : LamX.ExtN H H') : RdAt Cr x dx l1 l2 H' cs :=
  ⟨e _ _ h.ins (fun ps z => by cases z), e _ _ h.h1 (fun ps z => by cases z), e _ _ h.h2 (fun ps z => by cases z), h.ne⟩
def rdR (Cr x dx l1 l2 : Addr) (cs : List Nm) : RP := ⟨fun v H => v = .ref x ∧ RdAt Cr x dx l1 l2 H cs, fun v H H' e h => ⟨h.1, h.2.ext e⟩⟩
structure RdF (K : PySem.W.Frag) (mg : Str → Option Value) (Cr : Addr) : Prop where
  nm : mg "Reader" = some (.ref Cr)
  cls : Cls K Cr
  a1 : NoAttr K Cr "own_copies"
  a2 : NoAttr K Cr "own_places"
  init : ∃ f fd, FunD K "__init__" "Reader.__init__" (defArgs s_Reader_init) (defBody s_Reader_init) (defScope s_Reader_init) [] [] f fd ∧ L2.Mk K Cr f
  takes : MtD K Cr "takes" "Reader.takes" s_Reader_takes
  copy : MtD K Cr "takes_copy" "Reader.takes_copy" s_Reader_takes_copy
  found : MtD K Cr "found" "Reader.found" s_Reader_found
theorem dps_nil_nm {H : Hp} : DpAll K H ([] : List V) (encs ([] : List Nm)) := .nil
section
variable {R : Hp} {X : Cx} {ρ : List AV} {o : Expr} {pos : Pos} {x dx l1 l2 : Addr} {cs : List Nm}
theorem e_rdCopies (F : RdF X.K mg Cr) (h : Cf.E T R X ρ o (rdR Cr x dx l1 l2 cs).p) (hb : attributeBase o "own_copies" X.env (eval o X.env) = eval o X.env := by rfl) : Cf.E T R X ρ (.Attribute o "own_copies" pos) (lstX X.K cs).p :=
  e_fld h F.cls F.a1 (fun v H ⟨e, p⟩ => ⟨x, dx, _, .ref l1, e, p.ins, rfl, l1, _, rfl, p.h1, dps_ofStrs cs⟩) hb
theorem e_rdPlaces (F : RdF X.K mg Cr) (h : Cf.E T R X ρ o (rdR Cr x dx l1 l2 cs).p) (hb : attributeBase o "own_places" X.env (eval o X.env) = eval o X.env := by rfl) : Cf.E T R X ρ (.Attribute o "own_places" pos) (lstX X.K ([] : List Nm)).p :=
  e_fld h F.cls F.a2 (fun v H ⟨e, p⟩ => ⟨x, dx, _, .ref l2, e, p.ins, rfl, l2, _, rfl, p.h2, .nil⟩) hb
theorem lst_of_X {xs : List Nm} {v : V} {H : Hp} (h : (lstX K xs).p v H) : (lstR K xs).p v H := by
  obtain ⟨l, vs, h1, h2, h3⟩ := h
  exact ⟨l, vs, h1, SqL.of h2, h3⟩
theorem e_XL {xs : List Nm} {e : Expr} (h : Cf.E T R X ρ e (lstX X.K xs).p) : Cf.E T R X ρ e (lstR X.K xs).p := e_imp h fun _ _ _ p => lst_of_X p
end
/-- found() -/
abbrev spRdFound (T : Tb) (K : PySem.W.Frag) (Cr : Addr) : Sp := spF T (fun z : (Addr × Addr × Addr × Addr) × List Nm => [rdR Cr z.1.1 z.1.2.1 z.1.2.2.1 z.1.2.2.2 z.2]) (fun _ => True) fun z _ => (pairP K (isX K z.2) (is K ([] : List Nm))).p
theorem ok_rd_found (F : RdF K mg Cr) (G : Bl mg) : Mt P w K mg base Cr 1 "found" (spRdFound T K Cr) := by
  refine mtE_of F.found sc_Reader_found (fun _ => rfl) (fun _ _ _ _ _ _ us hl => match us, hl with | [_], _ => rfl) (fun z f cdv A outer s H E hz hr => ?_)
  exact ss_one (s_ret (e_pairP (e_tupleX (e_XL (e_rdCopies F (e_par 0 rfl))) G.tuple) (e_tupleOf (e_seqL (e_XL (e_rdPlaces F (e_par 0 rfl)))) G.tuple)) fun v H _ p => p)
/-- takes_copy(words) -/
abbrev spRdCopy (T : Tb) (K : PySem.W.Frag) (Cr : Addr) : Sp := fun vs H Q _ => ∃ (x dx l1 l2 lw : Addr) (cs : List Nm) (nm : Nm), vs = [.ref x, .ref lw] ∧ RdAt Cr x dx l1 l2 H cs ∧ (lstR K [nmCopy, nm]).p (.ref lw) H ∧ NameOk nm ∧ nm ∉ cs ∧ cs.length < 12 ∧ LamX.Tabs T H ∧
  ∀ H', Ex T H H' → Q (.bl true) (upd H' l1 (.lst (txs (cs ++ [nm]))))
theorem txs_snoc (cs : List Nm) (nm : Nm) : txs (cs ++ [nm]) = txs cs ++ [.str nm.1] := by unfold txs; simp
theorem ok_rd_copy (F : RdF K mg Cr) (G : Bl mg) (Q : Gc mg) (c1 : Cal P w K mg base 1 "is_name" (spIsName T K)) : Mt P w K mg base Cr 2 "takes_copy" (spRdCopy T K Cr) := by
  refine mt_of F.copy sc_Reader_takes_copy (fun vs H Q E ⟨_, _, _, _, _, _, _, e, _⟩ => by rw [e]; rfl) (fun _ _ _ _ _ _ us hl => match us, hl with | [_, _], _ => rfl) (fun f cdv A outer s H vs Qk E hr h => ?_)
  obtain ⟨x, dx, l1, l2, lw, cs, nm, rfl, hrd, hw, hn1, hn2, hn3, hT, q⟩ := h
  have st1 : S T H (Bq P w K mg base N_Reader_takes_copy "Reader.takes_copy" s_Reader_takes_copy f cdv A outer s H E) [.r (rdR Cr x dx l1 l2 cs), .r (lstR K [nmCopy, nm])] ((defBody s_Reader_takes_copy).getD 0 (.Pass ⟨0, 0, 0, 0⟩)) { nx := En1 T H [.r (rdR Cr x dx l1 l2 cs), .r (lstR K [nmCopy, nm])] } :=
    s_if (k := false) (b_eq (b_w (bw_or (k := false) (l := false) (b_eq (b_cm (c_ne (x := (([nmCopy, nm].length : Nat) : Int)) (y := (2 : Int)) hr (by decide) (e_len (e_seqL (e_par (P := lstR K [nmCopy, nm]) 1 rfl)) G.len) e_int)) rfl)
      fun _ => bw_or (k := false) (l := false) (b_eq (b_cm (c_neL (x := ([] : List Nm)) (y := ([] : List Nm)) hr (by decide) (e_XL (e_rdPlaces F (e_par 0 rfl))) (e_newL n_lst0))) rfl)
      fun _ => bw_or1 (b_eq (b_cm (c_eq (x := ((cs.length : Nat) : Int)) (y := (12 : Int)) hr (by decide) (e_len (e_seqL (e_XL (e_rdCopies F (e_par 0 rfl)))) G.len) (e_globI Q.copies))) (decide_eq_false (by omega))))) rfl)
      (fun h => by cases h) fun _ => ss_nil fun _ _ _ en => en
  have st2 : S T H (Bq P w K mg base N_Reader_takes_copy "Reader.takes_copy" s_Reader_takes_copy f cdv A outer s H E) [.r (rdR Cr x dx l1 l2 cs), .r (lstR K [nmCopy, nm])] ((defBody s_Reader_takes_copy).getD 1 (.Pass ⟨0, 0, 0, 0⟩)) { nx := En1 T H [.r (rdR Cr x dx l1 l2 cs), .r (lstR K [nmCopy, nm])] } :=
    s_if (k := false) (b_eq (b_w (bw_or (k := false) (l := false) (b_eq (b_not (b_val (k := true) (e_call c1 hr (by omega) nm hn1 (as_cons (P := (is K nm).r) (e_ixL (xs := [nmCopy, nm]) (i := 1) (e_par (P := lstR K [nmCopy, nm]) 1 rfl) e_int rfl) as_nil) fun _ _ _ _ _ p => p))) rfl)
      fun _ => bw_or1 (b_eq (b_cm (c_in (x := nm) (xs := cs) hr (by decide) (e_ixL (xs := [nmCopy, nm]) (i := 1) (e_par (P := lstR K [nmCopy, nm]) 1 rfl) e_int rfl) (e_seqL (e_XL (e_rdCopies F (e_par 0 rfl)))))) (memb_not.mpr hn2)))) rfl)
      (fun h => by cases h) fun _ => ss_nil fun _ _ _ en => en
  have hS : sizeLine = 16777216 := sizeLine_eq
  refine ⟨_, pss_cons st1 (pss_cons st2 (pss_cons (ps_expr (pe_bm PySem.F.plainAttrs_list PySem.F.slot_list_append PySem.F.type_list_append (r := rAppend) (fun pins s σ H x xs v us Q I r1 r2 h => mt_append pins s σ H x xs v us Q I r1 r2 h) (pe_fld (pe_var (i := 0) rfl (Or.inl rfl)) rfl) (as_one (T := T) (R := H) (ρ := [.r (rdR Cr x dx l1 l2 cs), .r (lstR K [nmCopy, nm])]) (P := (is K nm).r) (e_ixL (xs := [nmCopy, nm]) (i := 1) (e_par (P := lstR K [nmCopy, nm]) 1 rfl) e_int rfl) rfl))) (pss_one (ps_ret pe_bl)))), ?_⟩
  refine ⟨H, en_start (N := N_Reader_takes_copy) (Ps := [rdR Cr x dx l1 l2 cs, lstR K [nmCopy, nm]]) hT ⟨⟨rfl, hrd⟩, hw, trivial⟩ (Nat.le_refl 2), fun σ1 H1 en1 => ⟨H, en1, fun σ2 H2 en2 => ?_, fun _ _ _ z => z.elim, fun _ _ z => z.elim, fun _ _ z => z.elim⟩, fun _ _ _ z => z.elim, fun _ _ z => z.elim, fun _ _ z => z.elim⟩
  obtain ⟨_, v0, g1, rfl, g2⟩ := en2.slot (i := 0) rfl
  have g3 := g2.ext en2.exR.ext
  refine ⟨.ref x, g1, x, Cr, dx, _, .ref l1, rfl, g3.ins, F.cls, F.a1, rfl, .inl ⟨rfl, _, SqL.of g3.h1⟩, ⟨H, en2⟩, fun us H3 x3 p3 => ?_⟩
  obtain ⟨u, rfl, hu⟩ := allP1 p3
  have g4 := g3.ext x3.ext
  refine ⟨l1, txs cs, u, rfl, rfl, g4.h1, by simp only [List.length_map]; omega, ?_⟩
  rw [is_nm.mp hu, ← txs_snoc]
  exact q H3 (en2.exR.trans x3)
abbrev ifC : Stmt → Expr
  | .If c _ _ _ => c
  | _ => .Constant .none 0 ⟨0, 0, 0, 0⟩
/-- takes(line) -/
abbrev spRdTakes (T : Tb) (K : PySem.W.Frag) (Cr : Addr) : Sp := fun vs H Q _ => ∃ (x dx l1 l2 : Addr) (cs : List Nm) (nm ln : Nm), vs = [.ref x, .str ln.1] ∧ RdAt Cr x dx l1 l2 H cs ∧ ln.1.length ≤ 1000 ∧ Txt.split ln.1 " " = [nmCopy, nm].map (·.1) ∧ NameOk nm ∧ nm ∉ cs ∧ cs.length < 12 ∧ LamX.Tabs T H ∧
  ∀ H', Ex T H H' → Q (.bl true) (upd H' l1 (.lst (txs (cs ++ [nm]))))
abbrev nmBlank : Nm := ⟨" ", by decide +kernel⟩
theorem ok_rd_takes (F : RdF K mg Cr) (Q : Gc mg) (c1 : Mt P w K mg base Cr 2 "takes_copy" (spRdCopy T K Cr)) : Mt P w K mg base Cr 3 "takes" (spRdTakes T K Cr) := by
  refine mt_of F.takes sc_Reader_takes (fun vs H Q E ⟨_, _, _, _, _, _, _, e, _⟩ => by rw [e]; rfl) (fun _ _ _ _ _ _ us hl => match us, hl with | [_, _], _ => rfl) (fun f cdv A outer s H vs Qk E hr h => ?_)
  obtain ⟨x, dx, l1, l2, cs, nm, ln, rfl, hrd, hll, hsp, hn1, hn2, hn3, hT, q⟩ := h
  have st1 : S T H (Bq P w K mg base N_Reader_takes "Reader.takes" s_Reader_takes f cdv A outer s H E) [.r (rdR Cr x dx l1 l2 cs), .r (is K ln).r, .u] ((defBody s_Reader_takes).getD 0 (.Pass ⟨0, 0, 0, 0⟩)) { nx := En1 T H [.r (rdR Cr x dx l1 l2 cs), .r (is K ln).r, .o (lstO K [nmCopy, nm])] } :=
    s_setN (O := lstO K [nmCopy, nm]) 2 sc_Reader_takes.nd (n_split (y := nmBlank) (e_par (P := (is K ln).r) 1 rfl) (e_nm nmBlank) rfl (by omega) hsp) fun _ _ _ en => en
  have t1 : B T H (Bq P w K mg base N_Reader_takes "Reader.takes" s_Reader_takes f cdv A outer s H E) [.r (rdR Cr x dx l1 l2 cs), .r (is K ln).r, .o (lstO K [nmCopy, nm])] (ifC ((defBody s_Reader_takes).getD 1 (.Pass ⟨0, 0, 0, 0⟩))) true :=
    b_eq (b_cm (c_eq (x := nmCopy) (y := nmCopy) hr (by decide) (e_ixL (xs := [nmCopy, nm]) (i := 0) (e_ownL 2 rfl) e_int rfl) (e_globS nmCopy Q.copy))) (eqb_iff.mpr rfl)
  obtain ⟨fc, fdc, psc, hfc, hbc, hmc⟩ := c1.ex
  refine ⟨_, pss_cons st1 (pss_cons (ps_if t1 (pss_one (ps_ret (pe_meth (pe_var (i := 0) rfl (Or.inl rfl)) F.cls hmc hfc (hr.mono (by omega)) hbc .nil pass0 (pa_cons (pe_var (i := 2) rfl (Or.inl rfl)) pa_nil)))) pss_nil) pss_never), ?_⟩
  refine ⟨H, en_start (N := N_Reader_takes) (Ps := [rdR Cr x dx l1 l2 cs, (is K ln).r]) hT ⟨⟨rfl, hrd⟩, is_nm.mpr rfl, trivial⟩ (by show 2 ≤ 3; decide), fun σ1 H1 en1 => ⟨⟨H, en1⟩, fun H2 x2 => iteT ?_⟩, fun _ _ _ z => z.elim, fun _ _ z => z.elim, fun _ _ z => z.elim⟩
  have en2 := en1.step x2
  obtain ⟨_, v0, g1, rfl, g2⟩ := en2.slot (i := 0) rfl
  obtain ⟨S2, vw, g3, lw, vs, rfl, _, g5, g6⟩ := en2.slot (i := 2) rfl
  have g7 := g2.ext en2.exR.ext
  refine ⟨.ref x, g1, x, dx, _, rfl, g7.ins, rfl, .ref lw, g3, x, dx, l1, l2, lw, cs, nm, rfl, g7, ⟨lw, vs, rfl, SqL.of g5, g6⟩, hn1, hn2, hn3, en2.tab, fun H3 x3 => ?_⟩
  exact q H3 (en2.exR.trans x3)
end
end Pg
set_option maxHeartbeats 4000000
namespace Pg
open PySem PySem.Spec PyProof.Rows L2 Cf NdefX PySem.W
section
variable {P : Program} {w : World} {K : PySem.W.Frag} {mg : Str → Option Value} {base : Heap} {T : Tb} {Cr Cs : Addr}
/-! ### Reader() -/
abbrev rdNew (Cr x dx l1 l2 : Addr) (H : Hp) : Hp := upd (upd (upd (upd H l1 (.lst [])) x (.ins Cr dx [("own_copies", .ref l1)])) l2 (.lst [])) x (.ins Cr dx (rdFs l1 l2))
abbrev spRdInit (Cr : Addr) : Sp := fun vs H Q _ => ∃ x dx, vs = [.ref x] ∧ H x = some (.ins Cr dx []) ∧ ∀ l1 l2, H l1 = none → H l2 = none → l1 ≠ l2 → Q .non (rdNew Cr x dx l1 l2 H)
structure RdI (P : Program) (w : World) (K : PySem.W.Frag) (mg : Str → Option Value) (base : Heap) (Cr : Addr) : Prop where
  ex : ∃ f fd ps, FnOk P w K mg base C8.CX0 1 f fd ps (spRdInit Cr) ∧ Binds K fd ps [] ∧ L2.Mk K Cr f
theorem ok_rd_init (F : RdF K mg Cr) : RdI P w K mg base Cr := by
  obtain ⟨f, fd, FD, hmk⟩ := F.init
  refine ⟨f, fd, ["self"], FD.ok sc_Reader_init (fun vs H Q E ⟨x, dx, e, _⟩ => by rw [e]; rfl) (fun cdv A outer s H vs Q E hr ⟨x, dx, e, hx, q⟩ => ?_), FD.bindsN (fun _ _ _ _ _ _ us hl => match us, hl with | [_], _ => rfl), hmk⟩
  subst e
  refine ⟨_, pss_cons (ps_fld (pe_var (i := 0) rfl (Or.inl rfl)) (pe_lst pa_nil) rfl) (pss_one (ps_fld (pe_var (i := 0) rfl (Or.inl rfl)) (pe_lst pa_nil) rfl)), ?_⟩
  refine ⟨by decide, fun l1 h1 => ⟨.ref x, rfl, x, Cr, dx, [], rfl, ?_, F.cls, F.a1, by decide, by decide, fun l2 h2 => ⟨.ref x, rfl, x, Cr, dx, [("own_copies", .ref l1)], rfl, ?_, F.cls, F.a2, (by show 1 < 1000; decide), ?_⟩⟩⟩
  · rw [upd_ne (ne_of_none hx h1)]
    exact hx
  · have n2 : x ≠ l2 := fun z => by
      subst z
      have h2 : upd (upd H l1 (.lst [])) x (.ins Cr dx (putF "own_copies" (.ref l1) [])) x = none := h2
      rw [upd_same] at h2
      cases h2
    rw [upd_ne n2]
    exact upd_same
  · have h2 : upd (upd H l1 (.lst [])) x (.ins Cr dx (putF "own_copies" (.ref l1) [])) l2 = none := h2
    have h3 := upd_none h2
    have n : l1 ≠ l2 := fun z => by
      subst z
      rw [upd_same] at h3
      cases h3
    exact q l1 l2 h1 (upd_none h3) n
/-- a reader of one's own -/
def rdO (Cr : Addr) (cs : List Nm) : OP where
  p := fun v S H => ∃ x dx l1 l2, v = .ref x ∧ S = (fun a => a = l1 ∨ a = l2) ∧ RdAt Cr x dx l1 l2 H cs
  st := fun v S H H' e k ⟨x, dx, l1, l2, h1, h2, h3⟩ => ⟨x, dx, l1, l2, h1, h2, e _ _ h3.ins rfl, (k l1 (by rw [h2]; exact .inl rfl)).trans h3.h1, (k l2 (by rw [h2]; exact .inr rfl)).trans h3.h2, h3.ne⟩
  dom := fun v S H ⟨x, dx, l1, l2, _, h2, h3⟩ a ha => by
    rw [h2] at ha
    rcases ha with z | z
    · subst z
      exact ⟨_, h3.h1, rfl⟩
    · subst z
      exact ⟨_, h3.h2, rfl⟩
section
variable {R : Hp} {X : Cx} {ρ : List AV} {Eo : Po} {pos p : Pos} {j : Nat}
theorem n_reader (F : RdF X.K X.mg Cr) (I : RdI X.prog X.w X.K X.mg X.base Cr) (hr : Room j X.A) (hj : 2 ≤ j) (hg : Gl X "Reader" := by rfl) : Cf.N T R X ρ (.Call (.Name "Reader" p) [] [] pos) (rdO Cr []) := by
  obtain ⟨f, fd, ps, hf, hb, hm⟩ := I.ex
  refine n_of (pe_make0 hm hf (hr.mono hj) hg F.nm hb .nil pass0) fun σ H H0 Q en q => fun x dx hx hdx hne => ⟨x, dx, rfl, upd_same, fun l1 l2 h1 h2 hn => ⟨rfl, ?_⟩⟩
  have nx1 : x ≠ l1 := fun z => by subst z; rw [upd_same] at h1; cases h1
  have nx2 : x ≠ l2 := fun z => by subst z; rw [upd_same] at h2; cases h2
  have h1' := upd_none (upd_none h1)
  have h2' := upd_none (upd_none h2)
  refine q _ (fun a => a = l1 ∨ a = l2) _ (fun a z => z.elim (fun z => by rw [z]; exact h1') fun z => by rw [z]; exact h2') (Ex.same fun b o e => ?_) ⟨x, dx, l1, l2, rfl, rfl, upd_same, ?_, ?_, hn⟩
  · have b1 := ne_of_none e hx
    have b2 := ne_of_none e hdx
    have b3 := ne_of_none e h1'
    have b4 := ne_of_none e h2'
    show rdNew Cr x dx l1 l2 (upd (upd H dx (.own x)) x (.ins Cr dx [])) b = some o
    unfold rdNew
    rw [upd_ne b1, upd_ne b4, upd_ne b1, upd_ne b3, upd_ne b1, upd_ne b2]
    exact e
  · show rdNew Cr x dx l1 l2 (upd (upd H dx (.own x)) x (.ins Cr dx [])) l1 = _
    unfold rdNew
    rw [upd_ne (Ne.symm nx1), upd_ne hn, upd_ne (Ne.symm nx1), upd_same]
    rfl
  · show rdNew Cr x dx l1 l2 (upd (upd H dx (.own x)) x (.ins Cr dx [])) l2 = _
    unfold rdNew
    rw [upd_ne (Ne.symm nx2), upd_same]
/-- if not reader.takes(line): raise .. -/
theorem s_takes {cs : List Nm} {nm ln : Nm} {rs : List Stmt} {a b : Str} {p1 p2 p3 p4 p5 : Pos} {pl : Sem Bool} (i k : Nat) (F : RdF X.K X.mg Cr) (M : Mt X.prog X.w X.K X.mg X.base Cr 3 "takes" (spRdTakes T X.K Cr)) (hr : Room j X.A) (hj : 3 ≤ j) (hi : ρ[i]? = some (.o (rdO Cr cs))) (hk : ρ[k]? = some (.t (is X.K ln)))
    (hl : ln.1.length ≤ 1000) (hsp : Txt.split ln.1 " " = [nmCopy, nm].map (·.1)) (hn1 : NameOk nm) (hn2 : nm ∉ cs) (hn3 : cs.length < 12) (kn : ∀ H0 σ H, En T R H0 (ρ.set i (.o (rdO Cr (cs ++ [nm])))) σ H → Eo.nx H0 σ H)
    (hN : X.N[i]? = some a := by rfl) (hN2 : X.N[k]? = some b := by rfl) (hv : Vis X.env.scope a := by first | exact Or.inl rfl | exact Or.inr (Or.inl rfl) | exact Or.inr (Or.inr rfl)) (hv2 : Vis X.env.scope b := by first | exact Or.inl rfl | exact Or.inr (Or.inl rfl) | exact Or.inr (Or.inr rfl)) (hd : (a == ("__debug__" : Str)) = false := by decide) (hcd : (a == ("__classdict__" : Str)) = false := by decide) (hd2 : (b == ("__debug__" : Str)) = false := by decide) (hcd2 : (b == ("__classdict__" : Str)) = false := by decide)
    (hst : starEach [Expr.Name b p4] X.env = (false, eval (Expr.Name b p4) X.env) :: starEach [] X.env := by rfl) (hpl : (backTo p3 (starEach [] X.env)).any (·.1) = false := by rfl)
    (ht : eval (.Call (.Attribute (.Name a p1) "takes" p2) [.Name b p4] [] p3) X.env = (do
      let ov ← eval (.Name a p1) X.env
      standAt p2.atName
      let (f, first) ← holding [ov] (getMethod ov "takes" pl)
      callWith p3 f first (backTo p3 (starEach [.Name b p4] X.env)) (backToKw p3 (keywordEach [] X.env))) := by rfl)
    (he : ∀ whole, isTrue (.Call (.Attribute (.Name a p1) "takes" p2) [.Name b p4] [] p3) X.env whole = (do let v ← whole; standAt (Expr.pos (.Call (.Attribute (.Name a p1) "takes" p2) [.Name b p4] [] p3)); holding [v] (truthy v)) := by intro _; rfl) :
    S T R X ρ (.If (.UnaryOp .Not (.Call (.Attribute (.Name a p1) "takes" p2) [.Name b p4] [] p3) p5) rs [] pos) Eo := by
  obtain ⟨f, fd, ps, hf, hb, hm⟩ := M.ex
  refine s_of (ps_if (pt_not (pt_val (pe_meth (pe_var hN hv hd hcd) F.cls hm hf (hr.mono hj) hb .nil pass0 (pa_cons (pe_var hN2 hv2 hd2 hcd2) pa_nil) hst hpl ht) he)) pss_never pss_nil) fun D σ H H0 en n r bb cc => ?_
  obtain ⟨F1, w⟩ := en.own
  obtain ⟨v, g1, x, dx, l1, l2, rfl, _, g3⟩ : ∃ v, σ[i]? = some (some v) ∧ (rdO Cr cs).p v (F1 i) H := w.ok i _ hi
  obtain ⟨S2, u, g4, g5⟩ := en.slot hk
  have g6 := is_nm.mp g5
  subst g6
  refine ⟨.ref x, g1, x, dx, _, rfl, g3.ins, rfl, .str ln.1, g4, x, dx, l1, l2, cs, nm, ln, rfl, g3, hl, hsp, hn1, hn2, hn3, en.tab, fun H' x' => ⟨true, rfl, iteF ?_⟩⟩
  have en' := en.step x'
  refine n _ _ (kn _ _ _ (en'.put hi g1 fun S hS => ?_))
  obtain ⟨x2, dx2, m1, m2, e2, rfl, g7⟩ := hS
  cases e2
  have g8 := g3.ext x'.ext
  have e3 := g7.ins.symm.trans g8.ins
  cases e3
  refine ⟨.inl rfl, rfl, x, dx, l1, l2, rfl, rfl, ?_, upd_same, ?_, g8.ne⟩
  · rw [upd_ne (fun z => by
      have := g8.ins
      rw [z, g8.h1] at this
      cases this)]
    exact g8.ins
  · rw [upd_ne (Ne.symm g8.ne)]
    exact g8.h2
end
/-! ### Shelf(text) -/
abbrev shFs (tx : Nm) (u1 u2 : V) : List (Str × V) := [("own_text", .str tx.1), ("own_copies", u1), ("own_places", u2)]
/-- a text's lines tell these copies -/
structure TextOk (tx : Nm) (cs : List Nm) (lns : List Nm) : Prop where
  few : tx.1.length ≤ 100000
  lines : Txt.split tx.1 "\n" = lns.map (·.1)
  len : lns.length = cs.length
  each : ∀ (i : Nat) (ln nm : Nm), lns[i]? = some ln → cs[i]? = some nm → ln.1.length ≤ 1000 ∧ Txt.split ln.1 " " = [nmCopy, nm].map (·.1) ∧ NameOk nm
  nd : cs.Nodup
  cf : cs.length ≤ 12
abbrev spShInit (T : Tb) (K : PySem.W.Frag) (Cs : Addr) : Sp := fun vs H Q _ => ∃ (x dx : Addr) (tx : Nm) (cs lns : List Nm), vs = [.ref x, .str tx.1] ∧ H x = some (.ins Cs dx []) ∧ TextOk tx cs lns ∧ LamX.Tabs T H ∧
  ∀ (H' : Hp) (u1 u2 : V), Ex T H H' → (isX K cs).p u1 H' → Q .non (upd H' x (.ins Cs dx (shFs tx u1 u2)))
structure ShD (K : PySem.W.Frag) (mg : Str → Option Value) (Cs : Addr) : Prop where
  nm : mg "Shelf" = some (.ref Cs)
  cls : Cls K Cs
  a0 : NoAttr K Cs "own_text"
  a1 : NoAttr K Cs "own_copies"
  a2 : NoAttr K Cs "own_places"
  init : ∃ f fd, FunD K "__init__" "Shelf.__init__" (defArgs s_Shelf_init) (defBody s_Shelf_init) (defScope s_Shelf_init) [] [] f fd ∧ L2.Mk K Cs f
structure ShI (P : Program) (w : World) (K : PySem.W.Frag) (mg : Str → Option Value) (base : Heap) (T : Tb) (Cs : Addr) : Prop where
  ex : ∃ f fd ps, FnOk P w K mg base C8.CX0 5 f fd ps (spShInit T K Cs) ∧ Binds K fd ps [] ∧ L2.Mk K Cs f
abbrev nmLine : Nm := ⟨"\n", by decide +kernel⟩
/-- self, while it is made -/
def slR (Cs x dx : Addr) : RP := ⟨fun v H => v = .ref x ∧ H x = some (.ins Cs dx []), fun v H H' e h => ⟨h.1, e _ _ h.2 fun ps z => by cases z⟩⟩
theorem ok_sh_init (D : ShD K mg Cs) (F : RdF K mg Cr) (I : RdI P w K mg base Cr) (G : Bl mg) (M1 : Mt P w K mg base Cr 3 "takes" (spRdTakes T K Cr)) (M2 : Mt P w K mg base Cr 1 "found" (spRdFound T K Cr)) : ShI P w K mg base T Cs := by
  obtain ⟨f, fd, FD, hmk⟩ := D.init
  refine ⟨f, fd, ["self", "text"], FD.ok (k := 4) sc_Shelf_init (fun vs H Q E ⟨x, dx, _, _, _, e, _⟩ => by rw [e]; rfl) (fun cdv A outer s H vs Q E hr ⟨x, dx, tx, cs, lns, e, hx, ht, hT, q⟩ => ?_), FD.bindsN (fun _ _ _ _ _ _ us hl => match us, hl with | [_, _], _ => rfl), hmk⟩
  subst e
  have hlen := ht.len
  have hcf := ht.cf
  have hfw := ht.few
  have st0 : S T H (Bq P w K mg base N_Shelf_init "Shelf.__init__" s_Shelf_init f cdv A outer s H E) [.r (slR Cs x dx), .r (is K tx).r, .u, .u, .u] ((defBody s_Shelf_init).getD 0 (.Pass ⟨0, 0, 0, 0⟩)) { nx := En1 T H [.r (slR Cs x dx), .r (is K tx).r, .u, .u, .u] } :=
    s_if (k := false) (b_eq (b_not (b_val (e_isi (P := (is K tx).r) (k := true) (t := "str") (ty := "str") (e_par 1 rfl) (fun v H h => ty_nm h) rfl G.isinstance G.str rfl))) rfl) (fun h => by cases h) fun _ => ss_nil fun _ _ _ en => en
  have st1 : S T H (Bq P w K mg base N_Shelf_init "Shelf.__init__" s_Shelf_init f cdv A outer s H E) [.r (slR Cs x dx), .r (is K tx).r, .u, .u, .u] ((defBody s_Shelf_init).getD 1 (.Pass ⟨0, 0, 0, 0⟩)) { nx := En1 T H [.r (slR Cs x dx), .r (is K tx).r, .o (rdO Cr []), .u, .u] } :=
    s_setN (O := rdO Cr []) 2 sc_Shelf_init.nd (n_reader F I hr (by omega)) fun _ _ _ en => en
  have st2 : S T H (Bq P w K mg base N_Shelf_init "Shelf.__init__" s_Shelf_init f cdv A outer s H E) [.r (slR Cs x dx), .r (is K tx).r, .o (rdO Cr []), .u, .u] ((defBody s_Shelf_init).getD 2 (.Pass ⟨0, 0, 0, 0⟩)) { nx := En1 T H [.r (slR Cs x dx), .r (is K tx).r, .o (rdO Cr cs), .u, .u] } := by
    refine s_for (xs := numd lns) (gt := is K) (fun pre => [.r (slR Cs x dx), .r (is K tx).r, .o (rdO Cr (cs.take pre.length)), .u, .u]) (fun pre a => [.r (slR Cs x dx), .r (is K tx).r, .o (rdO Cr (cs.take pre.length)), .t (is K a.1), .t (is K a.2)])
      (w_enumN (n_split (y := nmLine) (e_par (P := (is K tx).r) 1 rfl) (e_nm nmLine) rfl (by omega) ht.lines) G.enumerate) (pg_two (i := 3) (j := 4) rfl sc_Shelf_init.nd rfl rfl (Or.inl rfl) (Or.inl rfl) (Or.inl rfl) (Or.inl rfl)) (by rw [show (([] : List (Int × Nm)).length) = 0 from rfl, List.take_zero]; exact Wk.refl _) (js := [3, 4]) (fun pre a post _ => by exact tg_pair (i := 3) (j := 4) (pair_is a)) (fun pre a post e => ?_) fun _ _ _ en => ?_
    · obtain ⟨h1, h2, h3⟩ := numd_cut e
      have hi : pre.length < cs.length := by omega
      obtain ⟨g1, g2, g3⟩ := ht.each pre.length a.2 cs[pre.length] h2 (List.getElem?_eq_getElem hi)
      have e2 : cs.take (pre ++ [a]).length = cs.take pre.length ++ [cs[pre.length]] := by
        rw [List.length_append, List.length_singleton, List.take_add_one, List.getElem?_eq_getElem hi]
        rfl
      have hni : cs[pre.length] ∉ cs.take pre.length := fun hm => by
        obtain ⟨i, hi2, e3⟩ := List.mem_iff_getElem.mp hm
        rw [List.length_take] at hi2
        rw [List.getElem_take] at e3
        exact List.pairwise_iff_getElem.mp ht.nd i pre.length (by omega) hi (by omega) e3
      rw [e2]
      exact ss_one (s_takes 2 4 F M1 hr (by omega) rfl rfl g1 g2 g3 hni (by rw [List.length_take]; omega) fun _ _ _ en => en.weak (.same (.same (.same (.drop (.drop .nil))))))
    · rw [numd_len, ht.len, List.take_length] at en
      exact en
  obtain ⟨ff, fdf, psf, hff, hbf, hmf⟩ := M2.ex
  refine ⟨_, (pss_cons st0 (pss_cons st1 (pss_cons st2 (pss_cons (ps_fld (pe_var (i := 0) rfl (Or.inl rfl)) (pe_var (i := 1) rfl (Or.inl rfl)) rfl) (pss_one (ps_asg (pe_meth0 (pe_var (i := 2) rfl (Or.inl rfl)) F.cls hmf hff (hr.mono (by omega)) hbf .nil pass0) (pg_tup rfl (pgs_cons (pg_fld (pe_var (i := 0) rfl (Or.inl rfl))) (pgs_cons (pg_fld (pe_var (i := 0) rfl (Or.inl rfl))) pgs_nil))))))))).nox, ?_⟩
  refine ⟨H, en_start (N := N_Shelf_init) (Ps := [slR Cs x dx, (is K tx).r]) hT ⟨⟨rfl, hx⟩, is_nm.mpr rfl, trivial⟩ (by show 2 ≤ 5; decide), fun σ1 H1 en1 => ⟨H, en1, fun σ2 H2 en2 => ⟨H, en2, fun σ3 H3 en3 => ?_, fun _ _ _ z => z.elim, fun _ _ z => z.elim, fun _ _ z => z.elim⟩, fun _ _ _ z => z.elim, fun _ _ z => z.elim, fun _ _ z => z.elim⟩, fun _ _ _ z => z.elim, fun _ _ z => z.elim, fun _ _ z => z.elim⟩
  obtain ⟨_, v0, g1, rfl, g2⟩ := en3.slot (i := 0) rfl
  obtain ⟨_, v1, g3, g4⟩ := en3.slot (i := 1) rfl
  obtain ⟨S2, v2, g5, xr, dr, l1, l2, rfl, _, g6⟩ := en3.slot (i := 2) rfl
  have g7 : H3 x = some (.ins Cs dx []) := en3.exR.ext _ _ g2 fun ps z => by cases z
  have e4 := is_nm.mp g4
  subst e4
  have nxr : xr ≠ x := fun z => by
    have := g6.ins
    rw [z, g7] at this
    cases this
  have g6x : RdAt Cr xr dr l1 l2 (upd H3 x (.ins Cs dx [("own_text", .str tx.1)])) cs := by
    have m1 : l1 ≠ x := fun z => by
      have := g6.h1
      rw [z, g7] at this
      cases this
    have m2 : l2 ≠ x := fun z => by
      have := g6.h2
      rw [z, g7] at this
      cases this
    exact ⟨by rw [upd_ne nxr]; exact g6.ins, by rw [upd_ne m1]; exact g6.h1, by rw [upd_ne m2]; exact g6.h2, g6.ne⟩
  have tA : LamX.Tabs T (upd H3 x (.ins Cs dx [("own_text", .str tx.1)])) := tabs_ins g7 (fun ps z => by cases z) (fun c q z => by unfold LamX.CodeO at z; cases z) en3.tab
  refine ⟨_, g3, .ref x, g1, x, Cs, dx, [], rfl, g7, D.cls, D.a0, by show 0 < 1000; decide, .ref xr, g5, xr, dr, _, rfl, g6x.ins, rfl, ((xr, dr, l1, l2), cs), trivial, ⟨⟨rfl, g6x⟩, trivial⟩, tA, fun v H4 x4 ⟨a, u1, u2, e5, k1, k2, k3⟩ => ?_⟩
  have k4 : H4 x = some (.ins Cs dx [("own_text", .str tx.1)]) := x4.ext _ _ upd_same fun ps z => by cases z
  refine ⟨a, [u1, u2], e5, k1, rfl, u1, [u2], rfl, .ref x, g1, x, Cs, dx, _, rfl, k4, D.cls, D.a1, (by show 1 < 1000; decide), u2, [], rfl, .ref x, g1, x, Cs, dx, _, rfl, upd_same, D.cls, D.a2, (by show 2 < 1000; decide), rfl, ?_⟩
  have e6 : upd (upd H4 x (.ins Cs dx (putF "own_copies" u1 [("own_text", .str tx.1)]))) x (.ins Cs dx (putF "own_places" u2 (putF "own_copies" u1 [("own_text", .str tx.1)]))) = upd (upd H4 x (.ins Cs dx [])) x (.ins Cs dx (shFs tx u1 u2)) := by
    rw [upd_upd, upd_upd]
    rfl
  show Q .non (upd (upd H4 x (.ins Cs dx (putF "own_copies" u1 [("own_text", .str tx.1)]))) x (.ins Cs dx (putF "own_places" u2 (putF "own_copies" u1 [("own_text", .str tx.1)]))))
  rw [e6]
  refine q _ u1 u2 ⟨fun b o e n => ?_, fun b e => ?_, fun _ => tabs_ins k4 (fun ps z => by cases z) (fun c q z => by unfold LamX.CodeO at z; cases z) (x4.tb tA)⟩ ?_
  · by_cases hb : b = x
    · subst hb
      rw [hx] at e
      cases e
      exact upd_same
    · rw [upd_ne hb]
      refine x4.ext b o ?_ n
      rw [upd_ne hb]
      exact en3.exR.ext b o e n
  · by_cases hb : b = x
    · subst hb
      rw [upd_same] at e
      cases e
    · rw [upd_ne hb] at e
      have := x4.bk b e
      rw [upd_ne hb] at this
      exact en3.exR.bk b this
  · obtain ⟨a1, vs, o, m1, m2, m3, m4⟩ := k2
    have m5 : a1 ≠ x := fun z => by
      rw [z, k4] at m2
      cases m2
    refine ⟨a1, vs, o, m1, by rw [upd_ne m5]; exact m2, m3, ?_⟩
    rw [dps_strs m4]
    exact dps_ofStrs cs
section
variable {R : Hp} {X : Cx} {ρ : List AV} {e : Expr} {pos p : Pos} {j : Nat}
/-- Shelf(text) -/
theorem e_shelf {tx : Nm} {cs lns : List Nm} (D : ShD X.K X.mg Cs) (I : ShI X.prog X.w X.K X.mg X.base T Cs) (hr : Room j X.A) (hj : 6 ≤ j) (ht : TextOk tx cs lns) (h : Cf.E T R X ρ e (is X.K tx).p) (hs : starEach [e] X.env = (false, eval e X.env) :: starEach [] X.env := by rfl) (hpl : (backTo pos (starEach [] X.env)).any (·.1) = false := by rfl) (hg : Gl X "Shelf" := by rfl) :
    Cf.E T R X ρ (.Call (.Name "Shelf" p) [e] [] pos) (shP X.K Cs cs).p := by
  obtain ⟨f, fd, ps, hf, hb, hm⟩ := I.ex
  refine e_of (pe_make hm hf (hr.mono hj) hg D.nm hb .nil pass0 (as_one (P := (is X.K tx).r) h hs) (by decide) hs hpl) fun σ H H0 Q en q => ⟨⟨H0, en⟩, fun vs H1 x1 p1 => ?_⟩
  obtain ⟨v, rfl, hv⟩ := allP1 p1
  intro x dx hx hdx hne
  have hv := is_nm.mp hv
  subst hv
  have hdx' : upd H1 dx (.own x) x = none := by rw [upd_ne (Ne.symm hne)]; exact hx
  have t1 : LamX.Tabs T (upd (upd H1 dx (.own x)) x (.ins Cs dx [])) := (Ex.new (T := T) hdx').tb ((Ex.new (T := T) hdx).tb (x1.tb en.tab))
  refine ⟨x, dx, tx, cs, lns, rfl, upd_same, ht, t1, fun H2 u1 u2 x2 k2 => ⟨rfl, q _ _ ?_ ⟨x, dx, shFs tx u1 u2, u1, rfl, upd_same, rfl, ?_⟩⟩⟩
  · have e2 : H2 x = some (.ins Cs dx []) := x2.ext _ _ upd_same fun ps z => by cases z
    refine x1.trans ⟨fun b o e n => ?_, fun b e => ?_, fun t => tabs_ins e2 (fun ps z => by cases z) (fun c q z => by unfold LamX.CodeO at z; cases z) (x2.tb t1)⟩
    · have b1 := ne_of_none e hx
      have b2 := ne_of_none e hdx
      rw [upd_ne b1]
      refine x2.ext b o ?_ n
      rw [upd_ne b1, upd_ne b2]
      exact e
    · by_cases hb : b = x
      · subst hb
        exact hx
      · rw [upd_ne hb] at e
        have := x2.bk b e
        rw [upd_ne hb] at this
        exact upd_none this
  · have e2 : H2 x = some (.ins Cs dx []) := x2.ext _ _ upd_same fun ps z => by cases z
    obtain ⟨a1, vs, o, m1, m2, m3, m4⟩ := k2
    have m5 : a1 ≠ x := fun z => by
      rw [z, e2] at m2
      cases m2
    refine ⟨a1, vs, o, m1, by rw [upd_ne m5]; exact m2, m3, ?_⟩
    rw [dps_strs m4]
    exact dps_ofStrs cs
end
end
end Pg
set_option maxHeartbeats 4000000
namespace Pg
open PySem PySem.Spec PyProof.Rows L2 Cf NdefX PySem.W
section
variable {P : Program} {w : World} {K : PySem.W.Frag} {mg : Str → Option Value} {base : Heap} {T : Tb}
/-! ### sorts of alike data -/
theorem perm_same {α : Type} {l m : List α} (p : m.Perm l) (h : ∀ a ∈ l, ∀ b ∈ l, a = b) : m = l := by
  cases l with
  | nil => exact p.eq_nil
  | cons a l =>
    have h1 : a :: l = List.replicate (a :: l).length a := List.eq_replicate_iff.mpr ⟨rfl, fun b hb => h b hb a List.mem_cons_self⟩
    have h2 : m = List.replicate (a :: l).length a := List.eq_replicate_iff.mpr ⟨p.length_eq, fun b hb => h b (p.mem_iff.mp hb) a List.mem_cons_self⟩
    rw [h2, ← h1]
theorem toks_inj {x y : PyData} (h : alike x y = true) (e : keyToks x = keyToks y) : PyData.eqv x y = true := by
  cases q : PyData.eqv x y with
  | true => rfl
  | false =>
    have h1 := (toks_eqv x y h).2 q [] [.inl 0]
    rw [e, lex_pre] at h1
    have h2 : PyProof.Rows.lexLt itemOrd (keyToks y) (keyToks y) = false := lex_irrefl (O := itemOrd) _
    rw [h2] at h1
    cases h1
theorem sort_alike {α : Type} [DecidableEq α] [Enc α] (hal : ∀ a b : α, alike (enc a) (enc b) = true) {us vs : List α} (p : us.Perm vs) : us.mergeSort (dataLe false (enc (α := α))) = vs.mergeSort (dataLe false (enc (α := α))) := by
  have ht := sortLe_total (listOrd itemOrd) false fun b : α => keyToks (enc b)
  refine sort_unique ht (sort_pairwise ht us) fun c => ?_
  have pm : (us.mergeSort (dataLe false (enc (α := α)))).Perm vs := (List.mergeSort_perm us _).trans p
  refine perm_same (pm.filter _) fun a ha b hb => ?_
  have h1 := (List.mem_filter.mp ha).2
  have h2 := (List.mem_filter.mp hb).2
  unfold sameRank at h1 h2
  rw [Bool.and_eq_true] at h1 h2
  have g1 := ht.trans a c b h1.2 h2.1
  have g2 := ht.trans b c a h2.2 h1.1
  have e : keyToks (enc a) = keyToks (enc b) := by
    have g1' : (!PyProof.Rows.lexLt itemOrd (keyToks (enc b)) (keyToks (enc a))) = true := g1
    have g2' : (!PyProof.Rows.lexLt itemOrd (keyToks (enc a)) (keyToks (enc b))) = true := g2
    rw [Bool.not_eq_true'] at g1' g2'
    exact (listOrd itemOrd).total _ _ g2' g1'
  have := toks_inj (hal a b) e
  rw [Enc.eqv] at this
  exact of_decide_eq_true this
/-! ### _law_told -/
abbrev nmEmpty : Nm := ⟨"", by decide +kernel⟩
def spotsOf (cs : List Nm) : List (Nm × Int) := tabB ((numd cs).map fun q => (q.2, q.1))
def spotOf (cs : List Nm) (c : Nm) : Int := (getB (spotsOf cs) c).getD 0
def lineOf (cs : List Nm) (lot : Lot) : Int × List Int := (0 - ((lot.length : Nat) : Int), (lot.map (spotOf cs)).mergeSort (dataLe false enc))
def linesOf (cs : List Nm) (ls : List Lot) : List (Int × List Int) := ((ls ++ [cs]).filter isBig).map (lineOf cs)
def pick (cs : List Nm) (i : Int) : Nm := (cs[i.toNat]?).getD nmEmpty
def outOf (cs : List Nm) (q : Int × List Int) : Lot := q.2.map (pick cs)
def toldOf (cs : List Nm) (ls : List Lot) : List Lot := ((uniq (linesOf cs ls)).mergeSort (dataLe false enc)).map (outOf cs)
structure ToldV (cs : List Nm) (ls : List Lot) : Prop where
  few : cs.length ≤ 12
  many : ls.length ≤ 40
  sub : ∀ lot ∈ ls, lot.length ≤ 12 ∧ ∀ c ∈ lot, c ∈ cs
theorem ints_alike : ∀ xs ys : List Int, alikeAll (encs xs) (encs ys) = true
  | [], [] => rfl
  | [], _ :: _ => rfl
  | _ :: _, [] => rfl
  | x :: xs, y :: ys => by
    show alikeAll (PyData.int x :: encs xs) (PyData.int y :: encs ys) = true
    rw [alikeAll, ints_alike xs ys]
    simp [alike]
theorem ints_all (xs : List Int) : AllAlike (encs xs) := AllAlike.of fun a b => by
  show alike (.int a) (.int b) = true
  simp [alike]
theorem ints_sortable (xs : List Int) : Sortable (encs xs) := Sortable.others fun a => ⟨fun h => (by cases h), fun ds h => (by cases h)⟩
theorem line_alike (a b : Int × List Int) : alike (enc a) (enc b) = true := by
  show alike (.tuple [.int a.1, .tuple (encs a.2)]) (.tuple [.int b.1, .tuple (encs b.2)]) = true
  simp [alike, alikeAll, ints_alike]
theorem lines_sortable (xs : List (Int × List Int)) : Sortable (encs xs) := Sortable.tuples fun a => ⟨_, _, rfl⟩
theorem numKs_ints : ∀ xs : List Int, numKs (nks (encs xs)) = true
  | [] => rfl
  | x :: xs => by
    show (numK (nk (.int x)) && numKs (nks (encs xs))) = true
    rw [numKs_ints xs]
    rfl
theorem setK_line : SetK (Int × List Int) where
  num := fun a => by
    show numK (.tup [.num a.1, .tup (nks (encs a.2))]) = true
    show (numK (.num a.1) && (numK (.tup (nks (encs a.2))) && true)) = true
    rw [show numK (.tup (nks (encs a.2))) = numKs (nks (encs a.2)) from rfl, numKs_ints]
    rfl
  dep := by decide
  ref := fun K a v H h => by
    obtain ⟨b, _, _, h1, _⟩ := (pair_is a).out v H h
    exact ⟨b, h1⟩
theorem getB_find {κ β : Type} [DecidableEq κ] {kvs : List (κ × β)} {k : κ} {x : β} (h : getB kvs k = some x) : (k, x) ∈ kvs := by
  unfold getB at h
  cases q : kvs.find? (fun p => decide (p.1 = k)) with
  | none => rw [q] at h; cases h
  | some p =>
    rw [q] at h
    cases h
    have h1 := List.find?_some q
    have h2 := List.mem_of_find?_eq_some q
    rw [← of_decide_eq_true h1]
    exact h2
theorem getB_putB {κ β : Type} [DecidableEq κ] (kvs : List (κ × β)) (k k' : κ) (x : β) : getB (putB kvs k x) k' = if k = k' then some x else getB kvs k' := by
  unfold putB
  split
  · rename_i h
    induction kvs with
    | nil => simp at h
    | cons p kvs ih =>
      unfold getB
      rw [List.map_cons, List.find?_cons, List.find?_cons]
      by_cases e : p.1 = k
      · rw [if_pos e]
        by_cases e2 : k = k'
        · rw [if_pos e2]
          simp [e, e2]
        · have e3 : ¬ p.1 = k' := fun z => e2 (e.symm.trans z)
          rw [if_neg e2]
          simp only [decide_eq_false e3]
          by_cases ha : (kvs.any fun p => decide (p.1 = k)) = true
          · have := ih ha
            rw [if_neg e2] at this
            exact this
          · have hm : kvs.map (fun p => if p.1 = k then (p.1, x) else p) = kvs := by
              refine (List.map_congr_left fun q hq => ?_).trans (List.map_id _)
              have : ¬ q.1 = k := fun z => ha (List.any_eq_true.mpr ⟨q, hq, decide_eq_true z⟩)
              rw [if_neg this]
              rfl
            rw [hm]
      · rw [if_neg e]
        have ha : (kvs.any fun p => decide (p.1 = k)) = true := by
          rw [List.any_cons, decide_eq_false e, Bool.false_or] at h
          exact h
        by_cases e2 : p.1 = k'
        · have e3 : ¬ k = k' := fun z => e (e2.trans z.symm)
          rw [if_neg e3]
          simp [e2]
        · simp only [decide_eq_false e2]
          exact ih ha
  · rename_i h
    unfold getB
    rw [List.find?_append]
    cases q : kvs.find? (fun p => decide (p.1 = k')) with
    | some p =>
      have h1 := List.find?_some q
      have h2 := List.mem_of_find?_eq_some q
      have : ¬ k = k' := fun z => h (List.any_eq_true.mpr ⟨p, h2, by rw [z]; exact h1⟩)
      rw [if_neg this]
      rfl
    | none =>
      by_cases e : k = k'
      · rw [if_pos e]
        simp [e]
      · rw [if_neg e]
        simp [e]
theorem spots_get {cs : List Nm} {c : Nm} (h : c ∈ cs) : getB (spotsOf cs) c = some (spotOf cs c) := by
  have gen : ∀ (ps : List (Nm × Int)) (acc : List (Nm × Int)), (getB acc c).isSome = true ∨ (∃ q ∈ ps, q.1 = c) → (getB (ps.foldl (fun acc p => putB acc p.1 p.2) acc) c).isSome = true := by
    intro ps
    induction ps with
    | nil =>
      intro acc h
      rcases h with h | ⟨q, hq, _⟩
      · exact h
      · cases hq
    | cons p ps ih =>
      intro acc h
      rw [List.foldl_cons]
      refine ih _ ?_
      by_cases e : p.1 = c
      · left
        rw [getB_putB, if_pos e]
        rfl
      · rcases h with h | ⟨q, hq, e2⟩
        · left
          rw [getB_putB, if_neg e]
          exact h
        · rcases List.mem_cons.mp hq with z | z
          · subst z
            exact absurd e2 e
          · exact .inr ⟨q, z, e2⟩
  obtain ⟨n, hn, e⟩ := List.getElem_of_mem h
  have h1 : (getB (spotsOf cs) c).isSome = true := gen _ _ (.inr ⟨(c, ((n : Nat) : Int)), List.mem_map.mpr ⟨(((n : Nat) : Int), c), ?_, rfl⟩, rfl⟩)
  · obtain ⟨x, hx⟩ := Option.isSome_iff_exists.mp h1
    unfold spotOf
    rw [hx]
    rfl
  · unfold numd
    refine List.mem_map.mpr ⟨(c, n), ?_, rfl⟩
    rw [List.mem_zipIdx_iff_getElem?]
    rw [List.getElem?_eq_getElem hn, e]
theorem spots_ok {cs : List Nm} {c : Nm} {i : Int} (h : getB (spotsOf cs) c = some i) : ∃ n : Nat, i = (n : Int) ∧ cs[n]? = some c := by
  have gen : ∀ (ps : List (Nm × Int)) (acc : List (Nm × Int)), (∀ q ∈ ps, ∃ n : Nat, q.2 = (n : Int) ∧ cs[n]? = some q.1) → (∀ c i, getB acc c = some i → ∃ n : Nat, i = (n : Int) ∧ cs[n]? = some c) → ∀ c i, getB (ps.foldl (fun acc p => putB acc p.1 p.2) acc) c = some i → ∃ n : Nat, i = (n : Int) ∧ cs[n]? = some c := by
    intro ps
    induction ps with
    | nil => intro acc _ h; exact h
    | cons p ps ih =>
      intro acc h1 h2
      rw [List.foldl_cons]
      refine ih _ (fun q hq => h1 q (List.mem_cons_of_mem _ hq)) fun c i hc => ?_
      rw [getB_putB] at hc
      split at hc
      · rename_i e
        cases hc
        obtain ⟨n, e1, e2⟩ := h1 p List.mem_cons_self
        exact ⟨n, e1, by rw [e2, e]⟩
      · exact h2 c i hc
  refine gen _ _ (fun q hq => ?_) (fun c i hc => by cases hc) c i h
  obtain ⟨q', hq', rfl⟩ := List.mem_map.mp hq
  unfold numd at hq'
  obtain ⟨r, hr, rfl⟩ := List.mem_map.mp hq'
  rw [List.mem_zipIdx_iff_getElem?] at hr
  exact ⟨r.2, rfl, hr⟩
theorem spot_pick {cs : List Nm} {c : Nm} (h : c ∈ cs) : ∃ n : Nat, spotOf cs c = (n : Int) ∧ cs[n]? = some c ∧ pick cs (spotOf cs c) = c := by
  obtain ⟨n, e1, e2⟩ := spots_ok (spots_get h)
  refine ⟨n, e1, e2, ?_⟩
  unfold pick
  rw [e1, Int.toNat_natCast, e2]
  rfl
theorem uniq_length {α : Type} [DecidableEq α] (xs : List α) : (uniq xs).length ≤ xs.length := by
  have : ∀ (xs l : List α), (xs.foldl putU l).length ≤ l.length + xs.length := by
    intro xs
    induction xs with
    | nil => intro l; simp
    | cons x xs ih =>
      intro l
      have h := ih (putU l x)
      have h2 : (putU l x).length ≤ l.length + 1 := by
        unfold putU
        split
        · omega
        · rw [List.length_append]
          simp
      rw [List.foldl_cons, List.length_cons]
      omega
  have h := this xs []
  rw [List.length_nil, Nat.zero_add] at h
  exact h
abbrev spTold (T : Tb) (K : PySem.W.Frag) : Sp := spF T (fun z : List Nm × List Lot => [(is K z.1).r, seqR K z.2]) (fun z => ToldV z.1 z.2) fun z _ => (is K (toldOf z.1 z.2)).p
theorem ok_told (F : Fdef K mg "_law_told" s_law_told) (G : Bl mg) : Cal P w K mg base 1 "_law_told" (spTold T K) := by
  refine cal_of F sc_law_told (fun _ => rfl) (fun _ _ _ _ _ _ us hl => match us, hl with | [_, _], _ => rfl) (fun z f cdv A outer s H E hz hr => ?_)
  have hfew := hz.few
  have hmany := hz.many
  have hnl := numd_len z.1
  refine ss_cons (ρ1 := [.r (is K z.1).r, .r (seqR K z.2), .o (dictO (kindN K) (is K) (spotsOf z.1)), .o (lstO K ([] : List (Int × List Int))), .u, .u, .u, .u, .u])
    (s_parNNc (O1 := dictO (kindN K) (is K) (spotsOf z.1)) (O2 := lstO K ([] : List (Int × List Int))) 2 3 sc_law_told.nd
      (n_dictP (ps := (numd z.1).map fun q => (q.2, q.1)) (e_imp (e_newL (n_lcM2 (gt := is K) (q1 := fun q => is K q.1) (q2 := fun q => is K q.2) 5 6 [("at", 5), ("copy", 6)] (fun q : Int × Nm => (q.2, q.1)) (w_enumT (e_par (P := (is K z.1).r) 0 rfl) G.enumerate) sc_law_told.nd (blkOk_by (N := N_law_told) (sc := defScope s_law_told) (by decide +kernel)) (by omega) (fun a => pair_is a)
        (fun _ _ _ _ _ => pg_two (i := 5) (j := 6) rfl sc_law_told.nd rfl rfl (Or.inl rfl) (Or.inl rfl) (Or.inr rfl) (Or.inr rfl)) (fun _ _ _ _ _ a ha => by exact e_tup2 (e_var (P := is K a.2) 6 rfl) (e_var (P := is K a.1) 5 rfl)))) fun _ _ _ p => p) G.dict) n_lst0 fun _ _ _ en => en) ?_
  refine ss_cons (ρ1 := [.r (is K z.1).r, .r (seqR K z.2), .o (dictO (kindN K) (is K) (spotsOf z.1)), .o (lstO K (linesOf z.1 z.2)), .u, .u, .u, .u, .u])
    (s_for (xs := z.2 ++ [z.1]) (gt := is K) (fun pre => [.r (is K z.1).r, .r (seqR K z.2), .o (dictO (kindN K) (is K) (spotsOf z.1)), .o (lstO K ((pre.filter isBig).map (lineOf z.1))), .u, .u, .u, .u, .u]) (fun pre a => [.r (is K z.1).r, .r (seqR K z.2), .o (dictO (kindN K) (is K) (spotsOf z.1)), .o (lstO K ((pre.filter isBig).map (lineOf z.1))), .t (is K a), .u, .u, .u, .u])
      (w_new (n_cat (e_newX (n_listOf (e_par (P := seqR K z.2) 1 rfl) G.list)) (e_newX (n_lst1 (e_par (P := (is K z.1).r) 0 rfl))) (by simp only [List.length_cons, List.length_nil]; omega))) (pg_name (i := 4) sc_law_told.nd rfl (Or.inl rfl)) (Wk.refl _) (js := [4]) (fun pre a post _ => by exact tg_name (i := 4) (P := is K a)) (fun pre lot post e => ?_) fun _ _ _ en => en) ?_
  · have hm : lot ∈ z.2 ++ [z.1] := by rw [e]; simp
    have hlot : lot.length ≤ 12 ∧ ∀ c ∈ lot, c ∈ z.1 := by
      rcases List.mem_append.mp hm with h | h
      · exact hz.sub lot h
      · rw [List.mem_singleton.mp h]
        exact ⟨hfew, fun c hc => hc⟩
    have hpre : ((pre.filter isBig).map (lineOf z.1)).length ≤ 1000000 := by
      have h1 := congrArg List.length e
      have h2 := List.length_filter_le isBig pre
      simp only [List.length_append, List.length_cons, List.length_nil] at h1
      rw [List.length_map]
      omega
    obtain ⟨ls, hls⟩ : ∃ ls, ls = (pre.filter isBig).map (lineOf z.1) := ⟨_, rfl⟩
    have hnext : ((pre ++ [lot]).filter isBig).map (lineOf z.1) = if isBig lot = true then ls ++ [lineOf z.1 lot] else ls := by
      rw [List.filter_append, List.map_append, ← hls]
      by_cases hb : isBig lot = true
      · rw [if_pos hb]
        simp [hb]
      · rw [if_neg hb]
        simp [hb]
    rw [hnext, ← hls]
    rw [← hls] at hpre
    refine ss_one (s_if (k := isBig lot) (b_cm (c_gt (e_len (e_seq (e_var (P := is K lot) 4 rfl)) G.len) e_int)) (fun hb => ?_) fun hb => ss_nil fun _ _ _ en => ?_)
    · rw [if_pos hb]
      refine ss_one (s_append 3 rfl hpre (e_tup2 (e_sub (x := 0) e_int (e_len (e_seq (e_var (P := is K lot) 4 rfl)) G.len)) (e_tupleOf (e_newS (n_sorted (xs := lot.map (spotOf z.1)) (e_newX (n_lcM (gt := is K) 6 [("copy", 6)] (spotOf z.1) (w_tup (e_var 4 rfl)) sc_law_told.nd (blkOk_by (N := N_law_told) (sc := defScope s_law_told) (by decide +kernel)) (by omega)
        (fun _ _ _ _ _ => pg_name (i := 6) sc_law_told.nd rfl (Or.inl rfl)) (fun _ _ _ _ _ c hc => by exact e_dget (D := kindN K) (VP := is K) (k := c) (x := spotOf z.1 c) 2 hr rfl (e_var (P := is K c) 6 rfl) (spots_get (hlot.2 c hc))))) G.sorted hr (by rw [List.length_map]; omega) (ints_all _) (ints_sortable _) (by decide))) G.tuple)) fun _ _ _ en => en.weak (.same (.same (.same (.same (.drop (.same (.same (.same (.same .nil))))))))))
    · rw [if_neg (by rw [hb]; decide)]
      exact en.weak (.same (.same (.same (.same (.drop (.same (.same (.same (.same .nil)))))))))
  · have hlines : (linesOf z.1 z.2).length < 64 := by
      unfold linesOf
      rw [List.length_map]
      have h2 := List.length_filter_le isBig (z.2 ++ [z.1])
      simp only [List.length_append, List.length_cons, List.length_nil] at h2
      omega
    have hu := uniq_length (linesOf z.1 z.2)
    have hin : ∀ q ∈ (uniq (linesOf z.1 z.2)).mergeSort (dataLe false enc), q.2.length ≤ 12 ∧ ∀ i ∈ q.2, ∃ n : Nat, i = (n : Int) ∧ z.1[n]? = some (pick z.1 i) := fun q hq => by
      have h1 : q ∈ linesOf z.1 z.2 := mem_uniq'.mp ((List.mergeSort_perm _ _).mem_iff.mp hq)
      obtain ⟨lot, h2, rfl⟩ := List.mem_map.mp h1
      have hm := (List.mem_filter.mp h2).1
      have hlot : lot.length ≤ 12 ∧ ∀ c ∈ lot, c ∈ z.1 := by
        rcases List.mem_append.mp hm with h | h
        · exact hz.sub lot h
        · rw [List.mem_singleton.mp h]
          exact ⟨hfew, fun c hc => hc⟩
      refine ⟨?_, fun i hi => ?_⟩
      · show ((lot.map (spotOf z.1)).mergeSort _).length ≤ 12
        rw [List.length_mergeSort, List.length_map]
        exact hlot.1
      · have : i ∈ (lot.map (spotOf z.1)).mergeSort (dataLe false enc) := hi
        obtain ⟨c, hc, rfl⟩ := List.mem_map.mp ((List.mergeSort_perm _ _).mem_iff.mp this)
        obtain ⟨n, e1, e2, e3⟩ := spot_pick (hlot.2 c hc)
        exact ⟨n, e1, by rw [e3]; exact e2⟩
    refine ss_one (s_ret (e_tupleOf (xs := ((uniq (linesOf z.1 z.2)).mergeSort (dataLe false enc)).map (outOf z.1)) (e_newS (n_lcM2 (gt := is K) (q1 := fun q => is K q.1) (q2 := fun q => is K q.2) 7 8 [("size", 7), ("line", 8)] (outOf z.1) ?_ sc_law_told.nd (blkOk_by rfl) ?_ (fun a => pair_is a)
      (fun _ _ _ _ _ => pg_two (i := 7) (j := 8) rfl sc_law_told.nd rfl rfl (Or.inl rfl) (Or.inl rfl) (Or.inr rfl) (Or.inr rfl)) ?_)) G.tuple) fun v H _ p => p)
    · exact w_new (n_sortSet (xs := linesOf z.1 z.2) (e_set setK_line (e_ownX 3 rfl) G.set hr hlines) G.sorted hr (AllAlike.of line_alike) (lines_sortable _) (by decide) fun us p => sort_alike line_alike p)
    · rw [List.length_mergeSort]
      omega
    · intro s H C cl fp q hq
      exact e_tupleOf (xs := q.2.map (pick z.1)) (e_newS (n_lcM (xs := q.2) (gt := is K) 5 [("at", 5)] (pick z.1) (w_tup (e_var 8 rfl)) sc_law_told.nd (blkOk_by rfl) (Nat.le_trans (hin q hq).1 (by decide))
        (fun _ _ _ _ _ => pg_name (i := 5) sc_law_told.nd rfl (Or.inl rfl)) (fun _ _ _ _ _ i hi => by
          obtain ⟨n, e1, e2⟩ := (hin q hq).2 i hi
          exact e_ixT (i := n) (e_par (P := (is K z.1).r) 0 rfl) (e_cast (f := fun i : Int => (is K i).p) (e_var (P := is K i) 5 rfl) e1) e2))) G.tuple
end
end Pg
set_option maxHeartbeats 4000000
namespace Pg
open PySem PySem.Spec PyProof.Rows L2 Cf NdefX PySem.W TL
section
variable {P : Program} {w : World} {K : PySem.W.Frag} {mg : Str → Option Value} {base : Heap} {T : Tb}
/-! ### _law_text -/
theorem strOk_app {x y : Str} (hx : PyData.strOk x = true) (hy : PyData.strOk y = true) : PyData.strOk (x ++ y) = true := by
  unfold PyData.strOk at hx hy ⊢
  rw [show (x ++ y).cps = x.cps ++ y.cps from rfl, Array.all_append, hx, hy]
  rfl
theorem strOk_join {y : Str} (hy : PyData.strOk y = true) : ∀ parts : List Str, (∀ p ∈ parts, PyData.strOk p = true) → PyData.strOk (Str.join y parts) = true
  | [], _ => by
    show PyData.strOk "" = true
    decide +kernel
  | [p], h => h p List.mem_cons_self
  | p :: q :: r, h => strOk_app (strOk_app (h p List.mem_cons_self) hy) (strOk_join hy (q :: r) fun a ha => h a (List.mem_cons_of_mem _ ha))
abbrev nmCopySp : Nm := ⟨"copy ", by decide +kernel⟩
def lnOf (c : Nm) : Nm := ⟨nmCopySp.1 ++ c.1, strOk_app nmCopySp.2 c.2⟩
def textOf (cs : List Nm) : Nm := ⟨Txt.join nmLine.1 ((cs.map lnOf).map (·.1)), by
  rw [join_eq]
  refine strOk_join nmLine.2 _ fun p hp => ?_
  obtain ⟨q, _, rfl⟩ := List.mem_map.mp hp
  exact q.2⟩
theorem len_app (x y : Str) : (x ++ y).length = x.length + y.length := by
  show (x.cps ++ y.cps).size = _
  rw [Array.size_append]
  rfl
theorem len_join (y : Str) (n m : Nat) (hy : y.length ≤ m) : ∀ parts : List Str, (∀ p ∈ parts, p.length ≤ n) → (Str.join y parts).length ≤ parts.length * (n + m)
  | [], _ => by
    show (Str.join y []).length ≤ _
    exact Nat.zero_le _
  | [p], h => by
    have := h p List.mem_cons_self
    show p.length ≤ 1 * (n + m)
    omega
  | p :: q :: r, h => by
    have h1 := h p List.mem_cons_self
    have h2 := len_join y n m hy (q :: r) fun a ha => h a (List.mem_cons_of_mem _ ha)
    show (p ++ y ++ Str.join y (q :: r)).length ≤ (q :: r).length.succ * (n + m)
    rw [len_app, len_app, Nat.succ_mul]
    omega
theorem name_no {c : Nm} (h : NameOk c) {s : Nat} (h1 : s ∉ cps nmLetters) (h2 : s ∉ cps nmFigures) : s ∉ tl c.1 := fun hs => by
  rcases h.all s hs with z | z
  · exact h1 z
  · exact h2 z
theorem textOk {cs : List Nm} (hn : ∀ c ∈ cs, NameOk c) (h0 : cs ≠ []) (hf : cs.length ≤ 12) (nd : cs.Nodup) : TextOk (textOf cs) cs (cs.map lnOf) where
  few := by
    have h := len_join nmLine.1 13 1 (by decide +kernel) ((cs.map lnOf).map (·.1)) fun p hp => by
      obtain ⟨q, hq, rfl⟩ := List.mem_map.mp hp
      obtain ⟨c, hc, rfl⟩ := List.mem_map.mp hq
      have := (hn c hc).few
      show (nmCopySp.1 ++ c.1).length ≤ 13
      rw [len_app]
      have : nmCopySp.1.length = 5 := by decide +kernel
      omega
    show (Txt.join nmLine.1 ((cs.map lnOf).map (·.1))).length ≤ 100000
    rw [join_eq]
    rw [List.length_map, List.length_map] at h
    omega
  lines := by
    refine split_join (y := "\n") (s := 10) (S := []) rfl (by decide +kernel) (fun e => h0 ?_) fun p hp => ?_
    · exact List.map_eq_nil_iff.mp (List.map_eq_nil_iff.mp e)
    · obtain ⟨q, hq, rfl⟩ := List.mem_map.mp hp
      obtain ⟨c, hc, rfl⟩ := List.mem_map.mp hq
      show 10 ∉ tl (nmCopySp.1 ++ c.1)
      rw [tl_append, List.mem_append, not_or]
      exact ⟨by decide +kernel, name_no (hn c hc) (by decide +kernel) (by decide +kernel)⟩
  len := List.length_map _
  each := fun i ln nm h1 h2 => by
    rw [List.getElem?_map, h2] at h1
    cases h1
    have hnm : nm ∈ cs := List.mem_of_getElem? h2
    have hk := hn nm hnm
    have hlen : (nmCopySp.1 ++ nm.1).length = nmCopySp.1.length + nm.1.length := len_app _ _
    refine ⟨?_, ?_, hk⟩
    · show (nmCopySp.1 ++ nm.1).length ≤ 1000
      rw [hlen]
      have := hk.few
      have : nmCopySp.1.length = 5 := by decide +kernel
      omega
    · have e : (lnOf nm).1 = Txt.join " " ([nmCopy, nm].map (·.1)) := by
        rw [join_eq]
        show nmCopySp.1 ++ nm.1 = nmCopy.1 ++ " " ++ nm.1
        rw [show nmCopySp.1 = nmCopy.1 ++ " " from by decide +kernel]
      rw [e]
      refine split_join (y := " ") (s := 32) (S := []) rfl (by decide +kernel) (by simp) fun p hp => ?_
      rcases List.mem_cons.mp hp with z | z
      · rw [z]
        decide +kernel
      · have z : p ∈ [nm.1] := z
        rw [List.mem_singleton.mp z]
        exact name_no hk (by decide +kernel) (by decide +kernel)
  nd := nd
  cf := hf
abbrev spText (T : Tb) (K : PySem.W.Frag) : Sp := spF T (fun z : List Nm => [(is K z).r, seqR K ([] : List (Nm × Nm))]) (fun z => z.length ≤ 12 ∧ ∀ c ∈ z, NameOk c) fun z _ => (is K (textOf z)).p
theorem ok_text (F : Fdef K mg "_law_text" s_law_text) : Cal P w K mg base 1 "_law_text" (spText T K) := by
  refine cal_of F sc_law_text (fun _ => rfl) (fun _ _ _ _ _ _ us hl => match us, hl with | [_, _], _ => rfl) (fun z f cdv A outer s H E hz hr => ?_)
  have hfew := hz.1
  have h5 : nmCopySp.1.length = 5 := by decide +kernel
  have hsum : ∀ l : List Nm, (∀ c ∈ l, NameOk c) → (((l.map lnOf).map (·.1)).map (·.length)).sum ≤ l.length * 13 := by
    intro l
    induction l with
    | nil => intro _; exact Nat.zero_le _
    | cons c l ih =>
      intro h
      have h1 := ih fun d hd => h d (List.mem_cons_of_mem _ hd)
      have h2 := (h c List.mem_cons_self).few
      have h3 : (lnOf c).1.length = nmCopySp.1.length + c.1.length := len_app _ _
      rw [List.map_cons, List.map_cons, List.map_cons, List.sum_cons, List.length_cons, Nat.succ_mul]
      omega
  have hs := hsum z hz.2
  refine ss_cons (ρ1 := [.r (is K z).r, .r (seqR K ([] : List (Nm × Nm))), .o (lstO K (z.map lnOf)), .u, .u, .u, .u]) (s_lcM (gt := is K) 2 5 [("copy", 5)] lnOf (w_tup (e_par (P := (is K z).r) 0 rfl)) sc_law_text.nd (blkOk_by (N := N_law_text) (sc := defScope s_law_text) (by decide +kernel)) (by omega)
    (fun _ _ _ _ _ => pg_name (i := 5) sc_law_text.nd rfl (Or.inl rfl)) (fun _ _ _ _ _ c hc => by exact e_addS (e_nm nmCopySp) (e_var (P := is K c) 5 rfl) (by have := (hz.2 c hc).few; omega) rfl) fun _ _ _ en => en) ?_
  refine ss_cons (ρ1 := [.r (is K z).r, .r (seqR K ([] : List (Nm × Nm))), .o (lstO K (z.map lnOf)), .u, .u, .u, .u]) (s_for (xs := ([] : List (Nm × Nm))) (gt := is K) (fun pre => [.r (is K z).r, .r (seqR K ([] : List (Nm × Nm))), .o (lstO K (z.map lnOf)), .u, .u, .u, .u]) (fun pre a => [.r (is K z).r, .r (seqR K ([] : List (Nm × Nm))), .o (lstO K (z.map lnOf)), .t (is K a.1), .t (is K a.2), .u, .u])
    (w_par (xs := ([] : List (Nm × Nm))) 1 rfl) (pg_two (i := 3) (j := 4) rfl sc_law_text.nd rfl rfl (Or.inl rfl) (Or.inl rfl) (Or.inl rfl) (Or.inl rfl)) (Wk.refl _) (js := [3, 4]) (fun pre a post _ => by exact tg_pair (i := 3) (j := 4) (pair_is a)) (fun pre a post e => absurd e (by simp)) fun _ _ _ en => en) ?_
  exact ss_one (s_ret (e_join (x := nmLine) (z := textOf z) (xs := z.map lnOf) (e_nm nmLine) (e_ownL 2 rfl) (by
    have : nmLine.1.length = 1 := by decide +kernel
    rw [List.length_map, this]
    omega) rfl) fun v H _ p => p)
end
end Pg
set_option maxHeartbeats 4000000
namespace Pg
open PySem PySem.Spec PyProof.Rows L2 Cf NdefX PySem.W
section
variable {P : Program} {w : World} {K : PySem.W.Frag} {mg : Str → Option Value} {base : Heap} {T : Tb}
/-! ### _law_take -/
abbrev spTake (T : Tb) (K : PySem.W.Frag) : Sp := spD T (fun _ : Nat => 1) (fun u => [(is K ((u : Nat) : Int)).r]) (fun u => 0 < u ∧ u < 1073741824) fun u _ => (below K u).p
theorem lst_of_pot {a : Addr} {z : Int × Int × Int} {v : V} {S : Addr → Prop} {H : Hp} (h : (potX a z).p v S H) : (lstR K [z.1, z.2.1, z.2.2]).p v H := by
  obtain ⟨h1, _, h3⟩ := h
  exact ⟨a, _, h1, SqL.of h3, .cons (.int _) (.cons (.int _) (.cons (.int _) .nil))⟩
abbrev takePrimes : List Int := [2147483647, 2147483629, 2147483587, 2147483579, 2147483563]
theorem allP_ints {H : Hp} : ∀ {xs : List Int} {vs : List V}, AllP (xs.map fun x => (is K x).r) vs H → DpAll K H vs (encs xs)
  | [], [], _ => .nil
  | _ :: _, _ :: _, h => .cons h.1 (allP_ints h.2)
  | [], _ :: _, h => h.elim
  | _ :: _, [], h => h.elim
theorem primes_at {k : Int} (h : 0 ≤ k) : ∃ (i : Nat) (q : Int), k % 5 = (i : Int) ∧ takePrimes[i]? = some q ∧ 0 < q ∧ q < 2147483648 := by
  obtain ⟨i, hi⟩ := Int.eq_ofNat_of_zero_le (Int.emod_nonneg k (by decide : (5 : Int) ≠ 0))
  have h5 := Int.emod_lt_of_pos k (by decide : (0 : Int) < 5)
  rw [hi] at h5
  have : i < 5 := by omega
  refine ⟨i, takePrimes.getD i 0, hi, ?_⟩
  rcases i with _ | _ | _ | _ | _ | i <;> first | exact ⟨rfl, by decide, by decide⟩ | omega
theorem ok_take (F : Fdef K mg "_law_take" s_law_take) (G : Bl mg) : Cal P w K mg base 1 "_law_take" (spTake T K) := by
  refine cal_ofD F sc_law_take (fun _ => rfl) (fun _ _ _ _ _ _ us hl => match us, hl with | [_, _], _ => rfl) (fun u n a f cdv A outer s H E hz hr hr2 => ?_)
  obtain ⟨hu0, hu1⟩ := hz
  refine ss_openO 0 rfl fun z hz => ?_
  show Ss T (mi a H) _ [.o (potX a z), .r (is K ((u : Nat) : Int)).r, .u, .u, .u] _ _
  have hdiv : CDiv z.1 ((u : Nat) : Int) := ⟨by omega, by omega⟩
  have digit : ∀ x : Int, ∃ i : Nat, x % ((u : Nat) : Int) = (i : Int) ∧ i < u := fun x => by
    obtain ⟨i, hi⟩ := Int.eq_ofNat_of_zero_le (Int.emod_nonneg x (show ((u : Nat) : Int) ≠ 0 by omega))
    have := Int.emod_lt_of_pos x (show (0 : Int) < ((u : Nat) : Int) by omega)
    exact ⟨i, hi, by omega⟩
  have hx := hz.x0
  have hy0 := hz.y0
  have hy1 := hz.y1
  have hk0 := hz.k0
  have hk1 := hz.k1
  refine ss_cons (ρ1 := [.o (potX a z), .r (is K ((u : Nat) : Int)).r, .u, .u, .u]) (s_if (k := decide (0 < z.1)) (b_cm (c_gt (x := z.1) (y := 0) (e_ixL (i := 0) (xs := [z.1, z.2.1, z.2.2]) (e_own (O := potX a z) 0 rfl fun v S H h => lst_of_pot h) e_int rfl) e_int)) (fun _ => ?_) fun _ => ss_nil fun _ _ _ en => en) ?_
  · obtain ⟨i, hi, hiu⟩ := digit z.1
    refine ss_cons (ρ1 := [.o (potX a z), .r (is K ((u : Nat) : Int)).r, .t (is K (z.1 % ((u : Nat) : Int))), .u, .u]) (s_set 2 sc_law_take.nd (e_mod (x := z.1) (y := ((u : Nat) : Int)) (e_intOf (e_ixL (i := 0) (xs := [z.1, z.2.1, z.2.2]) (e_own (O := potX a z) 0 rfl fun v S H h => lst_of_pot h) e_int rfl) G.int) (e_par (P := (is K ((u : Nat) : Int)).r) 1 rfl) (by omega)) fun _ _ _ en => en) ?_
    refine ss_cons (ρ1 := [.o (potX a (z.1 / ((u : Nat) : Int), z.2.1, z.2.2)), .r (is K ((u : Nat) : Int)).r, .t (is K (z.1 % ((u : Nat) : Int))), .u, .u]) (s_setIx (O := potX a z) (O' := potX a (z.1 / ((u : Nat) : Int), z.2.1, z.2.2)) (P := is K (z.1 / ((u : Nat) : Int))) (j := 0) 0 rfl (e_fdiv (e_ixL (i := 0) (xs := [z.1, z.2.1, z.2.2]) (e_own (O := potX a z) 0 rfl fun v S H h => lst_of_pot h) e_int rfl) (e_par (P := (is K ((u : Nat) : Int)).r) 1 rfl) hdiv) e_int
      (fun v S H x ⟨h1, h2, h3⟩ hp => ⟨a, _, h1, by rw [h2], h3, (by show 0 < 3; decide), h1, h2, by rw [is_int.mp hp]; exact upd_same⟩) fun _ _ _ en => en) ?_
    refine ss_last (s_retW (P := (is K (z.1 % ((u : Nat) : Int))).p) (e_var 2 rfl) fun v H' H0 σ en p => ?_)
    have en' : En T (mi a H) H0 (pt a (n + 1) [.r (is K ((u : Nat) : Int)).r, .t (is K (z.1 % ((u : Nat) : Int))), .u, .u]) σ H' := en.less (i := 0) (A := .o (potX a (z.1 / ((u : Nat) : Int), z.2.1, z.2.2))) (A' := .o (potO a (n + 1))) rfl fun S s ⟨v, h1, h2⟩ => ⟨v, h1, (z.1 / ((u : Nat) : Int), z.2.1, z.2.2), ⟨Int.ediv_nonneg hx (by omega), hy0, hy1, hk0, by show z.2.2 ≤ ((n + 1 : Nat) : Int); omega⟩, h2⟩
    exact ⟨en'.pot.2.1, i, hiu, is_int.mpr (by rw [is_int.mp p, hi])⟩
  · have hkk : 0 ≤ z.2.2 + 1 ∧ z.2.2 + 1 ≤ 16384 := by
      have hB : PotB = 16384 := rfl
      omega
    obtain ⟨kk, ekk⟩ : ∃ kk, kk = z.2.2 + 1 := ⟨_, rfl⟩
    rw [← ekk] at hkk
    obtain ⟨hkk0, hkk1⟩ := hkk
    obtain ⟨y, ey⟩ : ∃ y, y = z.2.1 := ⟨_, rfl⟩
    rw [← ey] at hy0 hy1
    obtain ⟨x, ex⟩ : ∃ x, x = z.1 := ⟨_, rfl⟩
    rw [← ex] at hx
    refine ss_cons (ρ1 := [.o (potX a (x, y, kk)), .r (is K ((u : Nat) : Int)).r, .u, .u, .u]) (s_setIx (O := potX a z) (O' := potX a (x, y, kk)) (P := is K kk) (j := 2) 0 rfl (e_cast (f := fun i : Int => (is K i).p) (e_add (x := z.2.2) (y := 1) (e_ixL (i := 2) (xs := [z.1, z.2.1, z.2.2]) (e_own (O := potX a z) 0 rfl fun v S H h => lst_of_pot h) e_int rfl) e_int) ekk.symm) e_int
      (fun v S H x ⟨h1, h2, h3⟩ hp => ⟨a, _, h1, by rw [h2], h3, (by show 2 < 3; decide), h1, h2, by rw [is_int.mp hp, ex, ey]; exact upd_same⟩) fun _ _ _ en => en) ?_
    obtain ⟨i, q, hi, hq, hq0, hq1⟩ := primes_at hkk0
    refine ss_cons (ρ1 := [.o (potX a (x, y, kk)), .r (is K ((u : Nat) : Int)).r, .u, .t (is K q), .u]) (s_set 3 sc_law_take.nd (e_ixL (i := i) (xs := takePrimes) (e_newL (n_lstA (xs := takePrimes) (Ps := takePrimes.map fun x => (is K x).r) (as_cons (P := (is K _).r) e_int (as_cons (P := (is K _).r) e_int (as_cons (P := (is K _).r) e_int (as_cons (P := (is K _).r) e_int (as_cons (P := (is K _).r) e_int as_nil))))) (by decide) (fun vs H p => allP_ints p)))
      (e_cast (f := fun i : Int => (is K i).p) (e_mod (x := kk) (y := 5) (e_intOf (e_ixL (i := 2) (xs := [x, y, kk]) (e_own (O := potX a (x, y, kk)) 0 rfl fun v S H h => lst_of_pot h) e_int rfl) G.int) e_int (by decide)) hi) hq) fun _ _ _ en => en) ?_
    obtain ⟨base, hbase⟩ : ∃ base, base = y + 88741 * kk * kk + 211 := ⟨_, rfl⟩
    have hsq : 0 ≤ kk * kk ∧ kk * kk ≤ 16384 * 16384 := ⟨Int.mul_nonneg hkk0 hkk0, Int.mul_le_mul hkk1 hkk1 hkk0 (by decide)⟩
    have e3 : 88741 * kk * kk = 88741 * (kk * kk) := Int.mul_assoc _ _ _
    have hb0 : 0 ≤ base ∧ base < 4611686018427387904 := by omega
    obtain ⟨m1, hm1⟩ : ∃ m1, m1 = base ^ (3 : Int).toNat % q := ⟨_, rfl⟩
    have hm10 : 0 ≤ m1 := by rw [hm1]; exact Int.emod_nonneg _ (by omega)
    have hm11 : m1 < 2147483648 := by
      have := Int.emod_lt_of_pos (base ^ (3 : Int).toNat) hq0
      omega
    refine ss_cons (ρ1 := [.o (potX a (x, y, kk)), .r (is K ((u : Nat) : Int)).r, .u, .t (is K q), .t (is K m1)]) (s_set 4 sc_law_take.nd (e_cast (f := fun i : Int => (is K i).p) (e_mod (e_intOf (e_pow (x := base) (y := 3) (e_intOf (e_cast (f := fun i : Int => (is K i).p) (e_add (e_add (x := y) (e_ixL (i := 1) (xs := [x, y, kk]) (e_own (O := potX a (x, y, kk)) 0 rfl fun v S H h => lst_of_pot h) e_int rfl)
      (e_mulC (y := kk) (e_mulC (x := 88741) (y := kk) e_int (e_ixL (i := 2) (xs := [x, y, kk]) (e_own (O := potX a (x, y, kk)) 0 rfl fun v S H h => lst_of_pot h) e_int rfl) (.inl ⟨by decide, by decide⟩)) (e_ixL (i := 2) (xs := [x, y, kk]) (e_own (O := potX a (x, y, kk)) 0 rfl fun v S H h => lst_of_pot h) e_int rfl) (.inr ⟨by omega, by omega⟩))) e_int) hbase.symm) G.int) e_int ⟨by decide, by decide, by omega⟩) G.int) (e_var (P := is K q) 3 rfl) hq0) hm1.symm) fun _ _ _ en => en) ?_
    obtain ⟨f2, hf2⟩ : ∃ f2, f2 = m1 % 10333 + 127 * kk := ⟨_, rfl⟩
    obtain ⟨m2, hm2⟩ : ∃ m2, m2 = m1 * f2 % 2305843009213693907 := ⟨_, rfl⟩
    refine ss_cons (ρ1 := [.o (potX a (x, y, kk)), .r (is K ((u : Nat) : Int)).r, .u, .t (is K q), .t (is K m2)]) (s_set 4 sc_law_take.nd (e_cast (f := fun i : Int => (is K i).p) (e_mod (e_intOf (e_mulC (x := m1) (y := f2) (e_var (P := is K m1) 4 rfl) (e_cast (f := fun i : Int => (is K i).p) (e_add (e_mod (y := 10333) (e_intOf (e_var (P := is K m1) 4 rfl) G.int) e_int (by decide)) (e_mulC (x := 127) (y := kk) e_int (e_ixL (i := 2) (xs := [x, y, kk]) (e_own (O := potX a (x, y, kk)) 0 rfl fun v S H h => lst_of_pot h) e_int rfl) (.inl ⟨by decide, by decide⟩))) hf2.symm) (.inl ⟨by omega, by omega⟩)) G.int) e_int (by decide)) hm2.symm) fun _ _ _ en => en) ?_
    obtain ⟨i2, hi2, hiu2⟩ := digit (m2 / 197)
    refine ss_one (s_retW (P := (is K ((i2 : Nat) : Int)).p) (e_cast (f := fun i : Int => (is K i).p) (e_mod (x := m2 / 197) (y := ((u : Nat) : Int)) (e_intOf (e_fdiv (e_var (P := is K m2) 4 rfl) e_int ⟨by decide, by decide⟩) G.int) (e_par (P := (is K ((u : Nat) : Int)).r) 1 rfl) (by omega)) hi2) fun v H' H0 σ en p => ?_)
    have en' : En T (mi a H) H0 (pt a (n + 1) [.r (is K ((u : Nat) : Int)).r, .u, .t (is K q), .t (is K m2)]) σ H' := en.less (i := 0) (A := .o (potX a (x, y, kk))) (A' := .o (potO a (n + 1))) rfl fun S s ⟨v, h1, h2⟩ => ⟨v, h1, (x, y, kk), ⟨hx, hy0, hy1, hkk0, by show kk ≤ ((n + 1 : Nat) : Int); omega⟩, h2⟩
    exact ⟨en'.pot.2.1, i2, hiu2, is_int.mpr (is_int.mp p)⟩
end
end Pg
set_option maxHeartbeats 4000000
namespace Cf
open PySem PySem.Spec PyProof.Rows L2 PySem.W
/-- what can be counted and taken from: its items are of one kind -/
structure SeqLike (K : PySem.W.Frag) (z : RP × Nat × RP) : Prop where
  seq : ∀ v H, z.1.p v H → ∃ l vs, v = .ref l ∧ SqL K H l vs ∧ vs.length = z.2.1 ∧ ∀ u ∈ vs, z.2.2.p u H
  pos : 0 < z.2.1
  few : z.2.1 < 1000000
section
variable {T : Tb} {R : Hp} {X : Cx} {ρ : List AV} {e b : Expr} {pos p p1 p2 : Pos} {a : Addr} {ρt : List AV} {n m : Nat}
theorem e_lenQ {z : RP × Nat × RP} (s : SeqLike X.K z) (h : E T R X ρ e z.1.p) (hm : X.mg "len" = none) (hs : starEach [e] X.env = (false, eval e X.env) :: starEach [] X.env := by rfl) (hg : Gl X "len" := by rfl) (hpl : (backTo pos (starEach [] X.env)).any (·.1) = false := by rfl) : E T R X ρ (.Call (.Name "len" p) [e] [] pos) (is X.K ((z.2.1 : Nat) : Int)).p :=
  e_callB call_len_seq hm PySem.boot_len (as_one h hs) (fun vs H Q _ hp k => by
    obtain ⟨v, rfl, h1⟩ := allP1 hp
    obtain ⟨l, ws, rfl, h2, h3, _⟩ := s.seq _ _ h1
    refine ⟨l, ws, rfl, .inl h2, k _ H (Ex.refl H) (is_int.mpr ?_)⟩
    rw [h3]) hg (by decide) (by decide) hs hpl
/-- x[i], i drawn -/
theorem d_ixQ {z : RP × Nat × RP} {x : Str} (i : Nat) (s : SeqLike X.K z) (hr : ρt[i]? = some (.r z.1)) (hD : D T R X a ρt n m b (below X.K z.2.1).p) (hs : PlainIx b := by exact fun _ _ => rfl) (hN : X.N[i + 1]? = some x := by rfl) (hv : Vis X.env.scope x := by first | exact Or.inl rfl | exact Or.inr (Or.inl rfl) | exact Or.inr (Or.inr rfl))
    (hd : (x == ("__debug__" : Str)) = false := by decide) (hcd : (x == ("__classdict__" : Str)) = false := by decide) : D T R X a ρt n m (.Subscript (.Name x p) b pos) z.2.2.p :=
  d_of (pe_ix ix_list (pe_var hN hv hd hcd) hD hs) fun σ H H0 Q en q => by
    obtain ⟨S, v, h1, h2⟩ := en.slot (i := i + 1) (a := .r z.1) hr
    refine ⟨v, h1, H0, en, fun y H' e1 x1 ⟨k, hk, py⟩ => ?_⟩
    obtain ⟨_, ⟨zz, _, h3⟩, h0⟩ := e1.pot
    have hR : R a = none := e1.ex0.bk a h0
    have h4 : z.1.p v (mi a H') := z.1.st _ _ _ (fun b o e nt => by rw [mi_ne fun z => by rw [z, hR] at e; cases e]; exact e1.exR.ext b o e nt) h2
    obtain ⟨l, vs, rfl, g1, g2, g3⟩ := s.seq _ _ h4
    have hk' : k < vs.length := by rw [g2]; exact hk
    exact ⟨l, vs, ((k : Nat) : Int), vs[k], rfl, is_int.mp py, sql_ex (ex_mi (T := T) h3).ext g1, atI_get (List.getElem?_eq_getElem hk'), q _ H' e1 x1 (g3 _ (List.getElem_mem hk'))⟩
end
end Cf
namespace Pg
open PySem PySem.Spec PyProof.Rows L2 Cf NdefX PySem.W
section
variable {P : Program} {w : World} {K : PySem.W.Frag} {mg : Str → Option Value} {base : Heap} {T : Tb}
/-! ### _law_of -/
abbrev spOf (T : Tb) (K : PySem.W.Frag) : Sp := spD T (fun _ : RP × Nat × RP => 1) (fun z => [z.1]) (fun z => SeqLike K z) fun z _ => z.2.2.p
theorem ok_of (F : Fdef K mg "_law_of" s_law_of) (G : Bl mg) (c1 : Cal P w K mg base 1 "_law_take" (spTake T K)) : Cal P w K mg base 2 "_law_of" (spOf T K) := by
  refine cal_ofD F sc_law_of (fun _ => rfl) (fun _ _ _ _ _ _ us hl => match us, hl with | [_, _], _ => rfl) (fun z n a f cdv A outer s H E hz hr hr2 => ?_)
  exact ss_one (s_retD (d_ixQ (z := z) 0 hz rfl (d_call c1 hr2 (by omega) z.2.1 ⟨hz.pos, Nat.lt_trans hz.few (by decide)⟩ hr (da_cons (P := (is K ((z.2.1 : Nat) : Int)).r) (d_t (P := is K ((z.2.1 : Nat) : Int)) (e_lenQ hz (e_par 1 rfl) G.len)) da_nil) fun _ _ _ _ p => p)) fun v H hp x p => ⟨hp, p⟩)
/-! ### _law_cells -/
end
end Pg
set_option maxHeartbeats 4000000
namespace Cf
open PySem PySem.Spec PyProof.Rows L2 PySem.W
section
variable {T : Tb} {R : Hp} {X : Cx} {ρ ρ' : List AV} {a : Addr} {ρt : List AV} {n m : Nat} {e b : Expr} {pos p p1 p2 p3 p4 : Pos} {Eo : Po}
theorem xe_mono {Ψ Ψ' : V → Hp → L2.St → Hp → Prop} (h : XE T R X ρ e Ψ) (k : ∀ v H0 σ H', Ψ v H0 σ H' → Ψ' v H0 σ H') : XE T R X ρ e Ψ' :=
  xe_of h fun σ H H0 Q en q => ⟨H0, en, fun v H' p => q v H' (k _ _ _ _ p)⟩
/-- return of what is ours, in a def that draws -/
theorem s_retOD (i : Nat) {x : Str} {O : OP} (hr : ρt[i]? = some (.o O)) (k : ∀ v S H, PotAt a n H → (∀ b, S b → R b = none) → Ex T R H → O.p v S (mi a H) → Eo.rt v H) (hN : X.N[i + 1]? = some x := by rfl) (hv : Vis X.env.scope x := by first | exact Or.inl rfl | exact Or.inr (Or.inl rfl) | exact Or.inr (Or.inr rfl))
    (hd : (x == ("__debug__" : Str)) = false := by decide) (hcd : (x == ("__classdict__" : Str)) = false := by decide) : S T R X (pt a n ρt) (.Return (some (.Name x pos)) p2) Eo :=
  s_of (ps_ret (pe_var hN hv hd hcd)) fun D σ H H0 en nn r b c => by
    obtain ⟨F, w⟩ := en.own
    obtain ⟨v, h1, h2⟩ : ∃ v, σ[i + 1]? = some (some v) ∧ O.p v (F (i + 1)) H := w.ok (i + 1) _ hr
    obtain ⟨v0, _, z, _, _, g2, g3⟩ : ∃ v, σ[0]? = some (some v) ∧ (potO a n).p v (F 0) H := w.ok 0 _ rfl
    have off : ∀ b, F (i + 1) b → b ≠ a := fun b hb z => by
      have := w.one (i + 1) 0 a (z ▸ hb) (by rw [g2])
      omega
    exact ⟨v, h1, r v H en.exR (k v _ H en.pot.2.1 (fun a ha => en.ex0.bk a (w.new (i + 1) a ha)) en.exR (O.st _ _ _ _ (ez_mi g3) (fun b hb => mi_ne (off b hb)) h2))⟩
end
theorem perm_erase {α : Type} : ∀ {l : List α} {k : Nat} {x : α}, l[k]? = some x → (x :: l.eraseIdx k).Perm l
  | [], _, _, h => by cases h
  | y :: l, 0, x, h => by
    cases h
    exact .refl _
  | y :: l, k + 1, x, h => (List.Perm.swap y x _).trans ((perm_erase (l := l) h).cons y)
end Cf
namespace Pg
open PySem PySem.Spec PyProof.Rows L2 Cf NdefX PySem.W
section
variable {T : Tb} {R : Hp} {X : Cx} {a : Addr} {ρt : List AV} {n m : Nat} {e : Expr} {pos p p1 : Pos}
theorem d_take {j u : Nat} {x0 : Str} (c1 : Cal X.prog X.w X.K X.mg X.base 1 "_law_take" (spTake T X.K)) (hr : Room j X.A) (hj : 1 ≤ j) (hu : 0 < u) (hu1 : u ≤ 1000000) (hn : m + 1 ≤ PotB) (he : D T R X a ρt n m e (is X.K ((u : Nat) : Int)).p) (hg : Gl X "_law_take" := by rfl)
    (hN : X.N[0]? = some x0 := by rfl) (hv : Vis X.env.scope x0 := by first | exact Or.inl rfl | exact Or.inr (Or.inl rfl) | exact Or.inr (Or.inr rfl)) (hd0 : (x0 == ("__debug__" : Str)) = false := by decide) (hcd : (x0 == ("__classdict__" : Str)) = false := by decide)
    (hs : starEach [e] X.env = (false, eval e X.env) :: starEach [] X.env := by rfl) (he2 : starEach [.Name x0 p1, e] X.env = (false, eval (.Name x0 p1) X.env) :: starEach [e] X.env := by rfl) (hpl : (backTo pos (starEach [e] X.env)).any (·.1) = false := by rfl) :
    D T R X a ρt n (m + 1) (.Call (.Name "_law_take" p) [.Name x0 p1, e] [] pos) (below X.K u).p :=
  d_call (cost := fun _ : Nat => 1) (Ps := fun u => [(is X.K ((u : Nat) : Int)).r]) (φ := fun u => 0 < u ∧ u < 1073741824) (Pf := fun u _ => (below X.K u).p) c1 hr hj u ⟨hu, by omega⟩ hn (da_cons (P := (is X.K ((u : Nat) : Int)).r) he da_nil hs) (fun _ _ _ _ p => p) hg hN hv hd0 hcd (by decide) he2 hpl
end
section
variable {P : Program} {w : World} {K : PySem.W.Frag} {mg : Str → Option Value} {base : Heap} {T : Tb}
/-! ### _law_some -/
abbrev SomeOf (xs : List Nm) (many : Nat) (ys : List Nm) : Prop := ys.length = many ∧ ∃ rest, (ys ++ rest).Perm xs
abbrev someO (K : PySem.W.Frag) (xs : List Nm) (many : Nat) : OP := exO (SomeOf xs many) (lstO K)
abbrev spSome (T : Tb) (K : PySem.W.Frag) : Sp := spD T (fun z : List Nm × Nat => z.2) (fun z => [seqR K z.1, (is K ((z.2 : Nat) : Int)).r]) (fun z => z.2 ≤ z.1.length ∧ z.1.length ≤ 1000) fun z => nw (someO K z.1 z.2)
theorem ok_some (F : Fdef K mg "_law_some" s_law_some) (G : Bl mg) (c1 : Cal P w K mg base 1 "_law_take" (spTake T K)) : Cal P w K mg base 2 "_law_some" (spSome T K) := by
  refine cal_ofD F sc_law_some (fun _ => rfl) (fun _ _ _ _ _ _ us hl => match us, hl with | [_, _, _], _ => rfl) (fun z n a f cdv A outer s H E hz hr hr2 => ?_)
  obtain ⟨hz1, hz2⟩ := hz
  refine ss_cons (ρ1 := pt a n [.r (seqR K z.1), .r (is K ((z.2 : Nat) : Int)).r, .o (lstO K z.1), .o (lstO K ([] : List Nm)), .u]) (s_parNN (O1 := lstO K z.1) (O2 := lstO K ([] : List Nm)) 3 4 sc_law_some.nd (n_listOf (e_par 1 rfl) G.list) n_lst0 (by decide) fun _ _ _ en => en) ?_
  refine ss_cons (ρ1 := pt a (n + z.2) [.r (seqR K z.1), .r (is K ((z.2 : Nat) : Int)).r, .u, .o (someO K z.1 z.2), .u]) (s_forE (ζ := List Nm × List Nm) (xs := List.range z.2) (gt := fun i => is K ((i : Nat) : Int)) (fun pre y => y.2.length = pre.length ∧ (y.2 ++ y.1).Perm z.1)
    (fun pre y => pt a (n + pre.length) [.r (seqR K z.1), .r (is K ((z.2 : Nat) : Int)).r, .o (lstO K y.1), .o (lstO K y.2), .u]) (fun pre y i => pt a (n + pre.length) [.r (seqR K z.1), .r (is K ((z.2 : Nat) : Int)).r, .o (lstO K y.1), .o (lstO K y.2), .t (is K ((i : Nat) : Int))]) (z.1, [])
    (w_range (e_par (P := (is K ((z.2 : Nat) : Int)).r) 2 rfl) (by omega) G.range) (pg_name (i := 5) sc_law_some.nd rfl (Or.inl rfl)) ⟨rfl, .refl _⟩ (Wk.refl _) (js := [5]) (fun pre i post y _ _ => by exact tg_name (i := 5) (P := is K ((i : Nat) : Int))) (fun pre i post y e hy => ?_) (fun H0 σ H y hy en => ?_)) ?_
  · obtain ⟨left, found⟩ := y
    obtain ⟨h1, h2⟩ := hy
    have h1 : found.length = pre.length := h1
    have h2 : (found ++ left).Perm z.1 := h2
    have h3 := h2.length_eq
    rw [List.length_append] at h3
    have h4 := congrArg List.length e
    rw [List.length_range] at h4
    simp only [List.length_append, List.length_cons] at h4
    have hr : n + z.2 ≤ PotB := hr
    refine ss_one (s_appendX (ζ := Nat × Nm) (φ := fun q => left[q.1]? = some q.2) (ρ1 := fun q => pt a (n + pre.length + 1) [.r (seqR K z.1), .r (is K ((z.2 : Nat) : Int)).r, .o (lstO K (left.eraseIdx q.1)), .o (lstO K found), .t (is K ((i : Nat) : Int))]) (xs0 := found) (xs := fun _ => found) (z := fun q => q.2) 4 rfl
      (xe_mono (xe_popD (xs := left) (m := n + pre.length + 1) 2 rfl (by omega) (d_take (m := n + pre.length) (u := left.length) c1 hr2 (by omega) (by omega) (by omega) (by omega) (d_t (P := is K ((left.length : Nat) : Int)) (e_len (e_seqL (e_ownL 3 rfl)) G.len)))) fun v H0 σ H' ⟨k, y, q1, q2, q3⟩ => ⟨(k, y), q1, q2, q3⟩)
      (fun q hq => rfl) (fun q hq => by omega) fun q H0 σ H hq en => ?_)
    refine ⟨(left.eraseIdx q.1, found ++ [q.2]), ⟨by simp only [List.length_append, List.length_cons, List.length_nil]; omega, ?_⟩, ?_⟩
    · have h5 := perm_erase (show left[q.1]? = some q.2 from hq)
      show (found ++ [q.2] ++ left.eraseIdx q.1).Perm z.1
      rw [List.append_assoc]
      exact (h5.append_left found).trans h2
    · have e2 : n + (pre ++ [i]).length = n + pre.length + 1 := by rw [List.length_append, List.length_singleton, Nat.add_assoc]
      rw [e2]
      exact en.weak (.same (.same (.same (.same (.same (.drop .nil))))))
  · obtain ⟨left, found⟩ := y
    obtain ⟨h1, h2⟩ := hy
    rw [List.length_range] at h1 en
    have en2 := en.less (i := 4) (A := .o (lstO K found)) (A' := .o (someO K z.1 z.2)) rfl fun S s ⟨v, q1, q2⟩ => ⟨v, q1, found, ⟨h1, left, h2⟩, q2⟩
    exact en2.weak (.same (.same (.same (.drop (.same (.same .nil))))))
  · exact ss_one (s_retOD 3 rfl fun v S H hp hS x p => ⟨hp, S, hS, p⟩)
end
end Pg
set_option maxHeartbeats 4000000
namespace Pg
open PySem PySem.Spec PyProof.Rows L2 Cf NdefX PySem.W
section
variable {P : Program} {w : World} {K : PySem.W.Frag} {mg : Str → Option Value} {base : Heap} {T : Tb}
/-! ### _law_names -/
abbrev poolNames : List Nm := [⟨"a", by decide +kernel⟩, ⟨"b", by decide +kernel⟩, ⟨"c", by decide +kernel⟩, ⟨"york", by decide +kernel⟩, ⟨"x9", by decide +kernel⟩, ⟨"copy", by decide +kernel⟩, ⟨"place", by decide +kernel⟩, ⟨"zzzzzzzz", by decide +kernel⟩, ⟨"m1", by decide +kernel⟩, ⟨"rome", by decide +kernel⟩, ⟨"q", by decide +kernel⟩, ⟨"k", by decide +kernel⟩, ⟨"t0", by decide +kernel⟩, ⟨"undo", by decide +kernel⟩]
def nameB (y : Nm) : Bool := decide (0 < y.1.length) && decide (y.1.length ≤ 8) && (match (cps y)[0]? with | some c => decide (c ∈ cps nmLetters) | none => false) && (cps y).all fun c => decide (c ∈ cps nmLetters) || decide (c ∈ cps nmFigures)
theorem name_of {y : Nm} (h : nameB y = true) : NameOk y := by
  unfold nameB at h
  rw [Bool.and_eq_true, Bool.and_eq_true, Bool.and_eq_true] at h
  obtain ⟨⟨⟨h1, h2⟩, h3⟩, h4⟩ := h
  refine ⟨of_decide_eq_true h1, of_decide_eq_true h2, ?_, fun c hc => ?_⟩
  · cases q : (cps y)[0]? with
    | none => rw [q] at h3; cases h3
    | some c =>
      rw [q] at h3
      exact ⟨c, rfl, of_decide_eq_true h3⟩
  · have := List.all_eq_true.mp h4 c hc
    rw [Bool.or_eq_true] at this
    exact this.imp of_decide_eq_true of_decide_eq_true
theorem pool_ok : ∀ c ∈ poolNames, NameOk c := fun c hc => name_of (List.all_eq_true.mp (show poolNames.all nameB = true from by decide +kernel) c hc)
theorem pool_nd : poolNames.Nodup := by decide +kernel
abbrev nmW : Nm := ⟨"w", by decide +kernel⟩
abbrev nmSigns : Nm := ⟨"abcdefghijklmnopqrstuvwxyz0123456789", by decide +kernel⟩
structure WordOk (k : Nat) (y : Nm) : Prop where
  cs : ∃ r, cps y = 119 :: r ∧ r.length = k ∧ ∀ c ∈ r, c ∈ cps nmLetters ∨ c ∈ cps nmFigures
theorem word_name {k : Nat} {y : Nm} (h : WordOk k y) (hk : k < 8) : NameOk y := by
  obtain ⟨r, h1, h2, h3⟩ := h.cs
  have hl : y.1.length = (cps y).length := by simp [Str.length]
  rw [h1, List.length_cons] at hl
  refine ⟨by omega, by omega, ⟨119, by rw [h1]; rfl, by decide +kernel⟩, fun c hc => ?_⟩
  rw [h1] at hc
  rcases List.mem_cons.mp hc with e | e
  · rw [e]
    exact .inl (by decide +kernel)
  · exact h3 c e
theorem word_pool {k : Nat} {y : Nm} (h : WordOk k y) : y ∉ poolNames := fun hm => by
  obtain ⟨r, h1, _, _⟩ := h.cs
  have h2 : (poolNames.all fun c => !decide ((cps c)[0]? = some 119)) = true := by decide +kernel
  have h3 := List.all_eq_true.mp h2 y hm
  rw [h1] at h3
  cases h3
theorem signs_all : ∀ c ∈ cps nmSigns, PyData.strOk ⟨#[c]⟩ = true ∧ (c ∈ cps nmLetters ∨ c ∈ cps nmFigures) := fun c hc => by
  have h : ((cps nmSigns).all fun c => PyData.strOk ⟨#[c]⟩ && (decide (c ∈ cps nmLetters) || decide (c ∈ cps nmFigures))) = true := by decide +kernel
  have := List.all_eq_true.mp h c hc
  rw [Bool.and_eq_true, Bool.or_eq_true] at this
  exact ⟨this.1, this.2.imp of_decide_eq_true of_decide_eq_true⟩
theorem word_next {k : Nat} {y : Nm} (h : WordOk k y) {c : Nat} (hc : c ∈ cps nmSigns) : ∃ z : Nm, z.1 = y.1 ++ ⟨#[c]⟩ ∧ WordOk (k + 1) z := by
  obtain ⟨r, h1, h2, h3⟩ := h.cs
  obtain ⟨g1, g2⟩ := signs_all c hc
  refine ⟨⟨y.1 ++ ⟨#[c]⟩, strOk_app y.2 g1⟩, rfl, r ++ [c], ?_, by rw [List.length_append, h2]; rfl, fun d hd => ?_⟩
  · show (y.1.cps ++ #[c]).toList = 119 :: (r ++ [c])
    rw [Array.toList_append, show y.1.cps.toList = 119 :: r from h1]
    rfl
  · rcases List.mem_append.mp hd with e | e
    · exact h3 d e
    · rw [List.mem_singleton.mp e]
      exact g2
theorem nodup_set {α : Type} : ∀ {l : List α} (k : Nat) {x : α}, l.Nodup → x ∉ l → (l.set k x).Nodup
  | [], _, _, h, _ => h
  | a :: l, 0, x, h, hx => by
    rw [List.nodup_cons] at h
    exact List.nodup_cons.mpr ⟨fun z => hx (List.mem_cons_of_mem _ z), h.2⟩
  | a :: l, k + 1, x, h, hx => by
    rw [List.nodup_cons] at h
    refine List.nodup_cons.mpr ⟨fun z => ?_, nodup_set k h.2 fun z => hx (List.mem_cons_of_mem _ z)⟩
    rcases List.mem_or_eq_of_mem_set z with e | e
    · exact h.1 e
    · exact hx (by rw [← e]; exact List.mem_cons_self)
theorem allP_nms {H : Hp} : ∀ {xs : List Nm} {vs : List V}, AllP (xs.map fun x => (is K x).r) vs H → DpAll K H vs (encs xs)
  | [], [], _ => .nil
  | _ :: _, _ :: _, h => .cons h.1 (allP_nms h.2)
  | [], _ :: _, h => h.elim
  | _ :: _, [], h => h.elim
theorem potO_more {a : Addr} {n m : Nat} (h : n ≤ m) {R H : Hp} (S : Addr → Prop) (s : Option (Option V)) (q : SlotOk R H S (.o (potO a n)) s) : SlotOk R H S (.o (potO a m)) s := by
  obtain ⟨v, h1, z, hz, h2⟩ := q
  exact ⟨v, h1, z, ⟨hz.x0, hz.y0, hz.y1, hz.k0, Int.le_trans hz.k1 (by omega)⟩, h2⟩
structure NamesOk (many : Nat) (ys : List Nm) : Prop where
  len : ys.length = many
  nd : ys.Nodup
  ok : ∀ c ∈ ys, NameOk c
abbrev spNames (T : Tb) (K : PySem.W.Frag) : Sp := spD T (fun many : Nat => many + 10) (fun many => [(is K ((many : Nat) : Int)).r]) (fun many => 0 < many ∧ many ≤ 14) fun many _ => (exT (NamesOk many) (is K)).p
theorem ok_names (F : Fdef K mg "_law_names" s_law_names) (G : Bl mg) (c1 : Cal P w K mg base 1 "_law_take" (spTake T K)) (c2 : Cal P w K mg base 2 "_law_some" (spSome T K)) : Cal P w K mg base 3 "_law_names" (spNames T K) := by
  refine cal_ofD F sc_law_names (fun _ => rfl) (fun _ _ _ _ _ _ us hl => match us, hl with | [_, _], _ => rfl) (fun many n a f cdv A outer s H E hz hr hr2 => ?_)
  obtain ⟨hz1, hz2⟩ := hz
  have hr : n + (many + 10) ≤ PotB := hr
  have hB : PotB = 16384 := rfl
  refine ss_cons (ρ1 := pt a n [.r (is K ((many : Nat) : Int)).r, .o (lstO K poolNames), .u, .u, .u, .u]) (s_setN (O := lstO K poolNames) 2 sc_law_names.nd (n_lstA (xs := poolNames) (Ps := poolNames.map fun x => (is K x).r)
    (as_cons (P := (is K _).r) (e_nm ⟨"a", by decide +kernel⟩) (as_cons (P := (is K _).r) (e_nm ⟨"b", by decide +kernel⟩) (as_cons (P := (is K _).r) (e_nm ⟨"c", by decide +kernel⟩) (as_cons (P := (is K _).r) (e_nm ⟨"york", by decide +kernel⟩) (as_cons (P := (is K _).r) (e_nm ⟨"x9", by decide +kernel⟩) (as_cons (P := (is K _).r) (e_nm ⟨"copy", by decide +kernel⟩) (as_cons (P := (is K _).r) (e_nm ⟨"place", by decide +kernel⟩) (as_cons (P := (is K _).r) (e_nm ⟨"zzzzzzzz", by decide +kernel⟩) (as_cons (P := (is K _).r) (e_nm ⟨"m1", by decide +kernel⟩) (as_cons (P := (is K _).r) (e_nm ⟨"rome", by decide +kernel⟩) (as_cons (P := (is K _).r) (e_nm ⟨"q", by decide +kernel⟩) (as_cons (P := (is K _).r) (e_nm ⟨"k", by decide +kernel⟩) (as_cons (P := (is K _).r) (e_nm ⟨"t0", by decide +kernel⟩) (as_cons (P := (is K _).r) (e_nm ⟨"undo", by decide +kernel⟩) as_nil)))))))))))))) (by decide) (fun vs H p => allP_nms p)) fun _ _ _ en => en) ?_
  refine ss_cons (ρ1 := pt a (n + many) [.r (is K ((many : Nat) : Int)).r, .o (lstO K poolNames), .o (someO K poolNames many), .t (is K nmSigns), .u, .u]) (s_parDE (O := someO K poolNames many) (P := is K nmSigns) 2 4 sc_law_names.nd
    (dn_call (cost := fun z : List Nm × Nat => z.2) (Ps := fun z => [seqR K z.1, (is K ((z.2 : Nat) : Int)).r]) (φ := fun z => z.2 ≤ z.1.length ∧ z.1.length ≤ 1000) (Pf := fun z => nw (someO K z.1 z.2)) c2 hr2 (by omega) (poolNames, many) ⟨hz2, (by show 14 ≤ 1000; decide)⟩ (by show n + many ≤ PotB; omega)
      (da_cons (P := seqR K poolNames) (d_imp (d_own 1 rfl) fun v H p => seq_of_lst (lst_of_X p)) (da_cons (P := (is K ((many : Nat) : Int)).r) (d_par 0 rfl) da_nil)) fun _ _ _ p => p) (e_nm nmSigns) (by decide) fun _ _ _ en => en) ?_
  refine ss_openO 3 rfl fun found hfound => ?_
  obtain ⟨hf1, rest, hf2⟩ := hfound
  have hsub : ∀ c ∈ found, c ∈ poolNames := fun c hc => hf2.mem_iff.mp (List.mem_append_left _ hc)
  have hfnd : found.Nodup := (List.nodup_append.mp (hf2.nodup_iff.mpr pool_nd)).1
  show Ss T (mi a H) _ (pt a (n + many) [.r (is K ((many : Nat) : Int)).r, .o (lstO K poolNames), .o (lstO K found), .t (is K nmSigns), .u, .u]) _ _
  refine ss_cons (ρ1 := pt a (n + (many + 10)) [.r (is K ((many : Nat) : Int)).r, .o (lstO K poolNames), .o (exO (NamesOk many) (lstO K)), .t (is K nmSigns), .u, .u]) (s_ifD (bd_eq (y := 0) hr2 (d_take (u := 3) (m := n + many) c1 hr2 (by omega) (by decide) (by decide) (by omega) (d_t (P := is K ((3 : Nat) : Int)) e_int)) fun _ => e_int) ?_ (ss_nil fun H0 σ H' en => ?_)) ?_
  · refine ss_cons (ρ1 := pt a (n + many + 1) [.r (is K ((many : Nat) : Int)).r, .o (lstO K poolNames), .o (lstO K found), .t (is K nmSigns), .t (is K nmW), .u]) (s_set 5 sc_law_names.nd (e_nm nmW) fun _ _ _ en => en) ?_
    refine ss_consE (ζ := Nm) (φ := fun y => ∃ k, k < 8 ∧ WordOk k y) (ρ1 := fun y => pt a (n + many + 9) [.r (is K ((many : Nat) : Int)).r, .o (lstO K poolNames), .o (lstO K found), .t (is K nmSigns), .t (is K y), .u]) (s_forRD (u := 8) 6 (fun k y => WordOk k y) (fun k y => pt a (n + many + 2 + k) [.r (is K ((many : Nat) : Int)).r, .o (lstO K poolNames), .o (lstO K found), .t (is K nmSigns), .t (is K y), .u]) nmW
      (d_take (u := 8) (m := n + many + 1) c1 hr2 (by omega) (by decide) (by decide) (by omega) (d_t (P := is K ((8 : Nat) : Int)) e_int)) (by decide) G.range sc_law_names.nd ⟨[], by decide +kernel, rfl, fun c hc => by cases hc⟩ (Wk.refl _) (fun k y hk hy => ?_) fun k y H0 σ H' hk hy en => ⟨y, ⟨k, hk, hy⟩, ?_⟩) fun y hy => ?_
    · refine ss_one (s_setD (P := exT (fun z : Nm => WordOk (k + 1) z) (is K)) (m := n + many + 2 + k + 1) 4 sc_law_names.nd (d_addS (x := y) (y := nmSigns) (e_var (P := is K y) 5 rfl) (d_ixS (u := 36) (fun _ => e_var (P := is K nmSigns) 4 rfl) (d_take (u := 36) (m := n + many + 2 + k) c1 hr2 (by omega) (by decide) (by decide) (by omega) (d_t (P := is K ((36 : Nat) : Int)) e_int)) (by decide +kernel) (by decide +kernel)) ?_ fun c hc H => ?_) fun H0 σ H' en => ?_)
      · have := (word_name hy hk).few
        omega
      · obtain ⟨z, e1, e2⟩ := word_next hy hc
        exact ⟨z, e2, is_nm.mpr (by rw [e1])⟩
      · obtain ⟨z, hz', en2⟩ := en.openT (i := 5) rfl
        exact ⟨z, hz', en2.weak (.same (.same (.same (.same (.same (.same (.drop .nil)))))))⟩
    · exact en.less (i := 0) (A := .o (potO a (n + many + 2 + k))) (A' := .o (potO a (n + many + 9))) rfl fun S s q => potO_more (by omega) S s q
    · obtain ⟨k, hk, hw⟩ := hy
      refine ss_one (s_setIxD (xs := found) (z := y) (m := n + many + 10) 2 rfl (e_var (P := is K y) 5 rfl) (d_take (u := found.length) (m := n + many + 9) c1 hr2 (by omega) (by omega) (by omega) (by omega) (d_t (P := is K ((found.length : Nat) : Int)) (e_cast (f := fun i : Int => (is K i).p) (e_par (P := (is K ((many : Nat) : Int)).r) 1 rfl) (by rw [hf1])))) fun j H0 σ H' hj en => ?_)
      have en2 := en.less (i := 3) (A := .o (lstO K (found.set j y))) (A' := .o (exO (NamesOk many) (lstO K))) rfl fun S s ⟨v, q1, q2⟩ => ⟨v, q1, found.set j y, ⟨by rw [List.length_set]; exact hf1, nodup_set j hfnd fun z => word_pool hw (hsub _ z), fun c hc => ?_⟩, q2⟩
      · exact en2.weak (.same (.same (.same (.same (.same (.drop (.same .nil)))))))
      · rcases List.mem_or_eq_of_mem_set hc with e | e
        · exact pool_ok c (hsub c e)
        · rw [e]
          exact word_name hw hk
  · have en1 := en.less (i := 0) (A := .o (potO a (n + many + 1))) (A' := .o (potO a (n + (many + 10)))) rfl fun S s q => potO_more (by omega) S s q
    exact en1.less (i := 3) (A := .o (lstO K found)) (A' := .o (exO (NamesOk many) (lstO K))) rfl fun S s ⟨v, q1, q2⟩ => ⟨v, q1, found, ⟨hf1, hfnd, fun c hc => pool_ok c (hsub c hc)⟩, q2⟩
  · refine ss_openO 3 rfl fun ys hys => ?_
    refine ss_one (s_retD (m := n + (many + 10)) (P := (exT (NamesOk many) (is K)).p) (d_imp (d_t (P := is K ys) (e_tupleOf (e_seqL (e_ownL 3 rfl)) G.tuple)) fun v H p => ⟨ys, hys, p⟩) fun v H hp x p => ⟨hp, p⟩)
end
end Pg
set_option maxHeartbeats 4000000
namespace Pg
open PySem PySem.Spec PyProof.Rows L2 Cf NdefX PySem.W
section
variable {P : Program} {w : World} {K : PySem.W.Frag} {mg : Str → Option Value} {base : Heap} {T : Tb}
/-! ### _law_pot -/
abbrev spPot (T : Tb) (K : PySem.W.Frag) : Sp := spF T (fun z : List Int × Nat => [lstR K z.1, (is K ((z.2 : Nat) : Int)).r]) (fun z => z.2 ≤ 1000 ∧ z.1.length ≤ 1000) fun z H v H' => ∃ a, H a = none ∧ v = .ref a ∧ PotAt a 0 H'
theorem ok_pot (F : Fdef K mg "_law_pot" s_law_pot) (G : Bl mg) : Cal P w K mg base 1 "_law_pot" (spPot T K) := by
  refine cal_of F sc_law_pot (fun _ => rfl) (fun _ _ _ _ _ _ us hl => match us, hl with | [_, _], _ => rfl) (fun z f cdv A outer s H E hz hr => ?_)
  obtain ⟨hz1, hz2⟩ := hz
  obtain ⟨c, hc⟩ : ∃ c : Int, c = if z.2 < z.1.length then z.1.getD z.2 0 else 271 * ((z.2 : Nat) : Int) + 89 := ⟨_, rfl⟩
  refine ss_cons (ρ1 := [.r (lstR K z.1), .r (is K ((z.2 : Nat) : Int)).r, .t (is K c), .u, .u]) (s_set 2 sc_law_pot.nd (P := is K c) (e_if (k := decide (((z.2 : Nat) : Int) < ((z.1.length : Nat) : Int))) (b_cm (c_lt (e_par (P := (is K ((z.2 : Nat) : Int)).r) 1 rfl) (e_len (e_seqL (e_par 0 rfl)) G.len))) (fun h => ?_) fun h => ?_) fun _ _ _ en => en) ?_
  · have h1 : z.2 < z.1.length := by
      have := of_decide_eq_true h
      omega
    rw [if_pos h1] at hc
    exact e_ixL (i := z.2) (e_par 0 rfl) (e_par (P := (is K ((z.2 : Nat) : Int)).r) 1 rfl) (by rw [hc, List.getD_eq_getElem?_getD, List.getElem?_eq_getElem h1]; rfl)
  · have h1 : ¬ z.2 < z.1.length := fun q => by
      rw [decide_eq_true (by omega)] at h
      cases h
    rw [if_neg h1] at hc
    exact e_cast (f := fun i : Int => (is K i).p) (e_add (e_mulC (x := 271) (y := ((z.2 : Nat) : Int)) e_int (e_par (P := (is K ((z.2 : Nat) : Int)).r) 1 rfl) (.inl ⟨by decide, by decide⟩)) e_int) hc.symm
  obtain ⟨ab, hab⟩ : ∃ ab : Int, ab = if c < 0 then -c else c := ⟨_, rfl⟩
  have hab0 : 0 ≤ ab := by
    rw [hab]
    split <;> omega
  obtain ⟨M, hM⟩ : ∃ M : Int, M = ((10 : Int) ^ (60 : Int).toNat) ^ (5 : Int).toNat := ⟨_, rfl⟩
  have hM0 : 0 < M := by rw [hM]; decide +kernel
  obtain ⟨own, hown⟩ : ∃ own : Int, own = ab % M * (if decide ((10 : Int) ^ (18 : Int).toNat ≤ ab) = true then (1 : Int) else 0) := ⟨_, rfl⟩
  have hown0 : 0 ≤ own := by
    rw [hown]
    refine Int.mul_nonneg (Int.emod_nonneg _ (by omega)) ?_
    split <;> omega
  refine ss_cons (ρ1 := [.r (lstR K z.1), .r (is K ((z.2 : Nat) : Int)).r, .t (is K c), .t (is K own), .u]) (s_set 3 sc_law_pot.nd (P := is K own) (e_cast (f := fun i : Int => (is K i).p) (e_mulC (x := ab % M) (e_mod (x := ab) (y := M) (e_intOf (e_cast (f := fun i : Int => (is K i).p) (e_abs (e_var (P := is K c) 2 rfl) G.abs) hab.symm) G.int)
    (e_cast (f := fun i : Int => (is K i).p) (e_powX (x := (10 : Int) ^ (60 : Int).toNat) (y := 5) (e_pow (x := 10) (y := 60) e_int e_int ⟨by decide, by decide, by decide⟩) e_int ⟨by decide, ?_⟩) hM.symm) hM0) (e_intB (x := decide ((10 : Int) ^ (18 : Int).toNat ≤ ab)) (e_cm (c_ge (x := ab) (e_cast (f := fun i : Int => (is K i).p) (e_abs (e_var (P := is K c) 2 rfl) G.abs) hab.symm) (e_pow (x := 10) (y := 18) e_int e_int ⟨by decide, by decide, by decide⟩))) G.int) (.inr ?_)) hown.symm) fun _ _ _ en => en) ?_
  · have : Builtin.Int.intBits ((10 : Int) ^ (60 : Int).toNat) ≤ 200 := PyProof.Rows.intBits_le (by decide +kernel)
    show (Builtin.Int.intBits ((10 : Int) ^ (60 : Int).toNat) : Int) * 5 ≤ 2 ^ 27
    omega
  · split <;> exact ⟨by decide, by decide⟩
  obtain ⟨sm, hsm⟩ : ∃ sm : Int, sm = c % 2305843009213693951 := ⟨_, rfl⟩
  have hsm0 : 0 ≤ sm := by rw [hsm]; exact Int.emod_nonneg _ (by decide)
  refine ss_cons (ρ1 := [.r (lstR K z.1), .r (is K ((z.2 : Nat) : Int)).r, .t (is K c), .t (is K own), .t (is K sm)]) (s_set 4 sc_law_pot.nd (P := is K sm) (e_cast (f := fun i : Int => (is K i).p) (e_mod (x := c) (e_intOf (e_var (P := is K c) 2 rfl) G.int) e_int (by decide)) hsm.symm) fun _ _ _ en => en) ?_
  obtain ⟨y, hy⟩ : ∃ y : Int, y = (sm * 84067 + 6151 * ((z.2 : Nat) : Int) * ((z.2 : Nat) : Int) + 373) % 2305843009213693921 := ⟨_, rfl⟩
  have hy0 : 0 ≤ y := by rw [hy]; exact Int.emod_nonneg _ (by decide)
  have hy1 : y < 2305843009213693921 := by rw [hy]; exact Int.emod_lt_of_pos _ (by decide)
  refine ss_one (s_retN (O := lstO K [own, y, 0]) (n_lstA (xs := [own, y, 0]) (Ps := [own, y, 0].map fun x => (is K x).r) (as_cons (P := (is K own).r) (e_var 3 rfl) (as_cons (P := (is K y).r) (e_cast (f := fun i : Int => (is K i).p) (e_mod (e_intOf (e_add (e_add (e_mulC (x := sm) (y := 84067) (e_var (P := is K sm) 4 rfl) e_int (.inr ⟨by decide, by decide⟩))
    (e_mulC (y := ((z.2 : Nat) : Int)) (e_mulC (x := 6151) (y := ((z.2 : Nat) : Int)) e_int (e_par (P := (is K ((z.2 : Nat) : Int)).r) 1 rfl) (.inl ⟨by decide, by decide⟩)) (e_par (P := (is K ((z.2 : Nat) : Int)).r) 1 rfl) (.inr ⟨by omega, by omega⟩))) e_int) G.int) e_int (by decide)) hy.symm) (as_cons (P := (is K 0).r) e_int as_nil))) (by show 3 ≤ 1000; decide) (fun vs H p => allP_ints p)) fun v S H' hS x ⟨l, vs, h1, h2, h3, h4⟩ => ?_)
  have e := dps_ints h4
  subst e
  exact ⟨l, hS l (by rw [h2]), h1, (own, y, 0), ⟨hown0, hy0, by show y < 2305843009213693952; omega, Int.le_refl _, Int.le_refl _⟩, h3⟩
end
end Pg
set_option maxHeartbeats 4000000
namespace Cf
open PySem PySem.Spec PyProof.Rows L2 PySem.W
section
variable {T : Tb} {R : Hp} {X : Cx} {ρ : List AV} {e a b : Expr} {pos p p1 p2 : Pos}
def upto (n : Nat) : List Int := (List.range n).map fun i => ((i : Nat) : Int)
/-- list(range(n)) -/
theorem n_listRange {n : Nat} (h : E T R X ρ e (is X.K ((n : Nat) : Int)).p) (hn : n ≤ 1000000) (hm : X.mg "list" = none) (hm2 : X.mg "range" = none) (hc : X.calm = true := by rfl) (hg : Gl X "list" := by rfl) (hg2 : Gl X "range" := by rfl) (na : starEach [e] X.env = (false, eval e X.env) :: starEach [] X.env := by rfl)
    (nb : starEach [.Call (.Name "range" p2) [e] [] p1] X.env = (false, eval (.Call (.Name "range" p2) [e] [] p1) X.env) :: starEach [] X.env := by rfl) : N T R X ρ (.Call (.Name "list" p) [.Call (.Name "range" p2) [e] [] p1] [] pos) (lstO X.K (upto n)) :=
  n_of (pe_listRg hc hg hm (prg_1 hg2 hm2 h na) nb) fun σ H H0 Q en q => ⟨⟨H0, en⟩, fun v H1 x1 p1 => by
    refine ⟨((n : Nat) : Int), is_int.mp p1, RgOk.of_le (by omega) (by omega) (by omega) (by omega), fun r hr => ?_⟩
    have e2 : rgV 0 ((n : Nat) : Int) = (upto n).map V.int := by
      unfold rgV upto
      rw [Int.sub_zero, Int.toNat_natCast, List.map_map]
      refine List.map_congr_left fun i _ => ?_
      show V.int (0 + ((i : Nat) : Int)) = V.int ((i : Nat) : Int)
      rw [Int.zero_add]
    refine q _ (fun b => b = r) _ (fun b z => by rw [z]; exact x1.bk _ hr) (x1.trans (Ex.new hr)) ⟨r, _, rfl, rfl, upd_same, ?_⟩
    rw [e2]
    exact dps_ofInts _⟩
theorem e_max2 {m n : Int} (h : E T R X ρ a (is X.K m).p) (h' : E T R X ρ b (is X.K n).p) (hm : X.mg "max" = none) (hc : X.calm = true := by rfl) (hs : starEach [a, b] X.env = (false, eval a X.env) :: starEach [b] X.env := by rfl) (hs2 : starEach [b] X.env = (false, eval b X.env) :: starEach [] X.env := by rfl) (hg : Gl X "max" := by rfl)
    (hpl : (backTo pos (starEach [b] X.env)).any (·.1) = false := by rfl) : E T R X ρ (.Call (.Name "max" p) [a, b] [] pos) (is X.K (max m n)).p :=
  e_callB (call_max2 hc) hm (by decide +kernel) (as_cons (P := (is X.K m).r) h (as_one (P := (is X.K n).r) h' hs2) hs) (fun vs H Q _ hp k => by
    obtain ⟨v, w, rfl, h1, h2⟩ := allP2 hp
    refine ⟨m, n, by rw [is_int.mp h1, is_int.mp h2], k _ H (Ex.refl H) (is_int.mpr ?_)⟩
    congr 1
    rw [Int.max_def]
    split <;> split <;> omega) hg (by decide) (by decide) hs hpl
end
end Cf
namespace Pg
open PySem PySem.Spec PyProof.Rows L2 Cf NdefX PySem.W
section
variable {P : Program} {w : World} {K : PySem.W.Frag} {mg : Str → Option Value} {base : Heap} {T : Tb}
/-! ### _law_cells -/
abbrev spCells (T : Tb) (K : PySem.W.Frag) : Sp := spF T (fun z : List Int × Nat => [lstR K z.1, (is K ((z.2 : Nat) : Int)).r]) (fun z => z.2 ≤ 1000) fun z => nw (lstO K (upto (max 1 (min z.2 z.1.length))))
theorem ok_cells (F : Fdef K mg "_law_cells" s_law_cells) (G : Bl mg) : Cal P w K mg base 1 "_law_cells" (spCells T K) := by
  refine cal_of F sc_law_cells (fun _ => rfl) (fun _ _ _ _ _ _ us hl => match us, hl with | [_, _], _ => rfl) (fun z f cdv A outer s H E hz hr => ?_)
  have hz : z.2 ≤ 1000 := hz
  exact ss_one (s_retN (n_listRange (n := max 1 (min z.2 z.1.length)) (e_cast (f := fun i : Int => (is K i).p) (e_max2 (m := 1) e_int (e_min2 (e_par (P := (is K ((z.2 : Nat) : Int)).r) 1 rfl) (e_len (e_seqL (e_par (P := lstR K z.1) 0 rfl)) G.len) G.min) G.max) (by omega)) (by omega) G.list G.range) fun v S H hS _ p => ⟨S, hS, p⟩)
end
end Pg
set_option maxHeartbeats 4000000
/-! lists of lists of one's own: statements -/
namespace Cf
open PySem PySem.Spec PyProof.Rows L2 PySem.W
abbrev sidesO (K : PySem.W.Frag) {α : Type} [DecidableEq α] [Enc α] (yss : List (List α)) : OP := exO (fun _ : Addr × List Addr => True) fun q => sidesX K q.1 q.2 yss
section
variable {T : Tb} {R : Hp} {X : Cx} {ρ : List AV} {a : Addr} {ρt : List AV} {n m : Nat} {e b c : Expr} {pos p p1 p2 p3 p4 p5 : Pos} {Eo : Po} {α β : Type} [DecidableEq β] [Enc β]
/-- y = [.. for x in ..], each a new list -/
theorem s_lcN {xs : List α} {gt : α → TP} {elt iter : Expr} {x y : Str} {xp py spos : Pos} {scope : Scope} (yi i : Nat) (own : List (Str × Nat)) (f : α → List β)
    (hw : W T R X ρ (.Name x xp) iter False (xs.map gt)) (hN : X.N.Nodup) (ok : BlkOk X.N X.env.scope scope own) (hl : xs.length ≤ 1000000)
    (pg : ∀ s H C cl fp, PG (Blk X scope s H C cl fp) (.Name x xp) (gName i))
    (he : ∀ s H C cl fp, ∀ a ∈ xs, N T R (Blk X scope s H C cl fp) ((wipeA ρ (own.map (·.2))).set i (.t (gt a))) elt (lstO X.K (f a)))
    (kn : ∀ H0 σ H, En T R H0 (ρ.set yi (.o (sidesO X.K (xs.map f)))) σ H → Eo.nx H0 σ H)
    (hj : ∀ j ∈ [i], j ∈ own.map (·.2) := by decide) (hy : X.N[yi]? = some y := by rfl) (hyl : X.env.scope.names.lookup y = some .local := by rfl) (hsw : swapsWith (.ListComp elt [⟨.Name x xp, iter, [], 0⟩] scope pos) (some (.Name y py)) spos.line X.env = pure true := by exact sw_true rfl rfl rfl (by decide +kernel))
    (hc : X.calm = true := by rfl) (hs : ∀ x, foldedSetIterable iter X.env x = pure x := by intro _; rfl) : S T R X ρ (.Assign [.Name y py] (.ListComp elt [⟨.Name x xp, iter, [], 0⟩] scope pos) spos) Eo :=
  s_of (ps_setLc hc hN hy hyl hsw hw ok pg (fun s H C cl fp => ts_nil) (fun s H C cl fp => (⟨fun pins s1 σ H1 Q I ⟨a, h1, h2⟩ => (he s H C cl fp a h1).run pins s1 σ H1 Q I h2⟩ : PE _ elt (teN T R X.K xs (fun a => (wipeA ρ (own.map (·.2))).set i (.t (gt a))) f))) hs) fun D σ H H0 en nn r bb cc =>
    lc_readN (js := [i]) hj hl (fun _ _ => tg_name) σ H H0 _ en fun v S H' l ls hS x1 p => nn _ _ (kn _ _ _ (en.set_n x1 hS ⟨(l, ls), trivial, p⟩))
/-- x[i].append(e), i drawn, x a list of lists -/
theorem s_sideApp {yss : List (List β)} {z : β} {l : Addr} {ls : List Addr} {x : Str} (i : Nat) (hr : ρt[i]? = some (.o (sidesX X.K l ls yss))) (hl : ∀ ys ∈ yss, ys.length ≤ 1000000) (hD : D T R X a ρt n m b (below X.K yss.length).p) (h : Cf.E T R X (pt a m ρt) e (is X.K z).p)
    (kn : ∀ k ys H0 σ H, yss[k]? = some ys → En T R H0 ((pt a m ρt).set (i + 1) (.o (sidesX X.K l ls (yss.set k (ys ++ [z]))))) σ H → Eo.nx H0 σ H) (hix : PlainIx b := by exact fun _ _ => rfl)
    (hN : X.N[i + 1]? = some x := by rfl) (hv : Vis X.env.scope x := by first | exact Or.inl rfl | exact Or.inr (Or.inl rfl) | exact Or.inr (Or.inr rfl)) (hd : (x == ("__debug__" : Str)) = false := by decide) (hcd : (x == ("__classdict__" : Str)) = false := by decide)
    (hbase : attributeBase (.Subscript (.Name x p1) b p5) "append" X.env (eval (.Subscript (.Name x p1) b p5) X.env) = eval (.Subscript (.Name x p1) b p5) X.env := by rfl)
    (hfew : ((backTo p3 (starEach [e] X.env)).all (fun x => !x.1) && (backToKw p3 (keywordEach [] X.env)).all (fun x => x.1.isSome) && decide (([e] : List Expr).length + ([] : List Keyword).length + (if ([] : List Keyword).isEmpty then 0 else 1) < 30)) = true := by rfl)
    (hline : (p2.endLine == p3.line) = true := by rfl) (hs : starEach [e] X.env = (false, eval e X.env) :: starEach [] X.env := by rfl) (hplain : (backTo p3 (starEach [] X.env)).any (·.1) = false := by rfl)
    (hsw : swapsWith (.Call (.Attribute (.Subscript (.Name x p1) b p5) "append" p2) [e] [] p3) none p4.line X.env = pure false := by rfl) : S T R X (pt a n ρt) (.Expr (.Call (.Attribute (.Subscript (.Name x p1) b p5) "append" p2) [e] [] p3) p4) Eo :=
  s_of (ps_expr (pe_bm PySem.F.plainAttrs_list PySem.F.slot_list_append PySem.F.type_list_append (r := rAppend) (fun pins s σ H x xs v us Q I r1 r2 h => mt_append pins s σ H x xs v us Q I r1 r2 h) (pe_ix ix_list (pe_var (pos := p1) hN hv hd hcd) hD hix) (pa_cons h pa_nil hs) hbase hfew hline hs hplain) hsw) fun D σ H H0 en nn rt bb cc => by
    obtain ⟨S0, v, h1, hv1⟩ := en.slot (i := i + 1) (a := .o (sidesX X.K l ls yss)) hr
    refine ⟨v, h1, H0, en, fun y H1 e1 x1 ⟨k, hk, py⟩ => ?_⟩
    obtain ⟨S1, v1, g1, g2, g3, g4, g5, g6, g7⟩ := e1.slot (i := i + 1) (a := .o (sidesX X.K l ls yss)) hr
    rw [h1] at g1
    cases g1
    subst g2
    have hlen : ls.length = yss.length := EachIs.len g7
    have hk1 : k < ls.length := by rw [hlen]; exact hk
    obtain ⟨ys, hys, vs, q1, q2⟩ := each_at g7 (List.getElem?_eq_getElem hk1)
    have hkr : (ls.map V.ref)[k]? = some (V.ref ls[k]) := by rw [List.getElem?_map, List.getElem?_eq_getElem hk1]; rfl
    refine ⟨l, ls.map V.ref, ((k : Nat) : Int), V.ref ls[k], rfl, is_int.mp py, SqL.of g6, atI_get hkr, Or.inl ⟨rfl, _, Or.inl (Or.inl q1)⟩, ⟨H0, e1⟩, fun u H2 x2 pu => ?_⟩
    have e2 := e1.step x2
    have n1 : vs.length = ys.length := by rw [DpAll.len q2]; simp [encs]
    have hly := hl ys (List.mem_of_getElem? hys)
    have : sizeLine = 16777216 := sizeLine_eq
    have q3 : H2 ls[k] = some (.lst vs) := x2.ext _ _ q1 fun ps z => by cases z
    refine ⟨ls[k], vs, u, rfl, rfl, q3, by omega, nn _ _ (kn k ys _ _ _ hys (e2.put (i := i + 1) hr h1 fun S hS => ?_))⟩
    obtain ⟨f2, f3, f4, f5, f6, f7⟩ := hS
    have hmem : ls[k] ∈ ls := List.getElem_mem hk1
    have hne : l ≠ ls[k] := fun z => f4 (by rw [z]; exact hmem)
    refine ⟨by rw [f3]; exact .inr hmem, rfl, rfl, f3, f4, f5, by rw [upd_ne hne]; exact f6, ?_⟩
    have hz : Dp X.K (upd H2 ls[k] (.lst (vs ++ [u]))) u (enc z) := dp_ez (Ez.put q3 rfl) _ _ (Enc.pure z) pu
    have q4 : DpAll X.K (upd H2 ls[k] (.lst (vs ++ [u]))) (vs ++ [u]) (encs (ys ++ [z])) := by
      rw [encs_snoc]
      exact DpAll.app (dps_ez (x2.ez.trans (Ez.put q3 rfl)) _ _ (encs_pure _) q2) (.cons hz .nil)
    have gen : ∀ {bs : List Addr} {zss : List (List β)} (j : Nat) (hj : bs[j]? = some ls[k]), bs.Nodup → EachIs (fun b ys => LstAt X.K H2 b ys) bs zss → EachIs (fun b ys => LstAt X.K (upd H2 ls[k] (.lst (vs ++ [u]))) b ys) bs (zss.set j (ys ++ [z])) := by
      intro bs zss j hj hnd hh
      induction hh generalizing j with
      | nil => simp at hj
      | @cons b0 y0 bs0 ys0 h t ih =>
        rw [List.nodup_cons] at hnd
        cases j with
        | zero =>
          have hj : b0 = ls[k] := by simpa using hj
          subst hj
          refine .cons ⟨_, upd_same, q4⟩ ?_
          have rest : ∀ {bs : List Addr} {zss : List (List β)}, ls[k] ∉ bs → EachIs (fun b ys => LstAt X.K H2 b ys) bs zss → EachIs (fun b ys => LstAt X.K (upd H2 ls[k] (.lst (vs ++ [u]))) b ys) bs zss := by
            intro bs zss hn hh
            induction hh with
            | nil => exact .nil
            | cons h t ih =>
              obtain ⟨ws, r1, r2⟩ := h
              rw [List.mem_cons, not_or] at hn
              exact .cons ⟨ws, by rw [upd_ne (Ne.symm hn.1)]; exact r1, dps_ez (Ez.put q3 rfl) _ _ (encs_pure _) r2⟩ (ih hn.2)
          exact rest hnd.1 t
        | succ j =>
          have hj : bs0[j]? = some ls[k] := by simpa using hj
          obtain ⟨ws, r1, r2⟩ := h
          have hb : b0 ≠ ls[k] := fun z => hnd.1 (by rw [z]; exact List.mem_of_getElem? hj)
          exact .cons ⟨ws, by rw [upd_ne hb]; exact r1, dps_ez (Ez.put q3 rfl) _ _ (encs_pure _) r2⟩ (ih j hj hnd.2)
    exact gen k (List.getElem?_eq_getElem hk1) f5 f7
end
end Cf
set_option maxHeartbeats 4000000
/-! lists of lists walked; the last one taken; drawn lists within displays -/
namespace Cf
open PySem PySem.Spec PyProof.Rows L2 PySem.W
/-- the thing at b -/
def refT (b : Addr) : TP := ⟨fun v _ => v = .ref b, fun _ _ _ _ h => h⟩
section
variable {T : Tb} {R : Hp} {X : Cx} {ρ : List AV} {a : Addr} {ρt : List AV} {n m : Nat} {e b c tg : Expr} {pos p p1 p2 p3 p4 p5 : Pos} {Eo : Po} {α : Type} [DecidableEq α] [Enc α]
/-- a list of lists, walked in a comprehension -/
theorem w_sides {l : Addr} {ls : List Addr} {yss : List (List α)} {x : Str} (i : Nat) (hr : ρ[i]? = some (.o (sidesX X.K l ls yss))) (hN : X.N[i]? = some x := by rfl) (hv : Vis X.env.scope x := by first | exact Or.inl rfl | exact Or.inr (Or.inl rfl) | exact Or.inr (Or.inr rfl)) (hd : (x == ("__debug__" : Str)) = false := by decide)
    (hcd : (x == ("__classdict__" : Str)) = false := by decide) : W T R X ρ tg (.Name x pos) False ((ls.zip yss).map fun q => refT q.1) :=
  w_of (pi_list (pe_var hN hv hd hcd)) fun σ H H0 K en q => by
    obtain ⟨S1, v1, g1, g2, g3, g4, g5, g6, g7⟩ := en.slot (a := .o (sidesX X.K l ls yss)) hr
    subst g2
    have hlen : ls.length = yss.length := EachIs.len g7
    refine ⟨_, g1, l, rfl, ⟨_, SqL.of g6⟩, q _ H (some (l, .lst (ls.map V.ref))) (fun H => H l = some (.lst (ls.map V.ref))) (YAt (ls.map V.ref)) (Ex.refl H) ⟨?_, fun H H' _ a' _ => a' l _ rfl, fun p o z => by cases z; rfl, fun k H x H' P g y hP => ?_⟩ g6 (fun p o z => by cases z; exact g6) fun z => z.elim⟩
    · have hl : ((ls.zip yss).map fun q => refT q.1).length = (ls.map V.ref).length := by rw [List.length_map, List.length_zip, List.length_map]; omega
      rw [hl]
      exact walk_list.mono (fun H g => SqL.of g) fun _ _ _ _ _ _ y => y
    · obtain ⟨rfl, hx⟩ := y
      refine ⟨Ex.refl _, ?_⟩
      rw [List.getElem?_map] at hP hx
      cases hq : (ls.zip yss)[k]? with
      | none => rw [hq] at hP; cases hP
      | some q =>
        rw [hq] at hP
        cases hP
        rw [List.getElem?_zip_eq_some] at hq
        rw [hq.1] at hx
        cases hx
        rfl
/-- one of its lists -/
theorem e_part {l : Addr} {ls : List Addr} {yss : List (List α)} {q : Addr × List α} {x : Str} (i j : Nat) (hr : ρ[i]? = some (.o (sidesX X.K l ls yss))) (hj : ρ[j]? = some (.t (refT q.1))) (hq : q ∈ ls.zip yss) (hN : X.N[j]? = some x := by rfl) (hv : Vis X.env.scope x := by first | exact Or.inl rfl | exact Or.inr (Or.inl rfl) | exact Or.inr (Or.inr rfl))
    (hd : (x == ("__debug__" : Str)) = false := by decide) (hcd : (x == ("__classdict__" : Str)) = false := by decide) : E T R X ρ (.Name x pos) (lstX X.K q.2).p :=
  e_of (pe_var hN hv hd hcd) fun σ H H0 Q en k => by
    obtain ⟨S1, v1, g1, g2, g3, g4, g5, g6, g7⟩ := en.slot (a := .o (sidesX X.K l ls yss)) hr
    obtain ⟨S2, v2, h1, h2⟩ := en.slot (a := .t (refT q.1)) hj
    have h2 : v2 = .ref q.1 := h2
    subst h2
    obtain ⟨vs, f1, f2⟩ := g7.zip q hq
    exact ⟨_, h1, k _ H (Ex.refl H) ⟨q.1, vs, rfl, f1, f2⟩⟩
/-- y = x.pop() -/
theorem s_popLast {xs : List α} {z : α} {x y : Str} {py : Pos} (i k : Nat) (hN : X.N.Nodup) (hr : ρ[i]? = some (.o (lstO X.K (xs ++ [z])))) (hik : i ≠ k) (hl : xs.length ≤ 1000000) (kn : ∀ H0 σ H, En T R H0 ((ρ.set i (.o (lstO X.K xs))).set k (.t (is X.K z))) σ H → Eo.nx H0 σ H)
    (hi : X.N[i]? = some x := by rfl) (hk : X.N[k]? = some y := by rfl) (hv : Vis X.env.scope x := by first | exact Or.inl rfl | exact Or.inr (Or.inl rfl) | exact Or.inr (Or.inr rfl)) (hd : (x == ("__debug__" : Str)) = false := by decide) (hcd : (x == ("__classdict__" : Str)) = false := by decide)
    (hy : Loc X.env.scope y := by first | exact Or.inl rfl | exact Or.inr rfl) (hf : X.fn y = true ∨ X.env.scope.names.lookup y = some .local := by first | exact .inl rfl | exact .inr rfl)
    (hbase : attributeBase (.Name x p1) "pop" X.env (eval (.Name x p1) X.env) = eval (.Name x p1) X.env := by rfl) (hline : (p2.endLine == p3.line) = true := by rfl)
    (hs : swapsWith (.Call (.Attribute (.Name x p1) "pop" p2) [] [] p3) (some (.Name y py)) pos.line X.env = pure false := by rfl) : S T R X ρ (.Assign [.Name y py] (.Call (.Attribute (.Name x p1) "pop" p2) [] [] p3) pos) Eo :=
  s_of (ps_set hN hk hy (pe_bm0 PySem.F.plainAttrs_list PySem.F.slot_list_pop PySem.F.type_list_pop (r := rPop) (fun pins s σ H x xs v us Q I r1 r2 h => mt_pop pins s σ H x xs v us Q I r1 r2 h) (pe_var (pos := p1) hi hv hd hcd) hbase hline) hs hf) fun D σ H H0 en nn r bb cc => by
    obtain ⟨F, w⟩ := en.own
    obtain ⟨v, h1, l, vs, rfl, hF, h3, h4⟩ : ∃ v, σ[i]? = some (some v) ∧ (lstO X.K (xs ++ [z])).p v (F i) H := w.ok i _ hr
    have n1 : vs.length = xs.length + 1 := by rw [DpAll.len h4]; simp [encs]
    obtain ⟨vs0, u, rfl⟩ : ∃ vs0 u, vs = vs0 ++ [u] := by
      have hne : vs ≠ [] := fun e => by rw [e] at n1; simp at n1
      exact ⟨vs.dropLast, vs.getLast hne, (List.dropLast_concat_getLast hne).symm⟩
    have split : ∀ {vs0 : List V} {xs : List α}, DpAll X.K H (vs0 ++ [u]) (encs (xs ++ [z])) → vs0.length = xs.length → DpAll X.K H vs0 (encs xs) ∧ Dp X.K H u (enc z) := by
      intro vs0
      induction vs0 with
      | nil =>
        intro xs h hl
        cases xs with
        | nil =>
          have h : DpAll X.K H [u] [enc z] := h
          cases h with
          | cons h1 _ => exact ⟨.nil, h1⟩
        | cons x xs => simp at hl
      | cons v vs0 ih =>
        intro xs h hl
        cases xs with
        | nil => simp at hl
        | cons x xs =>
          have h : DpAll X.K H (v :: (vs0 ++ [u])) (enc x :: encs (xs ++ [z])) := h
          cases h with
          | cons h1 h2 =>
            obtain ⟨g1, g2⟩ := ih h2 (by simpa using hl)
            exact ⟨.cons h1 g1, g2⟩
    obtain ⟨g1, g2⟩ := split h4 (by rw [List.length_append, List.length_singleton] at n1; omega)
    have hlast : (vs0 ++ [u])[(vs0 ++ [u]).length - 1]? = some u := by rw [List.length_append, List.length_singleton, Nat.add_sub_cancel]; simp
    have ez : Ez H (upd H l (.lst vs0)) := Ez.put h3 rfl
    refine ⟨_, h1, Or.inl ⟨rfl, _, Or.inl (Or.inl h3)⟩, l, vs0 ++ [u], u, rfl, rfl, h3, hlast, nn _ _ (kn _ _ _ ?_)⟩
    rw [List.dropLast_concat]
    refine (en.put (O' := lstO X.K xs) hr h1 fun S hS => ?_).set_t (dp_ez ez _ _ (Enc.pure z) g2)
    obtain ⟨l2, vs2, e5, hS2, e6, e7⟩ := hS
    cases e5
    exact ⟨by rw [hS2], rfl, l, vs0, rfl, hS2, upd_same, dps_ez ez _ _ (encs_pure xs) g1⟩
end
end Cf
set_option maxHeartbeats 4000000
/-! drawn lists within displays and pairs of targets -/
namespace Cf
open PySem PySem.Spec PyProof.Rows L2 PySem.W
section
variable {T : Tb} {R : Hp} {X : Cx} {ρ : List AV} {a : Addr} {ρt : List AV} {n m : Nat} {e b c tg e1 e2 : Expr} {pos p p1 p2 p3 p4 p5 : Pos} {Eo : Po} {α : Type} [DecidableEq α] [Enc α]
/-- tuple(a drawn list) -/
theorem d_tupleN {φ : List α → Prop} (h : DN T R X a ρt n m e (exO φ (lstO X.K))) (hm : X.mg "tuple" = none) (hs : starEach [e] X.env = (false, eval e X.env) :: starEach [] X.env := by rfl) (hg : Gl X "tuple" := by rfl) (hpl : (backTo pos (starEach [] X.env)).any (·.1) = false := by rfl) :
    D T R X a ρt n m (.Call (.Name "tuple" p) [e] [] pos) (exT φ (is X.K)).p :=
  d_of (pe_callTy call_tuple_of hg hm (by decide +kernel) (pa_cons h pa_nil hs) (by decide) (by decide) hs hpl) fun σ H H0 Q en q => ⟨H0, en, fun v S H1 en1 _ x1 hS ⟨xs, hx, l, vs, h1, h2, h3, h4⟩ => by
    subst h1
    obtain ⟨_, ⟨z, _, g3⟩, _⟩ := en1.pot
    have h5 := (mi_some h3).2
    refine ⟨l, vs, rfl, .inl ⟨SqL.of h5, fun r hr => q _ _ (en1.step (Ex.new hr)) (x1.trans (ex_mi3 (Ex.new hr) g3)) ⟨xs, hx, is_list.mpr ⟨r, vs, rfl, ?_, ?_⟩⟩⟩⟩
    · have hra : r ≠ a := fun z => by rw [z, g3] at hr; cases hr
      exact SqT.of (by rw [mi_ne hra]; exact upd_same)
    · have hra : r ≠ a := fun z => by rw [z, g3] at hr; cases hr
      have g4 : (upd H1 r (.tup vs)) a = some (.lst [.int z.1, .int z.2.1, .int z.2.2]) := by rw [upd_ne (Ne.symm hra)]; exact g3
      exact dps_ez (ez_of_mi.trans ((Ex.new (T := T) hr).ez.trans (ez_mi g4))) _ _ (encs_pure xs) h4⟩
/-- [a drawn thing] -/
theorem dn_lst1 {φ : α → Prop} (h : D T R X a ρt n m e (exT φ (is X.K)).p) (hs : starEach [e] X.env = (false, eval e X.env) :: starEach [] X.env := by rfl) : DN T R X a ρt n m (.List [e] pos) (exO φ fun x => lstO X.K [x]) :=
  ⟨fun pins s σ H Q I ⟨H0, en, q⟩ => (pe_lst (pa_cons h pa_nil hs)).run pins s σ H Q I ⟨H0, en, fun v H1 en1 x1 ⟨x, hx, p1⟩ => by
    obtain ⟨_, ⟨z, hz, g3⟩, _⟩ := en1.pot
    obtain ⟨_, ⟨z0, _, g0⟩, _⟩ := en.pot
    refine ⟨(by show 1 ≤ sizeLine; decide), fun r hr => ?_⟩
    have hra : r ≠ a := fun z => by rw [z, g3] at hr; cases hr
    have g4 : (upd H1 r (.lst [v])) a = some (.lst [.int z.1, .int z.2.1, .int z.2.2]) := by rw [upd_ne (Ne.symm hra)]; exact g3
    have pp : Dp X.K (upd H1 r (.lst [v])) v (enc x) := dp_ez (ez_of_mi.trans (Ex.new (T := T) hr).ez) _ _ (Enc.pure x) p1
    have hO : (exO φ fun x => lstO X.K [x]).p (.ref r) (fun b => b = r) (upd H1 r (.lst [v])) := ⟨x, hx, r, [v], rfl, rfl, upd_same, .cons pp .nil⟩
    have xn : Ex T (mi a H1) (upd H1 r (.lst [v])) := (ex_mi g3).trans (Ex.new hr)
    refine q _ (fun b => b = r) _ (en1.step (Ex.new hr)) (fun i => en1.drawnN xn ⟨z, hz, g4⟩ (fun b hb => by rw [hb]; exact hr) hO) (x1.trans (ex_mi3 (Ex.new hr) g3)) (fun b hb => ?_) ⟨x, hx, r, [v], rfl, rfl, by rw [mi_ne hra]; exact upd_same, .cons (dp_ez (ez_mi g4) _ _ (Enc.pure x) pp) .nil⟩
    rw [hb]
    have := x1.bk r (by rw [mi_ne hra]; exact hr)
    rwa [mi_ne hra] at this⟩⟩
/-- x, y = a new thing, a new drawn thing -/
theorem s_parNDN {O1 O2 : OP} {x y : Str} {px py pt' pt2 : Pos} {kt k2 : Nat} (i k : Nat) (hN : X.N.Nodup) (h1 : N T R X (pt a n ρt) e1 O1) (h2 : DN T R X a ρt n m e2 O2) (hik : i + 1 ≠ k + 1) (kn : ∀ H0 σ H, En T R H0 (((pt a m ρt).set (i + 1) (.o O1)).set (k + 1) (.o O2)) σ H → Eo.nx H0 σ H)
    (hi : X.N[i + 1]? = some x := by rfl) (hk : X.N[k + 1]? = some y := by rfl) (hx : X.env.scope.names.lookup x = some .local := by rfl) (hy : X.env.scope.names.lookup y = some .local := by rfl)
    (hs1 : starEach [e1, e2] X.env = (false, eval e1 X.env) :: starEach [e2] X.env := by rfl) (hs2 : starEach [e2] X.env = (false, eval e2 X.env) :: starEach [] X.env := by rfl)
    (hw : swappedStores [.Tuple [.Name x px, .Name y py] kt pt'] (.Tuple [e1, e2] k2 pt2) X.env = pure (some [x, y]) := by rfl) (hc : X.calm = true := by rfl)
    (hs : swapsWithSole [.Tuple [.Name x px, .Name y py] kt pt'] (.Tuple [e1, e2] k2 pt2) pos.line X.env = pure false := by rfl) :
    S T R X (pt a n ρt) (.Assign [.Tuple [.Name x px, .Name y py] kt pt'] (.Tuple [e1, e2] k2 pt2) pos) Eo :=
  s_of (ps_par hc hN hi hk hik hx hy (pa_cons h1 (pa_cons h2 pa_nil hs2) hs1) hw hs) fun D σ H H0 en nn r bb cc =>
    ⟨⟨H0, en⟩, fun v S1 H1 hS1 x1 p1 => ⟨H0, en.step x1, fun w S2 H2 en2 _ x2 hS2 p2 => ⟨v, w, rfl, nn _ _ (kn _ _ _ (by
      have e1 : En T R H0 (pt a n (ρt.set i (.o O1))) (σ.set (i + 1) (some v)) H1 := en.set_n (i := i + 1) x1 hS1 p1
      obtain ⟨_, hp, _⟩ := en2.pot
      obtain ⟨xs, hx'⟩ := hp.lst
      have x3 : Ex T (mi a H1) H2 := x2.trans (ex_mi hx')
      have p2' : O2.p w S2 H2 := O2.st _ _ _ _ ez_of_mi (fun b hb => by
        obtain ⟨o, h3, _⟩ := O2.dom _ _ _ p2 b hb
        rw [mi_ne (mi_some h3).1]) p2
      exact e1.drawnN (i := k + 1) x3 hp hS2 p2'))⟩⟩⟩
end
end Cf
set_option maxHeartbeats 4000000
namespace Pg
open PySem PySem.Spec PyProof.Rows L2 Cf NdefX PySem.W
/-! ### lots that are parted over and over -/
def Lam (l m : Lot) : Prop := (∀ c ∈ l, c ∈ m) ∨ (∀ c ∈ m, c ∈ l) ∨ ∀ c ∈ l, c ∉ m
structure Gr (cs : List Nm) (k : Nat) (found waiting : List Lot) : Prop where
  fe : ∀ l ∈ found, 1 < l.length ∧ l = inSeq cs l
  fl : found.length ≤ k
  we : ∀ w ∈ waiting, w.Nodup ∧ (∀ c ∈ w, c ∈ cs) ∧ w.length ≤ cs.length
  wl : waiting.length ≤ 1 + 14 * k
  lam : ∀ l ∈ found, ∀ m ∈ found, Lam l m
  wf : ∀ w ∈ waiting, ∀ l ∈ found, (∀ c ∈ w, c ∈ l) ∨ ∀ c ∈ w, c ∉ l
  ww : waiting.Pairwise fun a b => ∀ c ∈ a, c ∉ b
theorem mem_inSeq {cs lot : List Nm} {c : Nm} : c ∈ inSeq cs lot ↔ c ∈ cs ∧ c ∈ lot := by
  unfold inSeq
  rw [List.mem_filter, memb_iff]
theorem inSeq_perm {cs lot : List Nm} (nd : cs.Nodup) (ln : lot.Nodup) (hs : ∀ c ∈ lot, c ∈ cs) : (inSeq cs lot).Perm lot := by
  refine (List.perm_ext_iff_of_nodup (nd.filter _) ln).mpr fun c => ?_
  show c ∈ inSeq cs lot ↔ c ∈ lot
  rw [mem_inSeq]
  exact ⟨fun h => h.2, fun h => ⟨hs c h, h⟩⟩
theorem inSeq_idem (cs lot : List Nm) : inSeq cs lot = inSeq cs (inSeq cs lot) := by
  have h : ∀ c ∈ cs, memb c lot = memb c (inSeq cs lot) := fun c hc => by
    rw [Bool.eq_iff_iff, memb_iff, memb_iff, mem_inSeq]
    exact ⟨fun h => ⟨hc, h⟩, fun h => h.2⟩
  show cs.filter _ = cs.filter _
  exact List.filter_congr h
theorem len_part {α : Type} : ∀ {P : List (List α)} {p : List α}, p ∈ P → p.length ≤ P.flatten.length
  | q :: P, p, h => by
    rw [List.flatten_cons, List.length_append]
    rcases List.mem_cons.mp h with e | e
    · rw [e]
      omega
    · have := len_part e
      omega
theorem Gr.start {cs ys : List Nm} (nd : cs.Nodup) (h : SomeOf cs cs.length ys) : Gr cs 0 [] [ys] := by
  obtain ⟨h1, rest, h2⟩ := h
  have h3 := h2.length_eq
  rw [List.length_append] at h3
  have h4 : rest = [] := List.length_eq_zero_iff.mp (by omega)
  rw [h4, List.append_nil] at h2
  refine ⟨fun l hl => (by cases hl), Nat.le_refl _, fun w hw => ?_, Nat.le_refl _, fun l hl => (by cases hl), fun w _ l hl => (by cases hl), List.pairwise_singleton _ _⟩
  rw [List.mem_singleton.mp hw]
  exact ⟨h2.nodup_iff.mpr nd, fun c hc => h2.mem_iff.mp hc, Nat.le_of_eq h1⟩
theorem Gr.stay {cs : List Nm} {k : Nat} {found waiting : List Lot} (g : Gr cs k found waiting) : Gr cs (k + 1) found waiting :=
  ⟨g.fe, Nat.le_succ_of_le g.fl, g.we, by have := g.wl; omega, g.lam, g.wf, g.ww⟩
theorem Gr.skip {cs : List Nm} {k : Nat} {found ws : List Lot} {lot : Lot} (g : Gr cs k found (ws ++ [lot])) : Gr cs (k + 1) found ws := by
  have hl := g.wl
  rw [List.length_append, List.length_singleton] at hl
  exact ⟨g.fe, Nat.le_succ_of_le g.fl, fun w hw => g.we w (List.mem_append_left _ hw), by omega, g.lam, fun w hw => g.wf w (List.mem_append_left _ hw), (List.pairwise_append.mp g.ww).1⟩
theorem Gr.step {cs : List Nm} {k : Nat} {found ws P : List Lot} {lot : Lot} (nd : cs.Nodup) (g : Gr cs k found (ws ++ [lot])) (hb : 1 < lot.length) (hP : P.flatten.Perm lot) (hn : P.length ≤ 14) : Gr cs (k + 1) (found ++ [inSeq cs lot]) (ws ++ P.filter isBig) := by
  have hl := g.wl
  rw [List.length_append, List.length_singleton] at hl
  have hlot := g.we lot (List.mem_append_right _ (List.mem_singleton.mpr rfl))
  obtain ⟨l1, l2, l3⟩ := hlot
  have pm := inSeq_perm nd l1 l2
  have fl := List.length_filter_le isBig P
  have hmemP : ∀ p ∈ P, ∀ c ∈ p, c ∈ lot := fun p hp c hc => hP.mem_iff.mp (List.mem_flatten.mpr ⟨p, hp, hc⟩)
  have hnd : P.flatten.Nodup := hP.nodup_iff.mpr l1
  have hpw := List.pairwise_flatten.mp hnd
  have hmi : ∀ c, c ∈ inSeq cs lot ↔ c ∈ lot := fun c => by
    rw [mem_inSeq]
    exact ⟨fun h => h.2, fun h => ⟨l2 c h, h⟩⟩
  have lotf : ∀ l ∈ found, (∀ c ∈ lot, c ∈ l) ∨ ∀ c ∈ lot, c ∉ l := g.wf lot (List.mem_append_right _ (List.mem_singleton.mpr rfl))
  have wslot : ∀ w ∈ ws, ∀ c ∈ w, c ∉ lot := fun w hw => (List.pairwise_append.mp g.ww).2.2 w hw lot (List.mem_singleton.mpr rfl)
  refine ⟨fun l hl => ?_, ?_, fun w hw => ?_, ?_, fun l hl m hm => ?_, fun w hw l hl => ?_, ?_⟩
  · rcases List.mem_append.mp hl with z | z
    · exact g.fe l z
    · rw [List.mem_singleton.mp z]
      exact ⟨by rw [pm.length_eq]; exact hb, inSeq_idem cs lot⟩
  · rw [List.length_append, List.length_singleton]
    have := g.fl
    omega
  · rcases List.mem_append.mp hw with z | z
    · exact g.we w (List.mem_append_left _ z)
    · have hwP := (List.mem_filter.mp z).1
      refine ⟨hpw.1 w hwP, fun c hc => l2 c (hmemP w hwP c hc), ?_⟩
      have h1 := len_part hwP
      rw [hP.length_eq] at h1
      omega
  · rw [List.length_append]
    omega
  · have new : ∀ m ∈ found, Lam (inSeq cs lot) m ∧ Lam m (inSeq cs lot) := fun m hm => by
      rcases lotf m hm with h | h
      · exact ⟨.inl fun c hc => h c ((hmi c).mp hc), .inr (.inl fun c hc => h c ((hmi c).mp hc))⟩
      · exact ⟨.inr (.inr fun c hc => h c ((hmi c).mp hc)), .inr (.inr fun c hc z => h c ((hmi c).mp z) hc)⟩
    rcases List.mem_append.mp hl with z | z <;> rcases List.mem_append.mp hm with y | y
    · exact g.lam l z m y
    · rw [List.mem_singleton.mp y]
      exact (new l z).2
    · rw [List.mem_singleton.mp z]
      exact (new m y).1
    · rw [List.mem_singleton.mp y, List.mem_singleton.mp z]
      exact .inl fun c hc => hc
  · rcases List.mem_append.mp hw with z | z <;> rcases List.mem_append.mp hl with y | y
    · exact g.wf w (List.mem_append_left _ z) l y
    · rw [List.mem_singleton.mp y]
      exact .inr fun c hc h => wslot w z c hc ((hmi c).mp h)
    · have hwP := (List.mem_filter.mp z).1
      rcases lotf l y with h | h
      · exact .inl fun c hc => h c (hmemP w hwP c hc)
      · exact .inr fun c hc => h c (hmemP w hwP c hc)
    · have hwP := (List.mem_filter.mp z).1
      rw [List.mem_singleton.mp y]
      exact .inl fun c hc => (hmi c).mpr (hmemP w hwP c hc)
  · refine List.pairwise_append.mpr ⟨(List.pairwise_append.mp g.ww).1, List.Pairwise.filter _ (hpw.2.imp fun h c hc hd => h c hc c hd rfl), fun w hw p hp c hc hcp => ?_⟩
    exact wslot w hw c hc (hmemP p (List.mem_filter.mp hp).1 c hcp)
end Pg
set_option maxHeartbeats 4000000
namespace Cf
open PySem PySem.Spec PyProof.Rows L2 PySem.W
/-- from lo, u of them -/
def between (K : PySem.W.Frag) (lo u : Nat) : TP := exT (fun i : Nat => lo ≤ i ∧ i < lo + u) fun i => is K ((i : Nat) : Int)
section
variable {T : Tb} {R : Hp} {X : Cx} {a : Addr} {ρt : List AV} {n m : Nat} {e b : Expr} {pos p p1 : Pos} {Eo : Po}
/-- lo + a drawn one -/
theorem d_addB {lo u : Nat} (ha : Cf.E T R X (pt a n ρt) b (is X.K ((lo : Nat) : Int)).p) (hb : D T R X a ρt n m e (below X.K u).p) : D T R X a ρt n m (.BinOp b .Add e pos) (between X.K lo u).p :=
  d_of (pe_op op_add ha hb) fun σ H H0 Q en q => ⟨⟨H0, en⟩, fun v H1 x1 p1 => ⟨H0, en.step x1, fun w H2 e2 x2 ⟨i, hi, p2⟩ => by
    obtain ⟨_, ⟨z, _, h3⟩, _⟩ := en.pot
    refine ⟨_, _, is_int.mp p1, is_int.mp p2, q _ _ e2 ((ex_mi3 x1 h3).trans x2) ⟨lo + i, ⟨by omega, by omega⟩, is_int.mpr ?_⟩⟩
    rw [Int.natCast_add]⟩⟩
end
theorem ss_know {T : Tb} {R : Hp} {X : Cx} {ρ : List AV} {Eo : Po} {sts : List Stmt} {A : AV} {φ : Prop} (i : Nat) (hr : ρ[i]? = some A) (hk : ∀ S s H, SlotOk R H S A s → φ) (h : φ → Ss T R X ρ sts Eo) : Ss T R X ρ sts Eo :=
  ⟨fun pins s σ H D I ⟨H0, en, q⟩ => by
    obtain ⟨S, hs⟩ := en.slot hr
    exact (h (hk _ _ _ hs)).run pins s σ H D I ⟨H0, en, q⟩⟩
/-- a letter in a parameter -/
theorem ss_openR {T : Tb} {R : Hp} {X : Cx} {ρ : List AV} {Eo : Po} {sts : List Stmt} {ζ : Type} {φ : ζ → Prop} {P : ζ → TP} (i : Nat) (hr : ρ[i]? = some (.r (exT φ P).r)) (h : ∀ z, φ z → Ss T R X (ρ.set i (.r (P z).r)) sts Eo) : Ss T R X ρ sts Eo :=
  ⟨fun pins s σ H D I ⟨H0, en, q⟩ => by
    obtain ⟨F, w⟩ := en.own
    obtain ⟨v, e1, z, hz, h1⟩ : ∃ v, σ[i]? = some (some v) ∧ (exT φ P).r.p v R := w.ok i _ hr
    refine (h z hz).run pins s σ H D I ⟨H0, ⟨en.ex0, en.ex, en.tab, by rw [List.length_set, en.len], F, w.one, w.new, w.has, fun j A ha => ?_⟩, q⟩
    by_cases q : j = i
    · subst q
      have hj : j < ρ.length := (List.getElem?_eq_some_iff.mp hr).1
      rw [List.getElem?_set_self hj] at ha
      cases ha
      exact ⟨v, e1, h1⟩
    · rw [List.getElem?_set_ne (Ne.symm q)] at ha
      exact w.ok j A ha⟩
theorem flatten_set {α : Type} : ∀ {yss : List (List α)} {k : Nat} {ys : List α} (z : α), yss[k]? = some ys → (yss.set k (ys ++ [z])).flatten.Perm (yss.flatten ++ [z])
  | [], _, _, _, h => by cases h
  | y :: yss, 0, ys, z, h => by
    have h : y = ys := by simpa using h
    subst h
    show (y ++ [z] ++ yss.flatten).Perm (y ++ yss.flatten ++ [z])
    rw [List.append_assoc, List.append_assoc]
    exact (List.perm_append_comm).append_left y
  | y :: yss, k + 1, ys, z, h => by
    show (y ++ (yss.set k (ys ++ [z])).flatten).Perm (y ++ yss.flatten ++ [z])
    rw [List.append_assoc]
    exact (flatten_set (yss := yss) (k := k) z (by simpa using h)).append_left y
theorem flatten_sing {α : Type} : ∀ xs : List α, (xs.map fun c => [c]).flatten = xs
  | [] => rfl
  | x :: xs => by
    show [x] ++ (xs.map fun c => [c]).flatten = x :: xs
    rw [flatten_sing xs]
    rfl
theorem zip_filter_snd {α β : Type} (p : β → Bool) : ∀ {ls : List α} {ys : List β}, ls.length = ys.length → (((ls.zip ys).filter fun q => p q.2).map fun q => q.2) = ys.filter p
  | [], [], _ => rfl
  | [], _ :: _, h => by cases h
  | _ :: _, [], h => by cases h
  | a :: ls, y :: ys, h => by
    have ih := zip_filter_snd p (ls := ls) (ys := ys) (by simpa using h)
    rw [List.zip_cons_cons, List.filter_cons, List.filter_cons]
    by_cases q : p y = true
    · rw [if_pos q, if_pos q, List.map_cons, ih]
    · rw [if_neg q, if_neg q, ih]
end Cf
namespace Pg
open PySem PySem.Spec PyProof.Rows L2 Cf NdefX PySem.W
abbrev grownCost (cs : List Nm) : Nat := cs.length + 24 * (1 + cs.length)
structure GrownOk (cs : List Nm) (found : List Lot) : Prop where
  fe : ∀ l ∈ found, 1 < l.length ∧ l = inSeq cs l
  lam : ∀ l ∈ found, ∀ m ∈ found, Lam l m
  fl : found.length ≤ 24
section
variable {P : Program} {w : World} {K : PySem.W.Frag} {mg : Str → Option Value} {base : Heap} {T : Tb}
/-! ### _law_grown -/
abbrev spGrown (T : Tb) (K : PySem.W.Frag) : Sp := spD T (fun cs : List Nm => grownCost cs) (fun cs => [seqR K cs, (between K 1 999).r]) (fun cs => cs.Nodup ∧ 2 ≤ cs.length ∧ cs.length ≤ 14) fun cs => nw (exO (GrownOk cs) (lstO K))
theorem ok_grown (F : Fdef K mg "_law_grown" s_law_grown) (G : Bl mg) (c1 : Cal P w K mg base 1 "_law_take" (spTake T K)) (c2 : Cal P w K mg base 2 "_law_some" (spSome T K)) : Cal P w K mg base 3 "_law_grown" (spGrown T K) := by
  refine cal_ofD F sc_law_grown (fun _ => rfl) (fun _ _ _ _ _ _ us hl => match us, hl with | [_, _, _], _ => rfl) (fun cs n a f cdv A outer s H E hz hr hr2 => ?_)
  obtain ⟨nd, hz2, hz3⟩ := hz
  refine ss_openR (φ := fun i : Nat => 1 ≤ i ∧ i < 1 + 999) (P := fun i => is K ((i : Nat) : Int)) 2 rfl fun wide hwide => ?_
  have hz4 : 0 < wide := hwide.1
  have hz5 : wide ≤ 1000 := by omega
  have hr : n + (cs.length + 24 * (1 + cs.length)) ≤ PotB := hr
  have hB : PotB = 16384 := rfl
  show Ss T (mi a H) _ (pt a n [.r (seqR K cs), .r (is K ((wide : Nat) : Int)).r, .u, .u, .u, .u, .u, .u, .u, .u]) _ _
  refine ss_cons (ρ1 := pt a (n + cs.length) [.r (seqR K cs), .r (is K ((wide : Nat) : Int)).r, .o (lstO K ([] : List Lot)), .o (exO (SomeOf cs cs.length) fun ys => lstO K [ys]), .u, .u, .u, .u, .u, .u])
    (s_parNDN (O1 := lstO K ([] : List Lot)) (O2 := exO (SomeOf cs cs.length) fun ys => lstO K [ys]) 2 3 sc_law_grown.nd n_lst0 (dn_lst1 (d_tupleN (dn_call (cost := fun z : List Nm × Nat => z.2) (Ps := fun z => [seqR K z.1, (is K ((z.2 : Nat) : Int)).r]) (φ := fun z => z.2 ≤ z.1.length ∧ z.1.length ≤ 1000) (Pf := fun z => nw (someO K z.1 z.2)) c2 hr2 (by omega) (cs, cs.length) ⟨Nat.le_refl _, by show cs.length ≤ 1000; omega⟩ (by show n + cs.length ≤ PotB; omega)
      (da_cons (P := seqR K cs) (d_par 0 rfl) (da_cons (P := (is K ((cs.length : Nat) : Int)).r) (d_t (P := is K ((cs.length : Nat) : Int)) (e_len (e_par 1 rfl) G.len)) da_nil)) fun _ _ _ p => p) G.tuple)) (by decide) fun _ _ _ en => en) ?_
  refine ss_openO 4 rfl fun ys hys => ?_
  show Ss T (mi a H) _ (pt a (n + cs.length) [.r (seqR K cs), .r (is K ((wide : Nat) : Int)).r, .o (lstO K ([] : List Lot)), .o (lstO K [ys]), .u, .u, .u, .u, .u, .u]) _ _
  refine ss_cons (ρ1 := pt a (n + grownCost cs) [.r (seqR K cs), .r (is K ((wide : Nat) : Int)).r, .o (exO (GrownOk cs) (lstO K)), .u, .u, .u, .u, .u, .u, .u]) (s_forE (ζ := List Lot × List Lot) (xs := List.range 24) (gt := fun i => is K ((i : Nat) : Int)) (fun pre y => Gr cs pre.length y.1 y.2)
    (fun pre y => pt a (n + cs.length + pre.length * (1 + cs.length)) [.r (seqR K cs), .r (is K ((wide : Nat) : Int)).r, .o (lstO K y.1), .o (lstO K y.2), .u, .u, .u, .u, .u, .u])
    (fun pre y i => pt a (n + cs.length + pre.length * (1 + cs.length)) [.r (seqR K cs), .r (is K ((wide : Nat) : Int)).r, .o (lstO K y.1), .o (lstO K y.2), .t (is K ((i : Nat) : Int)), .u, .u, .u, .u, .u]) ([], [ys])
    (w_range (n := 24) e_int (by decide) G.range) (pg_name (i := 5) sc_law_grown.nd rfl (Or.inl rfl)) (Gr.start nd hys) (by rw [List.length_nil, Nat.zero_mul, Nat.add_zero]; exact Wk.refl _) (js := [5]) (fun pre i post y _ _ => by exact tg_name (i := 5) (P := is K ((i : Nat) : Int))) (fun pre i post y e hy => ?_) (fun H0 σ H' y hy en => ?_)) ?_
  · obtain ⟨found, waiting⟩ := y
    have gr : Gr cs pre.length found waiting := hy
    have h4 := congrArg List.length e
    rw [List.length_range] at h4
    simp only [List.length_append, List.length_cons] at h4
    have hpre : pre.length * (1 + cs.length) ≤ 23 * (1 + cs.length) := Nat.mul_le_mul_right _ (by omega)
    have e2 : n + cs.length + (pre ++ [i]).length * (1 + cs.length) = n + cs.length + pre.length * (1 + cs.length) + (1 + cs.length) := by rw [List.length_append, List.length_singleton, Nat.add_mul, Nat.one_mul, ← Nat.add_assoc]
    obtain ⟨N0, hN0⟩ : ∃ N0, N0 = n + cs.length + pre.length * (1 + cs.length) := ⟨_, rfl⟩
    have hN1 : N0 + (1 + cs.length) ≤ PotB := by omega
    rw [e2]
    rw [← hN0]
    have wl := gr.wl
    have fl := gr.fl
    refine ss_one (s_if (k := !eqb waiting []) (b_cm (c_neL hr2 (by decide) (e_ownL 4 rfl) (e_newL n_lst0))) (fun hk => ?_) fun hk => ss_nil fun H0 σ H' en => ⟨(found, waiting), by rw [List.length_append]; exact gr.stay, ?_⟩)
    · have hne : waiting ≠ [] := fun z => by
        rw [z] at hk
        cases hk
      obtain ⟨ws, lot, rfl⟩ : ∃ ws lot, waiting = ws ++ [lot] := ⟨waiting.dropLast, waiting.getLast hne, (List.dropLast_concat_getLast hne).symm⟩
      rw [List.length_append, List.length_singleton] at wl
      have hlot := gr.we lot (List.mem_append_right _ (List.mem_singleton.mpr rfl))
      obtain ⟨l1, l2, l3⟩ := hlot
      refine ss_cons (ρ1 := pt a N0 [.r (seqR K cs), .r (is K ((wide : Nat) : Int)).r, .o (lstO K found), .o (lstO K ws), .t (is K ((i : Nat) : Int)), .t (is K lot), .u, .u, .u, .u]) (s_popLast (xs := ws) (z := lot) 4 6 sc_law_grown.nd rfl (by decide) (by omega) fun _ _ _ en => en) ?_
      refine ss_one (s_if (k := decide ((1 : Int) < ((lot.length : Nat) : Int))) (b_cm (c_gt (e_len (e_seq (e_var (P := is K lot) 6 rfl)) G.len) e_int)) (fun hb => ?_) fun hb => ss_nil fun H0 σ H' en => ⟨(found, ws), by rw [List.length_append]; exact gr.skip, ?_⟩)
      · have hb : 1 < lot.length := by
          have := of_decide_eq_true hb
          omega
        refine ss_cons (ρ1 := pt a N0 [.r (seqR K cs), .r (is K ((wide : Nat) : Int)).r, .o (lstO K (found ++ [inSeq cs lot])), .o (lstO K ws), .t (is K ((i : Nat) : Int)), .t (is K lot), .u, .u, .u, .u])
          (s_append (z := inSeq cs lot) 3 rfl (by omega) (e_imp (e_tupleOf (e_newS (n_lcF (gt := is K) 9 [("copy", 9)] (fun c => memb c lot) id (w_par 1 rfl) sc_law_grown.nd (blkOk_by (N := N_law_grown) (sc := defScope s_law_grown) (by decide +kernel)) (by omega)
            (fun _ _ _ _ _ => pg_name (i := 9) sc_law_grown.nd rfl (Or.inl rfl)) (fun _ _ _ _ _ c hc => by exact b_cm (c_in hr2 (by decide) (e_var 9 rfl) (e_seq (e_var (P := is K lot) 6 rfl)))) (fun _ _ _ _ _ c hc _ => by exact e_var 9 rfl))) G.tuple) fun v H _ p => by rw [List.map_id] at p; exact p) fun _ _ _ en => en) ?_
        have hmin : min wide (lot.length - 1) = (min (wide : Int) ((lot.length : Int) - 1)).toNat := by omega
        obtain ⟨u, hu⟩ : ∃ u, u = min wide (lot.length - 1) := ⟨_, rfl⟩
        refine ss_cons (ρ1 := pt a (N0 + 1) [.r (seqR K cs), .r (is K ((wide : Nat) : Int)).r, .o (lstO K (found ++ [inSeq cs lot])), .o (lstO K ws), .t (is K ((i : Nat) : Int)), .t (is K lot), .t (between K 2 u), .u, .u, .u])
          (s_setD (P := between K 2 u) (m := N0 + 1) 6 sc_law_grown.nd (d_addB (lo := 2) (u := u) e_int (d_take (u := u) (m := N0) c1 hr2 (by omega) (by omega) (by omega) (by omega)
            (d_t (P := is K ((u : Nat) : Int)) (e_cast (f := fun i : Int => (is K i).p) (e_min2 (m := (wide : Int)) (n := (lot.length : Int) - 1) (e_par (P := (is K ((wide : Nat) : Int)).r) 2 rfl) (e_sub (e_len (e_seq (e_var (P := is K lot) 6 rfl)) G.len) e_int) G.min) (by omega))))) fun _ _ _ en => en) ?_
        refine ss_openT 7 rfl fun many hmany => ?_
        obtain ⟨hm1, hm2⟩ := hmany
        have hml : many ≤ lot.length := by omega
        show Ss T (mi a H) _ (pt a (N0 + 1) [.r (seqR K cs), .r (is K ((wide : Nat) : Int)).r, .o (lstO K (found ++ [inSeq cs lot])), .o (lstO K ws), .t (is K ((i : Nat) : Int)), .t (is K lot), .t (is K ((many : Nat) : Int)), .u, .u, .u]) _ _
        refine ss_cons (ρ1 := pt a (N0 + 1) [.r (seqR K cs), .r (is K ((wide : Nat) : Int)).r, .o (lstO K (found ++ [inSeq cs lot])), .o (lstO K ws), .t (is K ((i : Nat) : Int)), .t (is K lot), .t (is K ((many : Nat) : Int)), .o (sidesO K ((lot.take many).map fun c => [c])), .u, .u])
          (s_lcN (xs := lot.take many) (gt := is K) 8 9 [("copy", 9)] (fun c => [c]) (w_tup (e_upto (e_var (P := is K lot) 6 rfl) (e_var (P := is K ((many : Nat) : Int)) 7 rfl) hml)) sc_law_grown.nd (blkOk_by (N := N_law_grown) (sc := defScope s_law_grown) (by decide +kernel)) (by rw [List.length_take]; omega)
            (fun _ _ _ _ _ => pg_name (i := 9) sc_law_grown.nd rfl (Or.inl rfl)) (fun _ _ _ _ _ c hc => by exact n_lst1 (e_var 9 rfl)) fun _ _ _ en => en) ?_
        refine ss_openO 8 rfl fun q _ => ?_
        obtain ⟨l, ls⟩ := q
        show Ss T (mi a H) _ (pt a (N0 + 1) [.r (seqR K cs), .r (is K ((wide : Nat) : Int)).r, .o (lstO K (found ++ [inSeq cs lot])), .o (lstO K ws), .t (is K ((i : Nat) : Int)), .t (is K lot), .t (is K ((many : Nat) : Int)), .o (sidesX K l ls ((lot.take many).map fun c => [c])), .u, .u]) _ _
        have hdl : (lot.drop many).length = lot.length - many := List.length_drop
        refine ss_consE (ζ := List (List Nm)) (φ := fun yss => yss.length = many ∧ yss.flatten.Perm lot) (ρ1 := fun yss => pt a (N0 + 1 + (lot.length - many)) [.r (seqR K cs), .r (is K ((wide : Nat) : Int)).r, .o (lstO K (found ++ [inSeq cs lot])), .o (lstO K ws), .t (is K ((i : Nat) : Int)), .t (is K lot), .t (is K ((many : Nat) : Int)), .o (sidesX K l ls yss), .u, .u])
          (s_forE (ζ := List (List Nm)) (xs := lot.drop many) (gt := is K) (fun pre yss => yss.length = many ∧ yss.flatten.Perm (lot.take many ++ pre))
            (fun pre yss => pt a (N0 + 1 + pre.length) [.r (seqR K cs), .r (is K ((wide : Nat) : Int)).r, .o (lstO K (found ++ [inSeq cs lot])), .o (lstO K ws), .t (is K ((i : Nat) : Int)), .t (is K lot), .t (is K ((many : Nat) : Int)), .o (sidesX K l ls yss), .u, .u])
            (fun pre yss c => pt a (N0 + 1 + pre.length) [.r (seqR K cs), .r (is K ((wide : Nat) : Int)).r, .o (lstO K (found ++ [inSeq cs lot])), .o (lstO K ws), .t (is K ((i : Nat) : Int)), .t (is K lot), .t (is K ((many : Nat) : Int)), .o (sidesX K l ls yss), .t (is K c), .u]) ((lot.take many).map fun c => [c])
            (w_tup (e_from (e_var (P := is K lot) 6 rfl) (e_var (P := is K ((many : Nat) : Int)) 7 rfl) hml)) (pg_name (i := 9) sc_law_grown.nd rfl (Or.inl rfl)) ⟨by rw [List.length_map, List.length_take]; omega, by rw [flatten_sing, List.append_nil]⟩ (Wk.refl _) (js := [9]) (fun pre c post yss _ _ => by exact tg_name (i := 9) (P := is K c)) (fun pre2 c post2 yss e3 hyss => ?_) (fun H0 σ H' yss hyss en => ?_)) fun yss hyss => ?_
        · obtain ⟨hy1, hy2⟩ := hyss
          have h5 := congrArg List.length e3
          rw [hdl] at h5
          simp only [List.length_append, List.length_cons] at h5
          have h6 := hy2.length_eq
          rw [List.length_append, List.length_take] at h6
          refine ss_one (s_sideApp (yss := yss) (z := c) (m := N0 + 1 + pre2.length + 1) 7 rfl (fun y hy => by
            have := len_part hy
            omega) (d_take (u := yss.length) (m := N0 + 1 + pre2.length) c1 hr2 (by omega) (by omega) (by omega) (by omega) (d_t (P := is K ((yss.length : Nat) : Int)) (e_cast (f := fun i : Int => (is K i).p) (e_var (P := is K ((many : Nat) : Int)) 7 rfl) (by rw [hy1])))) (e_var (P := is K c) 9 rfl) fun k ys0 H0 σ H' hk en => ?_)
          refine ⟨yss.set k (ys0 ++ [c]), ⟨by rw [List.length_set]; exact hy1, ?_⟩, ?_⟩
          · rw [← List.append_assoc]
            exact (flatten_set c hk).trans (hy2.append_right [c])
          · have e4 : N0 + 1 + (pre2 ++ [c]).length = N0 + 1 + pre2.length + 1 := by rw [List.length_append, List.length_singleton]; omega
            rw [e4]
            exact en.weak (.same (.same (.same (.same (.same (.same (.same (.same (.same (.drop (.same .nil)))))))))))
        · obtain ⟨hy1, hy2⟩ := hyss
          rw [List.take_append_drop] at hy2
          rw [hdl] at en
          exact ⟨yss, ⟨hy1, hy2⟩, en⟩
        · obtain ⟨hy1, hy2⟩ := hyss
          have h6 := hy2.length_eq
          refine ss_know (A := .o (sidesX K l ls yss)) (φ := ls.length = yss.length) 8 rfl (fun S s H h => by
            obtain ⟨v, _, _, _, _, _, _, g⟩ := h
            exact EachIs.len g) fun hlen => ?_
          refine ss_one (s_extendL (ys := yss.filter isBig) 4 rfl ?_ (e_newX ?_) fun H0 σ H' en => ⟨(found ++ [inSeq cs lot], ws ++ yss.filter isBig), ?_, ?_⟩)
          · have := List.length_filter_le isBig yss
            omega
          · rw [← zip_filter_snd isBig hlen]
            exact n_lcF (xs := ls.zip yss) (gt := fun q => refT q.1) 10 [("part", 10)] (fun q => isBig q.2) (fun q => q.2) (w_sides 8 rfl) sc_law_grown.nd (blkOk_by (N := N_law_grown) (sc := defScope s_law_grown) (by decide +kernel)) (by rw [List.length_zip]; omega)
              (fun _ _ _ _ _ => pg_name (i := 10) sc_law_grown.nd rfl (Or.inl rfl)) (fun _ _ _ _ _ q hq => by exact b_cm (c_gt (e_len (e_seqL (e_XL (e_part (q := q) 8 10 rfl rfl hq))) G.len) e_int)) (fun _ _ _ _ _ q hq _ => by exact e_tupleOf (e_seqL (e_XL (e_part (q := q) 8 10 rfl rfl hq))) G.tuple)
          · rw [List.length_append]
            exact gr.step nd hb hy2 (by omega)
          · have en1 := en.less (i := 0) (A := .o (potO a (N0 + 1 + (lot.length - many)))) (A' := .o (potO a (N0 + (1 + cs.length)))) rfl fun S s q => potO_more (by omega) S s q
            exact en1.weak (.same (.same (.same (.same (.same (.drop (.drop (.drop (.drop (.same (.same .nil)))))))))))
      · have en1 := en.less (i := 0) (A := .o (potO a N0)) (A' := .o (potO a (N0 + (1 + cs.length)))) rfl fun S s q => potO_more (by omega) S s q
        exact en1.weak (.same (.same (.same (.same (.same (.drop (.drop (.same (.same (.same (.same .nil)))))))))))
    · have en1 := en.less (i := 0) (A := .o (potO a N0)) (A' := .o (potO a (N0 + (1 + cs.length)))) rfl fun S s q => potO_more (by omega) S s q
      exact en1.weak (.same (.same (.same (.same (.same (.drop (.same (.same (.same (.same (.same .nil)))))))))))
  · obtain ⟨found, waiting⟩ := y
    have gr : Gr cs 24 found waiting := hy
    have e5 : n + cs.length + (List.range 24).length * (1 + cs.length) = n + grownCost cs := by
      rw [List.length_range, Nat.add_assoc]
    rw [e5] at en
    have en2 := en.less (i := 3) (A := .o (lstO K found)) (A' := .o (exO (GrownOk cs) (lstO K))) rfl fun S s ⟨v, q1, q2⟩ => ⟨v, q1, found, ⟨gr.fe, gr.lam, gr.fl⟩, q2⟩
    exact en2.weak (.same (.same (.same (.same (.drop (.same (.same (.same (.same (.same (.same .nil)))))))))))
  · exact ss_one (s_retOD 2 rfl fun v S H' hp hS x p => ⟨hp, p.elim fun y hy => ⟨S, hS, y, hy⟩⟩)
end
end Pg
set_option maxHeartbeats 4000000
/-! comprehensions that draw; tests that draw -/
namespace Cf
open PySem PySem.Spec PyProof.Rows L2 PySem.W
theorem PotAt.mono {a : Addr} {n m : Nat} {H : Hp} (h : PotAt a n H) (l : n ≤ m) : PotAt a m H := by
  obtain ⟨z, hz, e⟩ := h
  exact ⟨z, ⟨hz.x0, hz.y0, hz.y1, hz.k0, Int.le_trans hz.k1 (by omega)⟩, e⟩
section
variable {T : Tb} {R H0 H H' : Hp} {σ : L2.St} {a : Addr} {n m : Nat} {ρt : List AV}
theorem En.more (en : En T R H0 (pt a n ρt) σ H) (l : n ≤ m) : En T R H0 (pt a m ρt) σ H :=
  en.less (i := 0) (A := .o (potO a n)) (A' := .o (potO a m)) rfl fun S s q => Pg.potO_more l S s q
theorem En.wipe {ρ : List AV} {ρw : List AV} (vs : List Nat) (en : En T R H0 ρ σ H) (hw : wipeA ρ vs = ρw) : En T R H0 ρw (wipe σ vs) H := by
  obtain ⟨F, w⟩ := en.own
  subst hw
  exact ⟨en.ex0, en.ex, en.tab, by rw [wipe_length, wipeA_length, en.len], F, own_wipe w vs⟩
/-- from a heap less what is drawn from -/
theorem ez_dr {xs : List V} (h : H a = some (.lst xs)) (x : Ex T (mi a H) H') : Ez H H' := (ez_mi h).trans x.ez
end
section
variable {T : Tb} {R : Hp} {X : Cx} {a : Addr} {ρt : List AV} {n m m1 m2 : Nat} {e b c : Expr} {es : List Expr} {pos p p1 : Pos} {Eo : Po}
/-! ### tests -/
def cBX (T : Tb) (R : Hp) (a : Addr) (ρt : List AV) (n m : Nat) (φ : Prop) : TT := fun σ H Q => ∃ H0, En T R H0 (pt a n ρt) σ H ∧ ∀ k H', (k = true → φ) → En T R H0 (pt a m ρt) σ H' → Ex T (mi a H) (mi a H') → Q k H'
abbrev BX (T : Tb) (R : Hp) (X : Cx) (a : Addr) (ρt : List AV) (n m : Nat) (φ : Prop) (e : Expr) : Prop := PT X e (cBX T R a ρt n m φ)
theorem bx_eq {j u : Nat} {y : Int} (hr : Room j X.A) (ha : D T R X a ρt n m e (below X.K u).p) (hb : ∀ n, Cf.E T R X (pt a n ρt) b (is X.K y).p) : BX T R X a ρt n m True (.Compare e [.Eq] [b] pos) :=
  ⟨fun pins s σ H Q I ⟨H0, en, q⟩ => (pt_cmpR (op_eqD hr.units) ha (hb m) (nomark b)).run pins s σ H Q I ⟨H0, en, fun v H1 e1 x1 ⟨i, hi, p1⟩ => ⟨⟨H0, e1⟩, fun w H2 x2 p2 =>
    ⟨enc ((i : Nat) : Int), enc y, (by rw [is_int.mp p1]; exact Dp.int _), p2, enc_shaped (α := Int) (by decide) _, enc_shaped (α := Int) (by decide) y, _, rfl, by
      obtain ⟨_, ⟨z, _, h3⟩, _⟩ := e1.pot
      exact q _ H2 (fun _ => trivial) (e1.step x2) (x1.trans (ex_mi3 x2 h3))⟩⟩⟩⟩
theorem bx_gt {u : Nat} {y : Int} (ha : D T R X a ρt n m e (below X.K u).p) (hb : ∀ n, Cf.E T R X (pt a n ρt) b (is X.K y).p) : BX T R X a ρt n m True (.Compare e [.Gt] [b] pos) :=
  ⟨fun pins s σ H Q I ⟨H0, en, q⟩ => (pt_cmpR op_gt ha (hb m) (nomark b)).run pins s σ H Q I ⟨H0, en, fun v H1 e1 x1 ⟨i, hi, p1⟩ => ⟨⟨H0, e1⟩, fun w H2 x2 p2 => by
    obtain ⟨_, ⟨z, _, h3⟩, _⟩ := e1.pot
    exact ⟨((i : Nat) : Int), y, is_int.mp p1, is_int.mp p2, _, rfl, q _ H2 (fun _ => trivial) (e1.step x2) (x1.trans (ex_mi3 x2 h3))⟩⟩⟩⟩
theorem bx_and {k : Bool} {φ : Prop} (h : B T R X (pt a n ρt) c k) (hk : k = true → φ) (hnm : n ≤ m) (t : BX T R X a ρt n m True b) : BX T R X a ρt n m φ (.BoolOp .And [c, b] pos) :=
  ⟨fun pins s σ H Q I ⟨H0, en, q⟩ => ((pw_and h (pw_and1 t)).pt).run pins s σ H Q I ⟨⟨H0, en⟩, fun H1 x1 => by
    obtain ⟨_, ⟨z, _, h3⟩, _⟩ := en.pot
    cases k with
    | false => exact iteF (q _ H1 (fun z => by cases z) ((en.step x1).more hnm) (ex_mi3 x1 h3))
    | true => exact iteT ⟨H0, en.step x1, fun k2 H2 _ e2 x2 => q k2 H2 (fun _ => hk rfl) e2 ((ex_mi3 x1 h3).trans x2)⟩⟩⟩
theorem d_when {P : V → Hp → Prop} {φ : Prop} (h : φ → D T R X a ρt n m e P) : PE X e (fun σ H Q => φ ∧ cD T R a ρt n m P σ H Q) := ⟨fun pins s σ H Q I ⟨z, q⟩ => (h z).run pins s σ H Q I q⟩
theorem d_ifX {φ : Prop} {P : V → Hp → Prop} (h : BX T R X a ρt n m1 φ c) (h1 : φ → D T R X a ρt m1 m2 e P) (h2 : D T R X a ρt m1 m2 b P) : D T R X a ρt n m2 (.IfExp c e b pos) P :=
  d_of (pe_ifExp h (d_when h1) h2) fun σ H H0 Q en q => ⟨H0, en, fun k H1 hk e1 x1 => by
    cases k with
    | true => exact iteT ⟨hk rfl, H0, e1, fun v H2 e2 x2 p2 => q v H2 e2 (x1.trans x2) p2⟩
    | false => exact iteF ⟨H0, e1, fun v H2 e2 x2 p2 => q v H2 e2 (x1.trans x2) p2⟩⟩
theorem d_more {P : V → Hp → Prop} (h : D T R X a ρt n m1 e P) (l : m1 ≤ m) : D T R X a ρt n m e P :=
  d_of h fun σ H H0 Q en q => ⟨H0, en, fun v H' e1 x1 p1 => q v H' (e1.more l) x1 p1⟩
theorem s_ifX {φ : Prop} {l r : List Stmt} (h : BX T R X a ρt n m φ c) (h1 : Ss T R X (pt a m ρt) l Eo) (h2 : Ss T R X (pt a m ρt) r Eo) : S T R X (pt a n ρt) (.If c l r pos) Eo :=
  s_of (ps_if h h1 h2) fun D σ H H0 en nn rr bb cc => ⟨H0, en, fun k H' _ e1 _ => by
    cases k with
    | true => exact iteT ⟨H0, e1, nn, rr, bb, cc⟩
    | false => exact iteF ⟨H0, e1, nn, rr, bb, cc⟩⟩
end
/-! ### [a new drawn list for x in ..] -/
section
variable {T : Tb} {R : Hp} {X : Cx} {a : Addr} {ρt ρw : List AV} {n m : Nat} {α β : Type} [DecidableEq β] [Enc β]
abbrev sidesE (K : PySem.W.Frag) (k : Nat) (φ : List β → Prop) : OP := exO (fun q : Addr × List Addr × List (List β) => q.2.2.length = k ∧ ∀ ys ∈ q.2.2, φ ys) fun q => sidesX K q.1 q.2.1 q.2.2
abbrev teDN (T : Tb) (R : Hp) (a : Addr) (K : PySem.W.Frag) (xs : List α) (ρ' : α → List AV) (n c : Nat) (φ : List β → Prop) : TE := fun σ H Q => ∃ k x, x ∈ xs ∧ k < xs.length ∧ cDN T R a (ρ' x) (n + k * c) (n + k * c + c) (exO φ (lstO K)) σ H Q
theorem lc_readDN {K : PySem.W.Frag} {xs : List α} {gt : α → TP} {g : TG} {js : List Nat} {own : List (Str × Nat)} {ρ' : α → List AV} {c : Nat} {φ : List β → Prop}
    (hwp : ∀ n, wipeA (pt a n ρt) (own.map (·.2)) = pt a n ρw) (hj : ∀ j ∈ js, j ∈ own.map (·.2)) (hl : xs.length ≤ 1000000) (hg : ∀ x ∈ xs, ∀ n, Tg T R (pt a n ρw) g (gt x) (pt a n (ρ' x)) js) :
    ∀ (σ : L2.St) (H H0 : Hp) (Q : VK), En T R H0 (pt a n ρt) σ H → (∀ v S H', En T R H0 (pt a (n + xs.length * c) ρt) σ H' → (∀ i, En T R H0 ((pt a (n + xs.length * c) ρt).set (i + 1) (.o (sidesE K xs.length φ))) (σ.set (i + 1) (some v)) H') → Ex T (mi a H) (mi a H') → (∀ b, S b → H b = none) → (sidesE K xs.length φ).p v S (mi a H') → Q v H') →
      tLc (cW T R (pt a n ρt) True (xs.map gt)) g tYes (teDN T R a K xs ρ' n c φ) (own.map (·.2)) σ H Q := by
  intro σ H H0 Q en q
  refine ⟨⟨H0, en⟩, fun J H1 an G Y x1 yl gG hA hfr D hD => ?_⟩
  obtain ⟨_, hp0, h0a⟩ := en.pot
  obtain ⟨ps, hHa⟩ := hp0.lst
  have hRa : R a = none := en.ex0.bk a h0a
  have h1a : H1 a = some (.lst ps) := x1.ext a _ hHa fun ps z => by cases z
  have en1 := en.step x1
  have enw : En T R H0 (pt a n ρw) (wipe σ (own.map (·.2))) H1 := en1.wipe _ (hwp n)
  have hDa : D ≠ a := fun z => by rw [z, h1a] at hD; cases hD
  have hna : ∀ pa o, an = some (pa, o) → pa ≠ a := fun pa o z e => by
    rcases hfr trivial pa o z with h | h
    · rw [e, hHa] at h
      cases h
    · rw [e, hRa] at h
      cases h
  have nA : ∀ pa o, an = some (pa, o) → pa ≠ D := fun pa o z e => by
    have h1 := hA pa o z
    rw [e, hD] at h1
    cases h1
  have hAx : ∀ H', Ex T (mi a H1) H' → AncOk an H' := fun H' x pa o z => x.ext pa o (by rw [mi_ne (hna pa o z)]; exact hA pa o z) (mut_ntbl (yl.nt pa o z))
  have hGx : ∀ H', Ex T (mi a H1) H' → G H' := fun H' x => yl.st _ _ (ez_dr h1a x) (hAx H' x) gG
  have hmD : (mi a H1) D = none := by rw [mi_ne hDa]; exact hD
  refine lc_it (g := g) (tt := tYes) (te := teDN T R a K xs ρ' n c φ) (vs := own.map (·.2)) (σ := σ) (Qd := fun H => Q (.ref D) H) yl.wk
    (fun k H' => ∃ ls yss, H' D = some (.lst (ls.map V.ref)) ∧ D ∉ ls ∧ ls.Nodup ∧ (∀ b ∈ ls, H1 b = none) ∧ EachIs (fun b ys => LstAt K H' b ys) ls yss ∧ yss.length = k ∧ (∀ ys ∈ yss, φ ys) ∧ Ex T (mi a H1) H' ∧ PotAt a (n + k * c) H')
    ⟨[], [], upd_same, List.not_mem_nil, List.nodup_nil, (fun b hb => absurd hb List.not_mem_nil), EachIs.nil, rfl, (fun ys hy => absurd hy List.not_mem_nil), (ex_mi h1a).trans (Ex.new hD), by
      obtain ⟨z, hz, e⟩ := hp0
      refine ⟨z, by rw [Nat.zero_mul]; exact hz, ?_⟩
      rw [upd_ne (Ne.symm hDa)]
      exact x1.ext a _ e fun ps z => by cases z⟩
    (fun k H' _ ⟨_, _, _, _, _, _, _, _, _, x, _⟩ => hGx H' x) ?_ ?_
  · rintro k x H2 H3 hk ⟨ls, yss, a1, a2, a3, a4, a5, a6, a7, a8, a9⟩ y
    have hk' : k < xs.length := by simpa using hk
    obtain ⟨x0, hx0⟩ : ∃ x0, xs[k]? = some x0 := ⟨_, List.getElem?_eq_getElem hk'⟩
    have hmem : x0 ∈ xs := List.mem_of_getElem? hx0
    have hP : (xs.map gt)[k]? = some (gt x0) := by rw [List.getElem?_map, hx0]; rfl
    obtain ⟨x2, p2⟩ := yl.ye k H2 x H3 (gt x0) (hGx H2 a8) y hP
    have en2 : En T R H0 (pt a (n + k * c) ρw) (wipe σ (own.map (·.2))) H2 := enw.drawn a8 a9
    have en3 := en2.step x2
    obtain ⟨g3s, hg3⟩ := a9.lst
    have h3a : H3 a = some (.lst g3s) := x2.ext a _ hg3 fun ps z => by cases z
    refine (hg x0 hmem _).run H0 _ H3 x _ en3 p2 fun σ' en4 hw' => ⟨hw' _ hj σ rfl, ?_⟩
    show teDN T R a K xs ρ' n c φ σ' H3 _
    refine ⟨k, x0, hmem, hk', H0, en4, fun v S H5 e5 _ x5 hS5 hO => ?_⟩
    obtain ⟨ys, hys, b, vs, hv, hS, hb, hd⟩ := hO
    subst hv
    obtain ⟨_, hp5, _⟩ := e5.pot
    obtain ⟨g5s, hg5⟩ := hp5.lst
    have x13 : Ex T (mi a H1) (mi a H3) := ex_mi2 (a8.trans x2) h3a
    have x15 : Ex T (mi a H1) H5 := (x13.trans x5).trans (ex_mi hg5)
    have hba : b ≠ a := (mi_some hb).1
    have hb5 : H5 b = some (.lst vs) := (mi_some hb).2
    have hb3 : H3 b = none := hS5 b (by rw [hS])
    have h3D : H3 D = some (.lst (ls.map V.ref)) := x2.ext D _ a1 fun ps z => by cases z
    have hbD : b ≠ D := fun z => by rw [z, h3D] at hb3; cases hb3
    have hb2 : H2 b = none := x2.bk b hb3
    have hb1 : H1 b = none := by
      have := x13.bk b (by rw [mi_ne hba]; exact hb3)
      rwa [mi_ne hba] at this
    have hbls : b ∉ ls := fun z => by
      obtain ⟨ys, _, ws, g1, _⟩ := a5.left b z
      rw [hb2] at g1
      cases g1
    have x35 : Ex T (mi a H3) H5 := x5.trans (ex_mi hg5)
    have h5D : H5 D = some (.lst (ls.map V.ref)) := x35.ext D _ (by rw [mi_ne hDa]; exact h3D) fun ps z => by cases z
    have hlen : ls.length = yss.length := EachIs.len a5
    refine ⟨ls.map V.ref, h5D, ?_, ls ++ [b], yss ++ [ys], by rw [List.map_append]; exact upd_same, ?_, ?_, ?_, ?_, by rw [List.length_append, List.length_singleton, a6], ?_, x15.put hmD h5D rfl, ?_⟩
    · have : sizeLine = 16777216 := sizeLine_eq
      rw [List.length_map]
      omega
    · rw [List.mem_append, List.mem_singleton]
      exact fun z => z.elim a2 fun z => hbD z.symm
    · rw [List.nodup_append]
      exact ⟨a3, by simp, fun c hc d hd e => hbls (by rw [List.mem_singleton.mp hd] at e; rw [← e]; exact hc)⟩
    · intro c hc
      rcases List.mem_append.mp hc with z | z
      · exact a4 c z
      · rw [List.mem_singleton.mp z]
        exact hb1
    · have ez35 : Ez H3 H5 := ez_dr h3a x35
      have ez : Ez H5 (upd H5 D (.lst (ls.map V.ref ++ [V.ref b]))) := Ez.put h5D rfl
      have old : ∀ {bs : List Addr} {zss : List (List β)}, (∀ c ∈ bs, c ≠ D ∧ c ≠ a) → EachIs (fun b ys => LstAt K H2 b ys) bs zss → EachIs (fun b' ys => LstAt K (upd H5 D (.lst (ls.map V.ref ++ [V.ref b]))) b' ys) bs zss := by
        intro bs zss hbs h
        induction h with
        | nil => exact .nil
        | cons h t ih =>
          obtain ⟨ws, g1, g2⟩ := h
          have hc := hbs _ List.mem_cons_self
          exact .cons ⟨ws, by
            rw [upd_ne hc.1]
            exact x35.ext _ _ (by rw [mi_ne hc.2]; exact x2.ext _ _ g1 fun ps z => by cases z) (fun ps z => by cases z), dps_ez ((x2.ez.trans ez35).trans ez) _ _ (encs_pure _) g2⟩ (ih fun c hc => hbs c (List.mem_cons_of_mem _ hc))
      have app : ∀ {bs : List Addr} {zss : List (List β)} {c : Addr} {ys : List β} {P : Addr → List β → Prop}, EachIs P bs zss → P c ys → EachIs P (bs ++ [c]) (zss ++ [ys]) := by
        intro bs zss c ys P h hc
        induction h with
        | nil => exact .cons hc .nil
        | cons h t ih => exact .cons h ih
      have hca : ∀ c ∈ ls, c ≠ D ∧ c ≠ a := fun c hc => by
        refine ⟨fun z => a2 (by rw [← z]; exact hc), fun z => ?_⟩
        have := a4 c hc
        rw [z, h1a] at this
        cases this
      refine app (old hca a5) ⟨vs, by rw [upd_ne hbD]; exact hb5, dps_ez (ez_of_mi.trans ez) _ _ (encs_pure _) hd⟩
    · intro zs hz
      rcases List.mem_append.mp hz with z | z
      · exact a7 zs z
      · rw [List.mem_singleton.mp z]
        exact hys
    · have e1 : n + (k + 1) * c = n + k * c + c := by rw [Nat.add_mul, Nat.one_mul, Nat.add_assoc]
      rw [e1]
      obtain ⟨z, hz, e⟩ := hp5
      exact ⟨z, hz, by rw [upd_ne (Ne.symm hDa)]; exact e⟩
  · rintro H' ⟨ls, yss, a1, a2, a3, a4, a5, a6, a7, a8, a9⟩
    rw [List.length_map] at a6 a9
    have X0 : Ex T (mi a H) H' := (ex_mi3 x1 hHa).trans a8
    obtain ⟨gs, hga⟩ := a9.lst
    have hn1 : ∀ b, (b = D ∨ b ∈ ls) → b ≠ a ∧ H b = none := fun b hb => by
      have h1 : H1 b = none := by
        rcases hb with z | z
        · rw [z]
          exact hD
        · exact a4 b z
      refine ⟨fun z => ?_, x1.bk b h1⟩
      rw [z, h1a] at h1
      cases h1
    have hO : (sidesE K xs.length φ).p (.ref D) (fun b => b = D ∨ b ∈ ls) H' := ⟨(D, ls, yss), ⟨a6, a7⟩, rfl, rfl, a2, a3, a1, a5⟩
    have hO2 : (sidesE K xs.length φ).p (.ref D) (fun b => b = D ∨ b ∈ ls) (mi a H') := (sidesE K xs.length φ).st _ _ _ _ (ez_mi hga) (fun b hb => mi_ne (hn1 b hb).1) hO
    exact q (.ref D) (fun b => b = D ∨ b ∈ ls) H' (en.drawn X0 a9) (fun i => en.drawnN X0 a9 (fun b hb => (hn1 b hb).2) hO) (ex_mi2 X0 hga) (fun b hb => (hn1 b hb).2) hO2
theorem dn_lcDN {xs : List α} {gt : α → TP} {elt iter : Expr} {x : Str} {xp : Pos} {scope : Scope} {pos : Pos} (i : Nat) (own : List (Str × Nat)) (ρ' : α → List AV) (c : Nat) (φ : List β → Prop)
    (hwp : ∀ n, wipeA (pt a n ρt) (own.map (·.2)) = pt a n ρw) (hw : W T R X (pt a n ρt) (.Name x xp) iter True (xs.map gt)) (hN : X.N.Nodup) (ok : BlkOk X.N X.env.scope scope own) (hl : xs.length ≤ 1000000)
    (hg : ∀ y ∈ xs, ∀ n, (pt a n ρw).set i (.t (gt y)) = pt a n (ρ' y))
    (pg : ∀ s H C cl fp, PG (Blk X scope s H C cl fp) (.Name x xp) (gName i))
    (he : ∀ s H C cl fp, ∀ k, k < xs.length → ∀ y ∈ xs, DN T R (Blk X scope s H C cl fp) a (ρ' y) (n + k * c) (n + k * c + c) elt (exO φ (lstO X.K)))
    (hj : ∀ j ∈ [i], j ∈ own.map (·.2) := by decide) (hc : X.calm = true := by rfl) (hs : ∀ x, foldedSetIterable iter X.env x = pure x := by intro _; rfl) :
    DN T R X a ρt n (n + xs.length * c) (.ListComp elt [⟨.Name x xp, iter, [], 0⟩] scope pos) (sidesE X.K xs.length φ) :=
  ⟨fun pins s σ H Q I ⟨H0, en, q⟩ => (pe_lc hc hN hw ok pg (fun _ _ _ _ _ => pts_nil) (fun s H C cl fp => (⟨fun pins s1 σ H1 Q I ⟨k, y, h1, h2, h3⟩ => (he s H C cl fp k h2 y h1).run pins s1 σ H1 Q I h3⟩ : PE _ elt (teDN T R a X.K xs ρ' n c φ))) hs).run pins s σ H Q I
    (lc_readDN (js := [i]) hwp hj hl (fun y hy n => by rw [← hg y hy n]; exact tg_name) σ H H0 Q en q)⟩
end
end Cf
set_option maxHeartbeats 4000000
/-! [x for x in a drawn list if a drawn test] -/
namespace Cf
open PySem PySem.Spec PyProof.Rows L2 PySem.W
section
variable {T : Tb} {R : Hp} {X : Cx} {a : Addr} {ρt ρw : List AV} {n m : Nat} {α : Type} [DecidableEq α] [Enc α]
def cWD (T : Tb) (R : Hp) (a : Addr) (ρt : List AV) (n m : Nat) (K : PySem.W.Frag) (ψ : List α → Prop) : TI := fun σ H Kx => ∃ H0, En T R H0 (pt a n ρt) σ H ∧
  ∀ J H' an G Y xs, ψ xs → En T R H0 (pt a m ρt) σ H' → Ex T (mi a H) (mi a H') → Yl T J an G (xs.map (is K)) Y → G H' → AncOk an H' → (∀ p o, an = some (p, o) → p ≠ a) → Kx J H'
abbrev ttDF (T : Tb) (R : Hp) (a : Addr) (K : PySem.W.Frag) (ρ' : α → List AV) (m L : Nat) : TT := fun σ H Q => ∃ (k : Nat) (x : α), k < L ∧ cBX T R a (ρ' x) (m + k) (m + k + 1) True σ H Q
abbrev teDF (T : Tb) (R : Hp) (a : Addr) (K : PySem.W.Frag) (ρ' : α → List AV) (m L : Nat) : TE := fun σ H Q => ∃ (k : Nat) (x : α), k < L ∧ cE T R (pt a (m + k + 1) (ρ' x)) (is K x).p σ H Q
theorem lc_readDF {K : PySem.W.Frag} {g : TG} {js : List Nat} {own : List (Str × Nat)} {ρ' : α → List AV} {L : Nat} {ψ : List α → Prop}
    (hwp : ∀ n, wipeA (pt a n ρt) (own.map (·.2)) = pt a n ρw) (hj : ∀ j ∈ js, j ∈ own.map (·.2)) (hL : ∀ xs, ψ xs → xs.length ≤ L) (hl : L ≤ 1000000) (hg : ∀ (x : α) n, Tg T R (pt a n ρw) g (is K x) (pt a n (ρ' x)) js) :
    ∀ (σ : L2.St) (H H0 : Hp) (Q : VK), En T R H0 (pt a n ρt) σ H → (∀ v S H', En T R H0 (pt a (m + L) ρt) σ H' → (∀ i, En T R H0 ((pt a (m + L) ρt).set (i + 1) (.o (exO (fun ys : List α => ∃ xs, ψ xs ∧ ys.Sublist xs) (lstO K)))) (σ.set (i + 1) (some v)) H') → Ex T (mi a H) (mi a H') → (∀ b, S b → H b = none) → (exO (fun ys : List α => ∃ xs, ψ xs ∧ ys.Sublist xs) (lstO K)).p v S (mi a H') → Q v H') →
      tLc (cWD T R a ρt n m K ψ) g (ttDF T R a K ρ' m L) (teDF T R a K ρ' m L) (own.map (·.2)) σ H Q := by
  intro σ H H0 Q en q
  refine ⟨H0, en, fun J H1 an G Y xs hψ en1 x1 yl gG hA hna D hD => ?_⟩
  obtain ⟨_, hp00, h0a⟩ := en.pot
  obtain ⟨ps0, hH0a⟩ := hp00.lst
  obtain ⟨_, hp0, _⟩ := en1.pot
  obtain ⟨ps, h1a⟩ := hp0.lst
  have hxl := hL xs hψ
  have enw : En T R H0 (pt a m ρw) (wipe σ (own.map (·.2))) H1 := en1.wipe _ (hwp m)
  have hDa : D ≠ a := fun z => by rw [z, h1a] at hD; cases hD
  have nA : ∀ pa o, an = some (pa, o) → pa ≠ D := fun pa o z e => by
    have h1 := hA pa o z
    rw [e, hD] at h1
    cases h1
  have hAx : ∀ H', Ex T (mi a H1) H' → AncOk an H' := fun H' x pa o z => x.ext pa o (by rw [mi_ne (hna pa o z)]; exact hA pa o z) (mut_ntbl (yl.nt pa o z))
  have hGx : ∀ H', Ex T (mi a H1) H' → G H' := fun H' x => yl.st _ _ (ez_dr h1a x) (hAx H' x) gG
  have hmD : (mi a H1) D = none := by rw [mi_ne hDa]; exact hD
  refine lc_it (g := g) (tt := ttDF T R a K ρ' m L) (te := teDF T R a K ρ' m L) (vs := own.map (·.2)) (σ := σ) (Qd := fun H => Q (.ref D) H) yl.wk
    (fun k H' => ∃ acc ys, H' D = some (.lst acc) ∧ DpAll K H' acc (encs ys) ∧ acc.length ≤ k ∧ ys.Sublist (xs.take k) ∧ Ex T (mi a H1) H' ∧ PotAt a (m + k) H')
    ⟨[], [], upd_same, by simp [encs]; exact .nil, Nat.zero_le _, by simp, (ex_mi h1a).trans (Ex.new hD), by
      obtain ⟨z, hz, e⟩ := hp0
      refine ⟨z, hz, ?_⟩
      rw [upd_ne (Ne.symm hDa)]
      exact e⟩
    (fun k H' _ ⟨_, _, _, _, _, _, x, _⟩ => hGx H' x) ?_ ?_
  · rintro k x H2 H3 hk ⟨acc, ys, a1, a2, a3, a4, a8, a9⟩ y
    have hk' : k < xs.length := by simpa using hk
    have hkL : k < L := by omega
    obtain ⟨x0, hx0⟩ : ∃ x0, xs[k]? = some x0 := ⟨_, List.getElem?_eq_getElem hk'⟩
    have hP : (xs.map (is K))[k]? = some (is K x0) := by rw [List.getElem?_map, hx0]; rfl
    obtain ⟨x2, p2⟩ := yl.ye k H2 x H3 (is K x0) (hGx H2 a8) y hP
    have en2 : En T R H0 (pt a (m + k) ρw) (wipe σ (own.map (·.2))) H2 := enw.drawn a8 a9
    have en3 := en2.step x2
    obtain ⟨g3s, hg3⟩ := a9.lst
    have h3a : H3 a = some (.lst g3s) := x2.ext a _ hg3 fun ps z => by cases z
    have htk : xs.take (k + 1) = xs.take k ++ [x0] := by rw [List.take_add_one, hx0]; rfl
    have x13 : Ex T (mi a H1) H3 := a8.trans x2
    have h3D : H3 D = some (.lst acc) := x2.ext D _ a1 fun ps z => by cases z
    refine (hg x0 _).run H0 _ H3 x _ en3 p2 fun σ' en4 hw' => ⟨hw' _ hj σ rfl, k, x0, hkL, H0, en4, fun kb H4 _ e4 x4 => ?_⟩
    obtain ⟨_, hp4, _⟩ := e4.pot
    obtain ⟨g4s, hg4⟩ := hp4.lst
    have x34 : Ex T (mi a H3) H4 := x4.trans (ex_mi hg4)
    have x14 : Ex T (mi a H1) H4 := (ex_mi2 x13 h3a).trans x34
    have h4D : H4 D = some (.lst acc) := x34.ext D _ (by rw [mi_ne hDa]; exact h3D) fun ps z => by cases z
    have ez24 : Ez H2 H4 := x2.ez.trans (ez_dr h3a x34)
    cases kb with
    | true =>
      refine iteT ⟨k, x0, hkL, ⟨H0, e4⟩, fun v H5 x5 p5 => ?_⟩
      have h5D : H5 D = some (.lst acc) := x5.ext D _ h4D fun ps z => by cases z
      have ez : Ez H5 (upd H5 D (.lst (acc ++ [v]))) := Ez.put h5D rfl
      refine ⟨acc, h5D, ?_, acc ++ [v], ys ++ [x0], upd_same, ?_, ?_, ?_, (x14.trans x5).put hmD h5D rfl, ?_⟩
      · have : sizeLine = 16777216 := sizeLine_eq
        omega
      · rw [encs_snoc]
        exact DpAll.app (dps_ez ((ez24.trans x5.ez).trans ez) _ _ (encs_pure _) a2) (.cons (dp_ez ez _ _ (Enc.pure _) p5) .nil)
      · rw [List.length_append, List.length_singleton]
        omega
      · rw [htk]
        exact a4.append (List.Sublist.refl _)
      · obtain ⟨z, hz, e⟩ := hp4
        exact ⟨z, hz, by rw [upd_ne (Ne.symm hDa)]; exact x5.ext a _ e fun ps z => by cases z⟩
    | false =>
      refine iteF ⟨acc, ys, h4D, dps_ez ez24 _ _ (encs_pure _) a2, by omega, ?_, x14, hp4⟩
      rw [htk]
      exact a4.trans (List.sublist_append_left _ _)
  · rintro H' ⟨acc, ys, a1, a2, a3, a4, a8, a9⟩
    rw [List.length_map] at a9 a4
    rw [List.take_length] at a4
    have a9 : PotAt a (m + L) H' := a9.mono (by omega)
    have X0 : Ex T (mi a H) H' := x1.trans a8
    obtain ⟨gs, hga⟩ := a9.lst
    have hDH : H D = none := by
      have := x1.bk D hmD
      rwa [mi_ne hDa] at this
    have hO : (exO (fun ys : List α => ∃ xs, ψ xs ∧ ys.Sublist xs) (lstO K)).p (.ref D) (fun b => b = D) H' := ⟨ys, ⟨xs, hψ, a4⟩, D, acc, rfl, rfl, a1, a2⟩
    have hO2 := (exO (fun ys : List α => ∃ xs, ψ xs ∧ ys.Sublist xs) (lstO K)).st _ _ _ _ (ez_mi hga) (fun b hb => mi_ne (by rw [show b = D from hb]; exact hDa)) hO
    exact q (.ref D) (fun b => b = D) H' (en.drawn X0 a9) (fun i => en.drawnN X0 a9 (fun b hb => by rw [show b = D from hb]; exact hDH) hO) (ex_mi2 X0 hga) (fun b hb => by rw [show b = D from hb]; exact hDH) hO2
/-- y = [x for x in iter if c] -/
theorem s_lcDF {elt iter c : Expr} {x y : Str} {xp py spos : Pos} {scope : Scope} {pos : Pos} {Eo : Po} (yi i : Nat) (own : List (Str × Nat)) (ρ' : α → List AV) (L : Nat) (ψ : List α → Prop)
    (hwp : ∀ n, wipeA (pt a n ρt) (own.map (·.2)) = pt a n ρw) (hw : PI X (.Name x xp) iter (cWD T R a ρt n m X.K ψ)) (hN : X.N.Nodup) (ok : BlkOk X.N X.env.scope scope own) (hL : ∀ xs, ψ xs → xs.length ≤ L) (hl : L ≤ 1000000)
    (hg : ∀ (y : α) n, (pt a n ρw).set i (.t (is X.K y)) = pt a n (ρ' y))
    (pg : ∀ s H C cl fp, PG (Blk X scope s H C cl fp) (.Name x xp) (gName i))
    (ht : ∀ s H C cl fp, ∀ k, k < L → ∀ y, BX T R (Blk X scope s H C cl fp) a (ρ' y) (m + k) (m + k + 1) True c)
    (he : ∀ s H C cl fp, ∀ k, k < L → ∀ y, Cf.E T R (Blk X scope s H C cl fp) (pt a (m + k + 1) (ρ' y)) elt (is X.K y).p)
    (kn : ∀ H0 σ H, En T R H0 ((pt a (m + L) ρt).set (yi + 1) (.o (exO (fun ys : List α => ∃ xs, ψ xs ∧ ys.Sublist xs) (lstO X.K)))) σ H → Eo.nx H0 σ H)
    (hj : ∀ j ∈ [i], j ∈ own.map (·.2) := by decide) (hy : X.N[yi + 1]? = some y := by rfl) (hyl : X.env.scope.names.lookup y = some .local := by rfl) (hsw : swapsWith (.ListComp elt [⟨.Name x xp, iter, [c], 0⟩] scope pos) (some (.Name y py)) spos.line X.env = pure true := by exact sw_true rfl rfl rfl (by decide +kernel))
    (hc : X.calm = true := by rfl) (hs : ∀ x, foldedSetIterable iter X.env x = pure x := by intro _; rfl) : S T R X (pt a n ρt) (.Assign [.Name y py] (.ListComp elt [⟨.Name x xp, iter, [c], 0⟩] scope pos) spos) Eo :=
  s_of (ps_setLc hc hN hy hyl hsw hw ok pg (fun s H C cl fp => pts_one (⟨fun pins s1 σ H1 Q I ⟨k, y, h1, h2⟩ => (ht s H C cl fp k h1 y).run pins s1 σ H1 Q I h2⟩ : PT _ c (ttDF T R a X.K ρ' m L))) (fun s H C cl fp => (⟨fun pins s1 σ H1 Q I ⟨k, y, h1, h2⟩ => (he s H C cl fp k h1 y).run pins s1 σ H1 Q I h2⟩ : PE _ elt (teDF T R a X.K ρ' m L))) hs) fun D σ H H0 en nn r bb cc =>
    lc_readDF (js := [i]) hwp hj hL hl (fun y n => by rw [← hg y n]; exact tg_name) σ H H0 _ en fun v S H' _ e2 _ _ _ => nn _ _ (kn _ _ _ (e2 yi))
end
end Cf
set_option maxHeartbeats 4000000
namespace Cf
open PySem PySem.Spec PyProof.Rows L2 PySem.W
section
variable {T : Tb} {R : Hp} {X : Cx} {ρ : List AV} {a : Addr} {ρt : List AV} {n m : Nat} {e1 e2 e : Expr} {pos p p1 p2 p3 p4 : Pos} {Eo : Po} {α : Type} [DecidableEq α] [Enc α]
/-- x, y = a new drawn thing, a new thing -/
theorem s_parDNN {O1 O2 : OP} {x y : Str} {px py pt' pt2 : Pos} {kt k2 : Nat} (i k : Nat) (hN : X.N.Nodup) (h1 : DN T R X a ρt n m e1 O1) (h2 : N T R X (pt a m ρt) e2 O2) (hik : i + 1 ≠ k) (kn : ∀ H0 σ H, En T R H0 (((pt a m ρt).set (i + 1) (.o O1)).set k (.o O2)) σ H → Eo.nx H0 σ H)
    (hi : X.N[i + 1]? = some x := by rfl) (hk : X.N[k]? = some y := by rfl) (hx : X.env.scope.names.lookup x = some .local := by rfl) (hy : X.env.scope.names.lookup y = some .local := by rfl)
    (hs1 : starEach [e1, e2] X.env = (false, eval e1 X.env) :: starEach [e2] X.env := by rfl) (hs2 : starEach [e2] X.env = (false, eval e2 X.env) :: starEach [] X.env := by rfl)
    (hw : swappedStores [.Tuple [.Name x px, .Name y py] kt pt'] (.Tuple [e1, e2] k2 pt2) X.env = pure (some [x, y]) := by rfl) (hc : X.calm = true := by rfl)
    (hs : swapsWithSole [.Tuple [.Name x px, .Name y py] kt pt'] (.Tuple [e1, e2] k2 pt2) pos.line X.env = pure false := by rfl) :
    S T R X (pt a n ρt) (.Assign [.Tuple [.Name x px, .Name y py] kt pt'] (.Tuple [e1, e2] k2 pt2) pos) Eo :=
  s_of (ps_par hc hN hi hk hik hx hy (pa_cons h1 (pa_cons h2 pa_nil hs2) hs1) hw hs) fun D σ H H0 en nn r bb cc =>
    ⟨H0, en, fun v S1 H1 g1 g2 x1 hS1 p1 => ⟨⟨H0, g1⟩, fun w S2 H2 hS2 x2 p2 => ⟨v, w, rfl, nn _ _ (kn _ _ _ ((g2 i).set_n (i := k) x2 hS2 p2))⟩⟩⟩
/-- x.append(a drawn thing) -/
theorem s_appendD {xs : List α} {ψ : α → Prop} {x : Str} (i : Nat) (hr : ρt[i]? = some (.o (lstO X.K xs))) (h : D T R X a ρt n m e (exT ψ (is X.K)).p) (hl : xs.length ≤ 1000000) (kn : ∀ z H0 σ H, ψ z → En T R H0 ((pt a m ρt).set (i + 1) (.o (lstO X.K (xs ++ [z])))) σ H → Eo.nx H0 σ H)
    (hN : X.N[i + 1]? = some x := by rfl) (hv : Vis X.env.scope x := by first | exact Or.inl rfl | exact Or.inr (Or.inl rfl) | exact Or.inr (Or.inr rfl)) (hd : (x == ("__debug__" : Str)) = false := by decide) (hcd : (x == ("__classdict__" : Str)) = false := by decide)
    (hbase : attributeBase (.Name x p1) "append" X.env (eval (.Name x p1) X.env) = eval (.Name x p1) X.env := by rfl)
    (hfew : ((backTo p3 (starEach [e] X.env)).all (fun x => !x.1) && (backToKw p3 (keywordEach [] X.env)).all (fun x => x.1.isSome) && decide (([e] : List Expr).length + ([] : List Keyword).length + (if ([] : List Keyword).isEmpty then 0 else 1) < 30)) = true := by rfl)
    (hline : (p2.endLine == p3.line) = true := by rfl) (hs : starEach [e] X.env = (false, eval e X.env) :: starEach [] X.env := by rfl) (hplain : (backTo p3 (starEach [] X.env)).any (·.1) = false := by rfl)
    (hsw : swapsWith (.Call (.Attribute (.Name x p1) "append" p2) [e] [] p3) none p4.line X.env = pure false := by rfl) : S T R X (pt a n ρt) (.Expr (.Call (.Attribute (.Name x p1) "append" p2) [e] [] p3) p4) Eo :=
  s_appendX (ζ := α) (φ := ψ) (ρ1 := fun _ => pt a m ρt) (xs0 := xs) (xs := fun _ => xs) (z := fun z => z) (i + 1) hr
    (xe_of h fun σ H H0 Q en q => ⟨H0, en, fun v H' e1 x1 ⟨z, hz, pz⟩ => q v H' ⟨z, hz, e1, (is X.K z).st _ _ _ ez_of_mi pz⟩⟩) (fun _ _ => hr) (fun _ _ => hl) kn hN hv hd hcd hbase hfew hline hs hplain hsw
end
end Cf
namespace Pg
open PySem PySem.Spec PyProof.Rows L2 Cf NdefX PySem.W
section
variable {T : Tb} {R : Hp} {X : Cx} {a : Addr} {ρt : List AV} {n m : Nat} {e tg : Expr} {pos p p1 p2 : Pos} {α : Type} [DecidableEq α] [Enc α]
/-- _law_of(pot, x), x a list of lists -/
theorem wd_sides {j : Nat} {l : Addr} {ls : List Addr} {yss : List (List α)} {x0 x : Str} (i : Nat) (c2 : Cal X.prog X.w X.K X.mg X.base 2 "_law_of" (spOf T X.K)) (hr : Room j X.A) (hj : 2 ≤ j) (hi : ρt[i]? = some (.o (sidesX X.K l ls yss))) (hlen : ls.length = yss.length) (h0 : 0 < yss.length) (h1 : yss.length < 1000) (hn : n + 1 ≤ PotB) (hg : Gl X "_law_of" := by rfl)
    (hN0 : X.N[0]? = some x0 := by rfl) (hv0 : Vis X.env.scope x0 := by first | exact Or.inl rfl | exact Or.inr (Or.inl rfl) | exact Or.inr (Or.inr rfl)) (hd0 : (x0 == ("__debug__" : Str)) = false := by decide) (hcd0 : (x0 == ("__classdict__" : Str)) = false := by decide)
    (hN : X.N[i + 1]? = some x := by rfl) (hv : Vis X.env.scope x := by first | exact Or.inl rfl | exact Or.inr (Or.inl rfl) | exact Or.inr (Or.inr rfl)) (hd : (x == ("__debug__" : Str)) = false := by decide) (hcd : (x == ("__classdict__" : Str)) = false := by decide)
    (hs : starEach [.Name x p2] X.env = (false, eval (.Name x p2) X.env) :: starEach [] X.env := by rfl) (he2 : starEach [.Name x0 p1, .Name x p2] X.env = (false, eval (.Name x0 p1) X.env) :: starEach [.Name x p2] X.env := by rfl) (hpl : (backTo pos (starEach [.Name x p2] X.env)).any (·.1) = false := by rfl) :
    PI X tg (.Call (.Name "_law_of" p) [.Name x0 p1, .Name x p2] [] pos) (cWD T R a ρt n (n + 1) X.K (· ∈ yss)) := by
  obtain ⟨RL, hRL⟩ : ∃ RL : RP, RL = ⟨fun v H => v = .ref l ∧ H l = some (.lst (ls.map V.ref)), fun v H H' e ⟨h1, h2⟩ => ⟨h1, e _ _ h2 fun ps z => by cases z⟩⟩ := ⟨_, rfl⟩
  obtain ⟨RI, hRI⟩ : ∃ RI : RP, RI = ⟨fun v _ => ∃ b ∈ ls, v = .ref b, fun v H H' e h => h⟩ := ⟨_, rfl⟩
  have sl : SeqLike X.K (RL, ls.length, RI) := by
    refine ⟨fun v H h => ?_, by show 0 < ls.length; omega, by show ls.length < 1000000; omega⟩
    subst hRL hRI
    obtain ⟨h1, h2⟩ := h
    refine ⟨l, ls.map V.ref, h1, SqL.of h2, by rw [List.length_map], fun u hu => ?_⟩
    obtain ⟨b, hb, e⟩ := List.mem_map.mp hu
    exact ⟨b, hb, e.symm⟩
  have ownA : ∀ {σ H H0 n}, En T R H0 (pt a n ρt) σ H → ∃ v, σ[i + 1]? = some (some v) ∧ v = .ref l ∧ l ≠ a ∧ H l = some (.lst (ls.map V.ref)) ∧ (∀ b ∈ ls, b ≠ a) ∧ EachIs (fun b ys => LstAt X.K H b ys) ls yss := fun {σ H H0 n} en => by
    obtain ⟨F, w⟩ := en.own
    obtain ⟨v0, _, z, _, _, g2, g3⟩ : ∃ v, σ[0]? = some (some v) ∧ (potO a n).p v (F 0) H := w.ok 0 _ rfl
    obtain ⟨v, h1, f1, f2, f3, f4, f5, f6⟩ : ∃ v, σ[i + 1]? = some (some v) ∧ (sidesX X.K l ls yss).p v (F (i + 1)) H := w.ok (i + 1) _ hi
    have off : ∀ b, F (i + 1) b → b ≠ a := fun b hb z => by
      have := w.one (i + 1) 0 a (z ▸ hb) (by rw [g2])
      omega
    exact ⟨v, h1, f1, off l (by rw [f2]; exact .inl rfl), f5, fun b hb => off b (by rw [f2]; exact .inr hb), f6⟩
  have arg : D T R X a ρt n n (.Name x p2) RL.p := d_of (pe_var hN hv hd hcd) fun σ H H0 Q en q => by
    obtain ⟨v, h1, h2, h3, h4, _, _⟩ := ownA en
    refine ⟨v, h1, q v H en (Ex.refl _) ?_⟩
    subst hRL
    exact ⟨h2, by rw [mi_ne h3]; exact h4⟩
  have hD : D T R X a ρt n (n + 1) (.Call (.Name "_law_of" p) [.Name x0 p1, .Name x p2] [] pos) RI.p :=
    d_call (cost := fun _ : RP × Nat × RP => 1) (Ps := fun z => [z.1]) (φ := fun z => SeqLike X.K z) (Pf := fun z _ => z.2.2.p) c2 hr hj (RL, ls.length, RI) sl hn (da_cons (P := RL) arg da_nil hs) (fun _ _ _ _ p => p) hg hN0 hv0 hd0 hcd0 (by decide) he2 hpl
  refine ⟨fun pins s σ H K I ⟨H0, en, q⟩ => (pi_list hD).run pins s σ H K I ⟨H0, en, fun v H' e1 x1 hv => ?_⟩⟩
  subst hRI
  obtain ⟨b, hb, hv⟩ := hv
  obtain ⟨v, _, _, _, _, hba, hE⟩ := ownA e1
  obtain ⟨ys, hys, vs, g1, g2⟩ := hE.left b hb
  exact ⟨b, hv, ⟨vs, SqL.of g1⟩, q (Itl X.K b) H' (some (b, .lst vs)) _ (YAt vs) ys hys e1 x1 (yl_lst (fun H _ an => SqL.of (an b _ rfl)) (fun p o z => by cases z; rfl) g2) ⟨Ez.refl H', fun p o z => by cases z; exact g1⟩ (fun p o z => by cases z; exact g1) (fun p o z => by cases z; exact hba b hb)⟩
/-- _law_of(pot, x), x a list of one's own -/
theorem d_ofL {j : Nat} {xs : List α} {x0 : Str} (i : Nat) (c2 : Cal X.prog X.w X.K X.mg X.base 2 "_law_of" (spOf T X.K)) (hr : Room j X.A) (hj : 2 ≤ j) (h : D T R X a ρt n m e (lstX X.K xs).p) (h0 : 0 < xs.length) (h1 : xs.length < 1000) (hn : m + 1 ≤ PotB) (hg : Gl X "_law_of" := by rfl)
    (hN0 : X.N[0]? = some x0 := by rfl) (hv0 : Vis X.env.scope x0 := by first | exact Or.inl rfl | exact Or.inr (Or.inl rfl) | exact Or.inr (Or.inr rfl)) (hd0 : (x0 == ("__debug__" : Str)) = false := by decide) (hcd0 : (x0 == ("__classdict__" : Str)) = false := by decide)
    (hs : starEach [e] X.env = (false, eval e X.env) :: starEach [] X.env := by rfl) (he2 : starEach [.Name x0 p1, e] X.env = (false, eval (.Name x0 p1) X.env) :: starEach [e] X.env := by rfl) (hpl : (backTo pos (starEach [e] X.env)).any (·.1) = false := by rfl) :
    D T R X a ρt n (m + 1) (.Call (.Name "_law_of" p) [.Name x0 p1, e] [] pos) (exT (· ∈ xs) (is X.K)).p := by
  have sl : SeqLike X.K (lstX X.K xs, xs.length, (exT (· ∈ xs) (is X.K)).r) := by
    refine ⟨fun v H ⟨l, vs, e1, e2, e3⟩ => ?_, h0, by show xs.length < 1000000; omega⟩
    refine ⟨l, vs, e1, SqL.of e2, by rw [DpAll.len e3]; simp [encs], fun u hu => ?_⟩
    obtain ⟨k, hk, hku⟩ := List.mem_iff_getElem.mp hu
    obtain ⟨d, f1, f2⟩ := DpAll.at e3 (show vs[k]? = some u by rw [List.getElem?_eq_getElem hk, hku])
    unfold encs at f1
    rw [List.getElem?_map] at f1
    cases q : xs[k]? with
    | none => rw [q] at f1; cases f1
    | some y =>
      rw [q] at f1
      cases f1
      exact ⟨y, List.mem_of_getElem? q, f2⟩
  exact d_call (cost := fun _ : RP × Nat × RP => 1) (Ps := fun z => [z.1]) (φ := fun z => SeqLike X.K z) (Pf := fun z _ => z.2.2.p) c2 hr hj (lstX X.K xs, xs.length, (exT (· ∈ xs) (is X.K)).r) sl hn (da_cons (P := lstX X.K xs) h da_nil hs) (fun _ _ _ _ p => p) hg hN0 hv0 hd0 hcd0 (by decide) he2 hpl
end
end Pg
set_option maxHeartbeats 4000000
namespace Pg
open PySem PySem.Spec PyProof.Rows L2 Cf NdefX PySem.W
/-- a drawn STEMMA -/
def Drawn (cs : List Nm) (st : List Lot) : Prop := ∃ ls, GrownOk cs ls ∧ st = toldOf cs ls
theorem GrownOk.sub {cs : List Nm} {ls ms : List Lot} (h : GrownOk cs ls) (s : ms.Sublist ls) : GrownOk cs ms :=
  ⟨fun l hl => h.fe l (s.subset hl), fun l hl m hm => h.lam l (s.subset hl) m (s.subset hm), Nat.le_trans s.length_le h.fl⟩
theorem GrownOk.told {cs : List Nm} {ls : List Lot} (h : GrownOk cs ls) (hl : cs.length ≤ 12) : ToldV cs ls :=
  ⟨hl, Nat.le_trans h.fl (by decide), fun lot hlot => by
    have e := (h.fe lot hlot).2
    have hs : ∀ c ∈ lot, c ∈ cs := fun c hc => by
      rw [e] at hc
      exact (mem_inSeq.mp hc).1
    have : lot.length ≤ cs.length := by
      rw [e]
      exact List.length_filter_le _ _
    exact ⟨by omega, hs⟩⟩
abbrev stemCost (cs : List Nm) : Nat := grownCost cs + 28
abbrev stemsCost (cs : List Nm) (many : Nat) : Nat := 2 * (1 + grownCost cs) + many * stemCost cs
structure DrawnS (cs : List Nm) (many : Nat) (ss : List (List Lot)) : Prop where
  len : ss.length = many
  ok : ∀ st ∈ ss, Drawn cs st
section
variable {P : Program} {w : World} {K : PySem.W.Frag} {mg : Str → Option Value} {base : Heap} {T : Tb}
/-! ### _law_stemmata -/
abbrev spStems (T : Tb) (K : PySem.W.Frag) : Sp := spD T (fun z : List Nm × Nat => stemsCost z.1 z.2) (fun z => [(is K z.1).r, (is K ((z.2 : Nat) : Int)).r]) (fun z => z.1.Nodup ∧ 2 ≤ z.1.length ∧ z.1.length ≤ 12 ∧ 0 < z.2 ∧ z.2 ≤ 100) fun z _ => (exT (DrawnS z.1 z.2) (is K)).p
theorem ok_stemmata (F : Fdef K mg "_law_stemmata" s_law_stemmata) (G : Bl mg) (c1 : Cal P w K mg base 1 "_law_take" (spTake T K)) (c2 : Cal P w K mg base 2 "_law_of" (spOf T K)) (c3 : Cal P w K mg base 3 "_law_grown" (spGrown T K)) (c4 : Cal P w K mg base 1 "_law_told" (spTold T K)) : Cal P w K mg base 4 "_law_stemmata" (spStems T K) := by
  refine cal_ofD F sc_law_stemmata (fun _ => rfl) (fun _ _ _ _ _ _ us hl => match us, hl with | [_, _, _], _ => rfl) (fun z n a f cdv A outer s H E hz hr hr2 => ?_)
  obtain ⟨cs, many⟩ := z
  obtain ⟨nd, hz2, hz3, hz4, hz5⟩ := hz
  have nd : cs.Nodup := nd
  have hz2 : 2 ≤ cs.length := hz2
  have hz3 : cs.length ≤ 12 := hz3
  have hz4 : 0 < many := hz4
  have hz5 : many ≤ 100 := hz5
  have hB : PotB = 16384 := rfl
  have hr : n + (2 * (1 + grownCost cs) + many * stemCost cs) ≤ PotB := hr
  show Ss T (mi a H) _ (pt a n [.r (is K cs).r, .r (is K ((many : Nat) : Int)).r, .u, .u, .u, .u, .u, .u]) _ _
  have hgr : ∀ m, m + grownCost cs ≤ PotB → m + grownCost cs ≤ PotB := fun m h => h
  refine ss_cons (ρ1 := pt a (n + 2 * (1 + grownCost cs)) [.r (is K cs).r, .r (is K ((many : Nat) : Int)).r, .o (sidesE K 2 (GrownOk cs)), .o (lstO K ([] : List (List Lot))), .u, .u, .u, .u])
    (s_parDNN (O1 := sidesE K 2 (GrownOk cs)) (O2 := lstO K ([] : List (List Lot))) 2 4 sc_law_stemmata.nd
      (dn_lcDN (xs := List.range 2) (gt := fun i => is K ((i : Nat) : Int)) (ρw := [.r (is K cs).r, .r (is K ((many : Nat) : Int)).r, .u, .u, .u, .u, .u, .u]) 7 [("lap", 7)] (fun i => [.r (is K cs).r, .r (is K ((many : Nat) : Int)).r, .u, .u, .u, .u, .t (is K ((i : Nat) : Int)), .u]) (1 + grownCost cs) (GrownOk cs)
        (fun _ => rfl) (w_range (n := 2) e_int (by decide) G.range) sc_law_stemmata.nd (blkOk_by (N := N_law_stemmata) (sc := defScope s_law_stemmata) (by decide +kernel)) (by decide) (fun _ _ _ => rfl) (fun _ _ _ _ _ => pg_name (i := 7) sc_law_stemmata.nd rfl (Or.inl rfl))
        (fun _ _ _ _ _ k hk y hy => by
          have hk : k < 2 := hk
          have hkc : k * (1 + grownCost cs) ≤ 1 * (1 + grownCost cs) := Nat.mul_le_mul_right _ (by omega)
          have e1 : n + k * (1 + grownCost cs) + (1 + grownCost cs) = n + k * (1 + grownCost cs) + 1 + grownCost cs := by omega
          rw [e1]
          exact dn_call (cost := fun cs : List Nm => grownCost cs) (Ps := fun cs => [seqR K cs, (between K 1 999).r]) (φ := fun cs => cs.Nodup ∧ 2 ≤ cs.length ∧ cs.length ≤ 14) (Pf := fun cs => nw (exO (GrownOk cs) (lstO K))) c3 hr2 (by omega) cs ⟨nd, hz2, by omega⟩ (by show _ + grownCost cs ≤ PotB; omega)
            (da_cons (P := seqR K cs) (d_imp (d_par (P := (is K cs).r) 0 rfl) fun v H p => seq_of_is p) (da_cons (P := (between K 1 999).r) (d_imp (d_ofL (xs := [1, 1, 2]) 0 c2 hr2 (by omega) (d_newL (n_lstA (xs := [1, 1, 2]) (Ps := [(is K 1).r, (is K 1).r, (is K 2).r]) (as_cons (P := (is K (1 : Int)).r) e_int (as_cons (P := (is K (1 : Int)).r) e_int (as_cons (P := (is K (2 : Int)).r) e_int as_nil))) (by decide) (fun vs H p => match vs, p with
              | [u, v, w], p => .cons p.1 (.cons p.2.1 (.cons p.2.2.1 .nil))))) (by decide) (by decide) (by omega)) fun v H ⟨i, hi, p⟩ => by
                have hi : i = 1 ∨ i = 2 := by simpa using hi
                rcases hi with e | e
                · exact ⟨1, by omega, is_int.mpr (by rw [is_int.mp p, e]; rfl)⟩
                · exact ⟨2, by omega, is_int.mpr (by rw [is_int.mp p, e]; rfl)⟩) da_nil)) fun _ _ _ p => p)) n_lst0 (by decide) fun _ _ _ en => en) ?_
  refine ss_openO 3 rfl fun q hq => ?_
  obtain ⟨l, ls, yss⟩ := q
  obtain ⟨hy1, hy2⟩ := hq
  have hy1 : yss.length = 2 := hy1
  have hy2 : ∀ ys ∈ yss, GrownOk cs ys := hy2
  show Ss T (mi a H) _ (pt a (n + 2 * (1 + grownCost cs)) [.r (is K cs).r, .r (is K ((many : Nat) : Int)).r, .o (sidesX K l ls yss), .o (lstO K ([] : List (List Lot))), .u, .u, .u, .u]) _ _
  refine ss_know (A := .o (sidesX K l ls yss)) (φ := ls.length = yss.length) 3 rfl (fun S s H h => by
    obtain ⟨v, _, _, _, _, _, _, g⟩ := h
    exact EachIs.len g) fun hlen => ?_
  refine ss_consE (ζ := List (List Lot)) (φ := fun found => DrawnS cs many found) (ρ1 := fun found => pt a (n + stemsCost cs many) [.r (is K cs).r, .r (is K ((many : Nat) : Int)).r, .o (sidesX K l ls yss), .o (lstO K found), .u, .u, .u, .u])
    (s_forE (ζ := List (List Lot)) (xs := List.range many) (gt := fun i => is K ((i : Nat) : Int)) (fun pre found => DrawnS cs pre.length found)
      (fun pre found => pt a (n + 2 * (1 + grownCost cs) + pre.length * stemCost cs) [.r (is K cs).r, .r (is K ((many : Nat) : Int)).r, .o (sidesX K l ls yss), .o (lstO K found), .u, .u, .u, .u])
      (fun pre found i => pt a (n + 2 * (1 + grownCost cs) + pre.length * stemCost cs) [.r (is K cs).r, .r (is K ((many : Nat) : Int)).r, .o (sidesX K l ls yss), .o (lstO K found), .t (is K ((i : Nat) : Int)), .u, .u, .u]) []
      (w_range (n := many) (e_par (P := (is K ((many : Nat) : Int)).r) 2 rfl) (by omega) G.range) (pg_name (i := 5) sc_law_stemmata.nd rfl (Or.inl rfl)) ⟨rfl, fun st hst => absurd hst List.not_mem_nil⟩ (by rw [List.length_nil, Nat.zero_mul, Nat.add_zero]; exact Wk.refl _) (js := [5]) (fun pre i post y _ _ => by exact tg_name (i := 5) (P := is K ((i : Nat) : Int))) (fun pre i post found e hf => ?_) (fun H0 σ H' y hy en => ?_)) fun found hf => ?_
  · have h4 := congrArg List.length e
    rw [List.length_range] at h4
    simp only [List.length_append, List.length_cons] at h4
    have hpre : (pre.length + 1) * stemCost cs ≤ many * stemCost cs := Nat.mul_le_mul_right _ (by omega)
    have e2 : n + 2 * (1 + grownCost cs) + (pre ++ [i]).length * stemCost cs = n + 2 * (1 + grownCost cs) + pre.length * stemCost cs + stemCost cs := by rw [List.length_append, List.length_singleton, Nat.add_mul, Nat.one_mul, ← Nat.add_assoc]
    rw [Nat.add_mul, Nat.one_mul] at hpre
    obtain ⟨N0, hN0⟩ : ∃ N0, N0 = n + 2 * (1 + grownCost cs) + pre.length * stemCost cs := ⟨_, rfl⟩
    obtain ⟨gc, hgc⟩ : ∃ gc, gc = grownCost cs := ⟨_, rfl⟩
    have hN1 : N0 + (gc + 28) ≤ PotB := by
      rw [hgc]
      have : stemCost cs = grownCost cs + 28 := rfl
      omega
    rw [e2]
    rw [← hN0]
    have hsc : stemCost cs = gc + 28 := by rw [hgc]
    have hfl := hf.len
    refine ss_cons (ρ1 := pt a (N0 + 25) [.r (is K cs).r, .r (is K ((many : Nat) : Int)).r, .o (sidesX K l ls yss), .o (lstO K found), .t (is K ((i : Nat) : Int)), .o (exO (GrownOk cs) (lstO K)), .u, .u])
      (s_lcDF (m := N0 + 1) (ρw := [.r (is K cs).r, .r (is K ((many : Nat) : Int)).r, .o (sidesX K l ls yss), .o (lstO K found), .t (is K ((i : Nat) : Int)), .u, .u, .u]) 5 8 [("lot", 8)] (fun y => [.r (is K cs).r, .r (is K ((many : Nat) : Int)).r, .o (sidesX K l ls yss), .o (lstO K found), .t (is K ((i : Nat) : Int)), .u, .u, .t (is K y)]) 24 (· ∈ yss)
        (fun _ => rfl) (wd_sides 2 c2 hr2 (by omega) rfl hlen (by omega) (by omega) (by omega)) sc_law_stemmata.nd (blkOk_by (N := N_law_stemmata) (sc := defScope s_law_stemmata) (by decide +kernel)) (fun xs hx => (hy2 xs hx).fl) (by decide) (fun _ _ => rfl) (fun _ _ _ _ _ => pg_name (i := 8) sc_law_stemmata.nd rfl (Or.inl rfl))
        (fun _ _ _ _ _ k hk y => by exact bx_gt (u := 4) (y := 0) (d_take (u := 4) (m := N0 + 1 + k) c1 hr2 (by omega) (by decide) (by decide) (by omega) (d_t (P := is K ((4 : Nat) : Int)) e_int)) fun _ => e_int) (fun _ _ _ _ _ k hk y => by exact e_var (P := is K y) 8 rfl)
        fun H0 σ H' en => en.less (i := 6) (A := .o (exO (fun ys : List Lot => ∃ xs, xs ∈ yss ∧ ys.Sublist xs) (lstO K))) (A' := .o (exO (GrownOk cs) (lstO K))) rfl fun S s ⟨v, q1, ys, ⟨xs, hx, hs⟩, q2⟩ => ⟨v, q1, ys, (hy2 xs hx).sub hs, q2⟩) ?_
    refine ss_cons (ρ1 := pt a (N0 + 26 + gc) [.r (is K cs).r, .r (is K ((many : Nat) : Int)).r, .o (sidesX K l ls yss), .o (lstO K found), .t (is K ((i : Nat) : Int)), .o (exO (GrownOk cs) (lstO K)), .u, .u])
      (s_ifX (m := N0 + 26) (bx_eq (u := 3) (y := 0) hr2 (d_take (u := 3) (m := N0 + 25) c1 hr2 (by omega) (by decide) (by decide) (by omega) (d_t (P := is K ((3 : Nat) : Int)) e_int)) fun _ => e_int)
        (ss_one (s_setDN (O := exO (GrownOk cs) (lstO K)) (m := N0 + 26 + gc) 5 sc_law_stemmata.nd (by
          rw [hgc]
          exact dn_call (cost := fun cs : List Nm => grownCost cs) (Ps := fun cs => [seqR K cs, (between K 1 999).r]) (φ := fun cs => cs.Nodup ∧ 2 ≤ cs.length ∧ cs.length ≤ 14) (Pf := fun cs => nw (exO (GrownOk cs) (lstO K))) c3 hr2 (by omega) cs ⟨nd, hz2, by omega⟩ (by show _ + grownCost cs ≤ PotB; omega)
            (da_cons (P := seqR K cs) (d_imp (d_par (P := (is K cs).r) 0 rfl) fun v H p => seq_of_is p) (da_cons (P := (between K 1 999).r) (d_imp (d_t (P := is K (1 : Int)) e_int) fun v H p => ⟨1, by omega, p⟩) da_nil)) fun _ _ _ p => p) fun _ _ _ en => en))
        (ss_nil fun H0 σ H' en => en.more (by omega))) ?_
    refine ss_openO 6 rfl fun lots hlots => ?_
    show Ss T (mi a H) _ (pt a (N0 + 26 + gc) [.r (is K cs).r, .r (is K ((many : Nat) : Int)).r, .o (sidesX K l ls yss), .o (lstO K found), .t (is K ((i : Nat) : Int)), .o (lstO K lots), .u, .u]) _ _
    refine ss_one (s_appendD (ψ := Drawn cs) (m := N0 + 26 + gc + 2) 3 rfl (d_ifX (φ := 0 < found.length) (m1 := N0 + 26 + gc + 1)
      (bx_and (k := !eqb found []) (b_cm (c_neL hr2 (by decide) (e_ownL 4 rfl) (e_newL n_lst0))) (fun hk => by
        cases found with
        | nil => cases hk
        | cons => exact Nat.succ_pos _) (by omega) (bx_eq (u := 5) (y := 0) hr2 (d_take (u := 5) (m := N0 + 26 + gc) c1 hr2 (by omega) (by decide) (by decide) (by omega) (d_t (P := is K ((5 : Nat) : Int)) e_int)) fun _ => e_int))
      (fun h0 => d_imp (d_ofL (m := N0 + 26 + gc + 1) (xs := found) 3 c2 hr2 (by omega) (d_own 3 rfl) h0 (by omega) (by omega)) fun v H ⟨st, hst, p⟩ => ⟨st, hf.ok st hst, p⟩)
      (d_more (m1 := N0 + 26 + gc + 1) (d_imp (d_t (P := is K (toldOf cs lots)) (e_call c4 hr2 (by omega) (cs, lots) (hlots.told hz3) (as_cons (P := (is K cs).r) (e_par 1 rfl) (as_one (P := seqR K lots) (e_seqL (e_ownL 6 rfl)) rfl)) fun _ _ _ _ _ p => p)) fun v H p => ⟨_, ⟨lots, hlots, rfl⟩, p⟩) (by omega))) (by omega) fun st H0 σ H' hst en => ⟨found ++ [st], ⟨by rw [List.length_append, List.length_append, hfl]; rfl, fun s hs => ?_⟩, ?_⟩)
    · rcases List.mem_append.mp hs with z | z
      · exact hf.ok s z
      · rw [List.mem_singleton.mp z]
        exact hst
    · have en1 := en.less (i := 0) (A := .o (potO a (N0 + 26 + gc + 2))) (A' := .o (potO a (N0 + stemCost cs))) rfl fun S s q => potO_more (by omega) S s q
      exact en1.weak (.same (.same (.same (.same (.same (.drop (.drop (.same (.same .nil)))))))))
  · have hl : (List.range many).length = many := List.length_range
    rw [hl] at hy en
    refine ⟨y, hy, ?_⟩
    have e5 : n + 2 * (1 + grownCost cs) + many * stemCost cs = n + stemsCost cs many := by rw [Nat.add_assoc]
    rw [e5] at en
    exact en
  · refine ss_one (s_retD (m := n + stemsCost cs many) (P := (exT (DrawnS cs many) (is K)).p) (d_imp (d_t (P := is K found) (e_tupleOf (e_seqL (e_ownL 4 rfl)) G.tuple)) fun v H p => ⟨found, hf, p⟩) fun v H' hp x p => ⟨hp, p⟩)
end
end Pg
set_option maxHeartbeats 4000000
namespace Cf
open PySem PySem.Spec PyProof.Rows L2 PySem.W
section
variable {T : Tb} {R : Hp} {X : Cx} {ρ : List AV} {a b c d e : Expr} {pos p : Pos} {α : Type} [DecidableEq α] [Enc α]
theorem e_tup4L {x y z w : α} {kk : Nat} (h : E T R X ρ a (is X.K x).p) (h' : E T R X ρ b (is X.K y).p) (h'' : E T R X ρ c (is X.K z).p) (h3 : E T R X ρ d (is X.K w).p) (hs : starEach [a, b, c, d] X.env = (false, eval a X.env) :: starEach [b, c, d] X.env := by rfl) (hs1 : starEach [b, c, d] X.env = (false, eval b X.env) :: starEach [c, d] X.env := by rfl) (hs2 : starEach [c, d] X.env = (false, eval c X.env) :: starEach [d] X.env := by rfl) (hs3 : starEach [d] X.env = (false, eval d X.env) :: starEach [] X.env := by rfl) :
    E T R X ρ (.Tuple [a, b, c, d] kk pos) (is X.K [x, y, z, w]).p :=
  e_tup (ds := [enc x, enc y, enc z, enc w]) (as_cons (P := (is X.K x).r) h (as_cons (P := (is X.K y).r) h' (as_cons (P := (is X.K z).r) h'' (as_cons (P := (is X.K w).r) h3 as_nil hs3) hs2) hs1) hs) (by simp) (fun vs H p => match vs, p with
    | [v, w, u, t], p => .cons p.1 (.cons p.2.1 (.cons p.2.2.1 (.cons p.2.2.2.1 .nil)))) (encs_pure [x, y, z, w])
end
end Cf
namespace Pg
open PySem PySem.Spec PyProof.Rows L2 Cf NdefX PySem.W
/-- what common_middles takes -/
structure CmmV (cs : List Nm) (ss : List (List Lot)) : Prop where
  mid : MidV cs ss
  two : 2 ≤ cs.length
  cm : CmV 12 cs ss
  ok : LotsOk cs (commonL 12 cs ss)
structure AgainV (cs : List Nm) (ss : List (List Lot)) : Prop where
  cm : CmmV cs ss
  m0 : MidV cs (ss ++ [strictOf cs ss])
  e0 : strictOf cs (ss ++ [strictOf cs ss]) = strictOf cs ss
  m1 : MidV cs (ss ++ [majorOf cs ss])
  e1 : majorOf cs (ss ++ [majorOf cs ss]) = majorOf cs ss
  m2 : MidV cs (ss ++ [mildOf cs ss])
  e2 : mildOf cs (ss ++ [mildOf cs ss]) = mildOf cs ss
  m3 : CmmV cs (ss ++ [commonOf cs ss])
  e3 : commonOf cs (ss ++ [commonOf cs ss]) = commonOf cs ss
  sub : ∀ st ∈ [strictOf cs ss, majorOf cs ss, mildOf cs ss, commonOf cs ss] ++ ss, ∀ lot ∈ strictOf cs ss, lot ∈ st
  bo : (StemV cs (majorOf cs ss) ∧ StemV cs (mildOf cs ss)) ∧ ((majorOf cs ss).length ≤ 100 ∧ (mildOf cs ss).length ≤ 100) ∧ ∀ a ∈ majorOf cs ss, ∀ b ∈ mildOf cs ss, clash a b = false
  jo : ∀ lot ∈ majorOf cs ss ++ mildOf cs ss, lot ∈ joinOf cs (majorOf cs ss) (mildOf cs ss)
  fs : (strictOf cs ss).length ≤ 100
section
variable {P : Program} {w : World} {K : PySem.W.Frag} {mg : Str → Option Value} {base : Heap} {T : Tb} {C : Addr}
/-! ### _law_are_again_right -/
abbrev spAgain (T : Tb) (K : PySem.W.Frag) (C : Addr) : Sp := spF T (fun z : List Nm × List (List Lot) => [(shP K C z.1).r, (is K z.2).r]) (fun z => AgainV z.1 z.2) fun z _ => (is K true).p
theorem ok_again (F : Fdef K mg "_law_are_again_right" s_law_are_again_right) (G : Bl mg) (c1 : Cal P w K mg base 11 "strict" (spStrict T K C)) (c2 : Cal P w K mg base 11 "majority" (spMajor T K C)) (c3 : Cal P w K mg base 11 "mild" (spMild T K C)) (c4 : Cal P w K mg base 22 "common_middles" (spCommon T K C)) (c5 : Cal P w K mg base 11 "both" (spBoth T K C)) :
    Cal P w K mg base 23 "_law_are_again_right" (spAgain T K C) := by
  refine cal_of F sc_law_are_again_right (fun _ => rfl) (fun _ _ _ _ _ _ us hl => match us, hl with | [_, _], _ => rfl) (fun z f cdv A outer s H E hz hr => ?_)
  obtain ⟨cs, ss⟩ := z
  have hz : AgainV cs ss := hz
  obtain ⟨hcm, m0, e0, m1, e1, m2, e2, m3, e3, sub, bo, jo, fs⟩ := hz
  obtain ⟨st, hst⟩ : ∃ st, st = strictOf cs ss := ⟨_, rfl⟩
  obtain ⟨mj, hmj⟩ : ∃ mj, mj = majorOf cs ss := ⟨_, rfl⟩
  obtain ⟨ml, hml⟩ : ∃ ml, ml = mildOf cs ss := ⟨_, rfl⟩
  obtain ⟨cm, hcm'⟩ : ∃ cm, cm = commonOf cs ss := ⟨_, rfl⟩
  rw [← hst, ← hmj, ← hml, ← hcm'] at sub
  rw [← hst] at m0 e0 fs
  rw [← hmj] at m1 e1 bo jo
  rw [← hml] at m2 e2 bo jo
  rw [← hcm'] at m3 e3
  have hfew := hcm.mid.st.few
  have few := hcm.mid.few
  show Ss T H _ [.r (shP K C cs).r, .r (is K ss).r, .u, .u, .u, .u, .u] _ _
  have call : ∀ {X : Cx} {ρ : List AV} {j : Nat} {e1 e2 : Expr}, X.prog = P → X.prog = P := fun h => h
  refine ss_cons (ρ1 := [.r (shP K C cs).r, .r (is K ss).r, .t (is K [st, mj, ml, cm]), .u, .u, .u, .u]) (s_set (P := is K [st, mj, ml, cm]) 2 sc_law_are_again_right.nd (e_tup4L
    (e_call c1 hr (by omega) (cs, ss) hcm.mid (as_cons (e_par (P := (shP K C cs).r) 0 rfl) (as_cons (e_par (P := (is K ss).r) 1 rfl) as_nil)) fun _ _ _ _ _ p => by rw [hst]; exact p)
    (e_call c2 hr (by omega) (cs, ss) hcm.mid (as_cons (e_par (P := (shP K C cs).r) 0 rfl) (as_cons (e_par (P := (is K ss).r) 1 rfl) as_nil)) fun _ _ _ _ _ p => by rw [hmj]; exact p)
    (e_call c3 hr (by omega) (cs, ss) hcm.mid (as_cons (e_par (P := (shP K C cs).r) 0 rfl) (as_cons (e_par (P := (is K ss).r) 1 rfl) as_nil)) fun _ _ _ _ _ p => by rw [hml]; exact p)
    (e_call c4 hr (by omega) (cs, ss) ⟨hcm.mid, hcm.two, hcm.cm, hcm.ok⟩ (as_cons (e_par (P := (shP K C cs).r) 0 rfl) (as_cons (e_par (P := (is K ss).r) 1 rfl) as_nil)) fun _ _ _ _ _ p => by rw [hcm']; exact p)) fun _ _ _ en => en) ?_
  refine ss_cons (ρ1 := [.r (shP K C cs).r, .r (is K ss).r, .t (is K [st, mj, ml, cm]), .u, .u, .u, .u]) (s_if (k := false) (b_w (bw_or (k := false) (l := false)
      (b_eq (b_cm (c_ne (x := st) (y := st) hr (by decide) (e_call c1 hr (by omega) (cs, ss ++ [st]) m0 (as_cons (e_par (P := (shP K C cs).r) 0 rfl) (as_cons (P := (is K (ss ++ [st])).r) (e_catT (e_par (P := (is K ss).r) 1 rfl) (e_tup1 (e_ixT (i := 0) (y := st) (e_var (P := is K [st, mj, ml, cm]) 2 rfl) e_int rfl)) (by simp only [List.length_cons, List.length_nil]; omega)) as_nil)) fun _ _ _ _ _ p => by rw [e0] at p; exact p) (e_ixT (i := 0) (y := st) (e_var (P := is K [st, mj, ml, cm]) 2 rfl) e_int rfl))) (by simp [eqb]))
      fun _ => bw_or1 (b_eq (b_cm (c_ne (x := mj) (y := mj) hr (by decide) (e_call c2 hr (by omega) (cs, ss ++ [mj]) m1 (as_cons (e_par (P := (shP K C cs).r) 0 rfl) (as_cons (P := (is K (ss ++ [mj])).r) (e_catT (e_par (P := (is K ss).r) 1 rfl) (e_tup1 (e_ixT (i := 1) (y := mj) (e_var (P := is K [st, mj, ml, cm]) 2 rfl) e_int rfl)) (by simp only [List.length_cons, List.length_nil]; omega)) as_nil)) fun _ _ _ _ _ p => by rw [e1] at p; exact p) (e_ixT (i := 1) (y := mj) (e_var (P := is K [st, mj, ml, cm]) 2 rfl) e_int rfl))) (by simp [eqb]))))
    (fun h => by cases h) fun _ => ss_nil fun _ _ _ en => en) ?_
  refine ss_cons (ρ1 := [.r (shP K C cs).r, .r (is K ss).r, .t (is K [st, mj, ml, cm]), .u, .u, .u, .u]) (s_if (k := false) (b_w (bw_or (k := false) (l := false)
      (b_eq (b_cm (c_ne (x := ml) (y := ml) hr (by decide) (e_call c3 hr (by omega) (cs, ss ++ [ml]) m2 (as_cons (e_par (P := (shP K C cs).r) 0 rfl) (as_cons (P := (is K (ss ++ [ml])).r) (e_catT (e_par (P := (is K ss).r) 1 rfl) (e_tup1 (e_ixT (i := 2) (y := ml) (e_var (P := is K [st, mj, ml, cm]) 2 rfl) e_int rfl)) (by simp only [List.length_cons, List.length_nil]; omega)) as_nil)) fun _ _ _ _ _ p => by rw [e2] at p; exact p) (e_ixT (i := 2) (y := ml) (e_var (P := is K [st, mj, ml, cm]) 2 rfl) e_int rfl))) (by simp [eqb]))
      fun _ => bw_or1 (b_eq (b_cm (c_ne (x := cm) (y := cm) hr (by decide) (e_call c4 hr (by omega) (cs, ss ++ [cm]) ⟨m3.mid, m3.two, m3.cm, m3.ok⟩ (as_cons (e_par (P := (shP K C cs).r) 0 rfl) (as_cons (P := (is K (ss ++ [cm])).r) (e_catT (e_par (P := (is K ss).r) 1 rfl) (e_tup1 (e_ixT (i := 3) (y := cm) (e_var (P := is K [st, mj, ml, cm]) 2 rfl) e_int rfl)) (by simp only [List.length_cons, List.length_nil]; omega)) as_nil)) fun _ _ _ _ _ p => by rw [e3] at p; exact p) (e_ixT (i := 3) (y := cm) (e_var (P := is K [st, mj, ml, cm]) 2 rfl) e_int rfl))) (by simp [eqb]))))
    (fun h => by cases h) fun _ => ss_nil fun _ _ _ en => en) ?_
  refine ss_cons (ρ1 := [.r (shP K C cs).r, .r (is K ss).r, .t (is K [st, mj, ml, cm]), .u, .u, .u, .u]) (s_if (k := false) (b_eq (b_not (b_val (k := true) (e_cast (f := fun b : Bool => (is K b).p)
      (e_all (bs := ([st, mj, ml, cm] ++ ss).map fun _ => true) (e_newL (n_lcM (gt := is K) 5 [("stemma", 5)] (fun _ => true) (w_tup (e_catT (e_var (P := is K [st, mj, ml, cm]) 2 rfl) (e_par (P := (is K ss).r) 1 rfl) (by simp only [List.length_cons, List.length_nil]; omega))) sc_law_are_again_right.nd (blkOk_by (N := N_law_are_again_right) (sc := defScope s_law_are_again_right) (by decide +kernel)) (by simp only [List.length_append, List.length_cons, List.length_nil]; omega)
        (fun _ _ _ _ _ => pg_name (i := 5) sc_law_are_again_right.nd rfl (by first | exact Or.inl rfl | exact Or.inr rfl)) (fun _ _ _ _ _ sm hsm => ?_))) G.all) (by simp)))) rfl) (fun h => by cases h) fun _ => ss_nil fun _ _ _ en => en) ?_
  · refine e_cast (f := fun b : Bool => (is K b).p) (e_all (bs := st.map fun lot => memb lot sm) (e_newL (n_lcM (gt := is K) 6 [("lot", 6)] (fun lot => memb lot sm) (w_tup (e_ixT (i := 0) (y := st) (e_var (P := is K [st, mj, ml, cm]) 2 rfl) e_int rfl)) sc_law_are_again_right.nd ?_ (by omega)
      (fun _ _ _ _ _ => pg_name (i := 6) sc_law_are_again_right.nd rfl (by first | exact Or.inl rfl | exact Or.inr rfl)) (fun _ _ _ _ _ lot hlot => ?_))) G.all) ?_
    · exact blkOk_by rfl
    · exact e_cm (c_in hr (by decide) (e_var (P := is K lot) 6 rfl) (e_seq (e_var (P := is K sm) 5 rfl)))
    · rw [List.all_map]
      exact List.all_eq_true.mpr fun lot hlot => memb_iff.mpr (sub sm hsm lot hlot)
  refine ss_cons (ρ1 := [.r (shP K C cs).r, .r (is K ss).r, .t (is K [st, mj, ml, cm]), .t (is K nmStemma), .t (is K (joinOf cs mj ml)), .u, .u]) (s_unp2 (q := (nmStemma, joinOf cs mj ml)) 3 4 sc_law_are_again_right.nd
    (e_call c5 hr (by omega) (cs, mj, ml) bo (as_cons (e_par (P := (shP K C cs).r) 0 rfl) (as_cons (P := (is K mj).r) (e_ixT (i := 1) (y := mj) (e_var (P := is K [st, mj, ml, cm]) 2 rfl) e_int rfl) (as_cons (P := (is K ml).r) (e_ixT (i := 2) (y := ml) (e_var (P := is K [st, mj, ml, cm]) 2 rfl) e_int rfl) as_nil))) fun _ _ _ _ _ p => p) fun _ _ _ en => en) ?_
  have hj1 := bo.2.1.1
  have hj2 := bo.2.1.2
  refine ss_one (s_ret (e_cast (f := fun b : Bool => (is K b).p) (e_and (k := true) (l := true) (e_cast (f := fun b : Bool => (is K b).p) (e_cm (c_eq (x := nmStemma) (y := nmStemma) hr (by decide) (e_var (P := is K nmStemma) 3 rfl) (e_nm nmStemma))) (by simp [eqb]))
    fun _ => e_and1 (e_cast (f := fun b : Bool => (is K b).p) (e_all (bs := (mj ++ ml).map fun lot => memb lot (joinOf cs mj ml)) (e_newL (n_lcM (gt := is K) 6 [("lot", 6)] (fun lot => memb lot (joinOf cs mj ml)) (w_tup (e_catT (e_ixT (i := 1) (y := mj) (e_var (P := is K [st, mj, ml, cm]) 2 rfl) e_int rfl) (e_ixT (i := 2) (y := ml) (e_var (P := is K [st, mj, ml, cm]) 2 rfl) e_int rfl) (by omega))) sc_law_are_again_right.nd (blkOk_by (N := N_law_are_again_right) (sc := defScope s_law_are_again_right) (by decide +kernel)) (by rw [List.length_append]; omega)
      (fun _ _ _ _ _ => pg_name (i := 6) sc_law_are_again_right.nd rfl (by first | exact Or.inl rfl | exact Or.inr rfl)) (fun _ _ _ _ _ lot hlot => by exact e_cm (c_in hr (by decide) (e_var (P := is K lot) 6 rfl) (e_seq (e_var (P := is K (joinOf cs mj ml)) 4 rfl)))))) G.all) ?_)) rfl) fun v H _ p => p)
  rw [List.all_map]
  exact List.all_eq_true.mpr fun lot hlot => memb_iff.mpr (jo lot hlot)
end
end Pg
set_option maxHeartbeats 4000000
namespace Pg
open PySem PySem.Spec PyProof.Rows L2 Cf NdefX PySem.W
structure StrV (cs : List Nm) (ss : List (List Lot)) (low : List Lot) : Prop where
  few : ss.length ≤ 1000
  n50 : cs.length ≤ 50
  lw : StemV cs low
  l100 : low.length ≤ 100
  each : ∀ st ∈ ss, StemV cs st ∧ st.length ≤ 100 ∧ ((farOf low st : Nat) : Int) = ((st.length : Nat) : Int) - ((low.length : Nat) : Int) ∧ meetOf cs low st = low ∧ (∀ s ∈ shownBy cs low, s ∈ shownBy cs st) ∧ (∀ a ∈ low, ∀ b ∈ st, clash a b = false) ∧ joinOf cs low st = st
structure SumV (cs : List Nm) (ss : List (List Lot)) : Prop where
  cm : CmmV cs ss
  maj : MidV cs (ss ++ [majorOf cs ss])
  eqm : leastSum cs (ss ++ [majorOf cs ss]) = leastSum cs ss
  st : StemV cs (strictOf cs ss)
  ml : StemV cs (mildOf cs ss)
  co : StemV cs (commonOf cs ss)
  mj : StemV cs (majorOf cs ss)
  low : ∀ one ∈ [strictOf cs ss, mildOf cs ss, commonOf cs ss] ++ ss, leastSum cs ss ≤ (ss.map fun o => ((farOf one o : Nat) : Int)).sum
  just : (ss.map fun o => ((farOf (majorOf cs ss) o : Nat) : Int)).sum = leastSum cs ss
section
variable {P : Program} {w : World} {K : PySem.W.Frag} {mg : Str → Option Value} {base : Heap} {T : Tb} {C : Addr}
theorem _root_.Cf.Cal.alias {k : Nat} {x y : Str} {sp : Sp} (c : Cal P w K mg base k x sp) (h : mg y = mg x) : Cal P w K mg base k y sp := by
  obtain ⟨f, fd, ps, h1, h2, h3⟩ := c.ex
  exact ⟨f, fd, ps, h1, h.trans h2, h3⟩
/-! ### _law_is_strict_right -/
abbrev spStrR (T : Tb) (K : PySem.W.Frag) (C : Addr) : Sp := spF T (fun z : List Nm × List (List Lot) × List Lot => [(shP K C z.1).r, (is K z.2.1).r, (is K z.2.2).r]) (fun z => StrV z.1 z.2.1 z.2.2) fun z _ => (is K true).p
theorem ok_strR (F : Fdef K mg "_law_is_strict_right" s_law_is_strict_right) (G : Bl mg) (c1 : Cal P w K mg base 11 "far" (spFar T K C)) (c2 : Cal P w K mg base 11 "common_agreed" (spMeet T K C)) (c3 : Cal P w K mg base 10 "shown" (spShown T K C)) (c4 : Cal P w K mg base 11 "both" (spBoth T K C)) :
    Cal P w K mg base 12 "_law_is_strict_right" (spStrR T K C) := by
  refine cal_of F sc_law_is_strict_right (fun _ => rfl) (fun _ _ _ _ _ _ us hl => match us, hl with | [_, _, _], _ => rfl) (fun z f cdv A outer s H E hz hr => ?_)
  obtain ⟨cs, ss, low⟩ := z
  have hz : StrV cs ss low := hz
  obtain ⟨few, n50, lw, l100, each⟩ := hz
  show Ss T H _ [.r (shP K C cs).r, .r (is K ss).r, .r (is K low).r, .u, .u, .u] _ _
  refine ss_cons (ρ1 := [.r (shP K C cs).r, .r (is K ss).r, .r (is K low).r, .u, .u, .u]) (s_for (xs := ss) (gt := is K) (fun _ => [.r (shP K C cs).r, .r (is K ss).r, .r (is K low).r, .u, .u, .u]) (fun _ st => [.r (shP K C cs).r, .r (is K ss).r, .r (is K low).r, .t (is K st), .u, .u])
    (w_tup (e_par (P := (is K ss).r) 1 rfl)) (pg_name (i := 3) sc_law_is_strict_right.nd rfl (by first | exact Or.inl rfl | exact Or.inr rfl)) (Wk.refl _) (js := [3]) (fun pre st post _ => by exact tg_name (i := 3) (P := is K st)) (fun pre st post e => ?_) fun _ _ _ en => en) (ss_one (s_ret e_bl fun v H _ p => p))
  have hm : st ∈ ss := by rw [e]; simp
  obtain ⟨sv, s100, q1, q2, q3, q4, q5⟩ := each st hm
  refine ss_cons (ρ1 := [.r (shP K C cs).r, .r (is K ss).r, .r (is K low).r, .t (is K st), .u, .u]) (s_if (k := false) (b_w (bw_or (k := false) (l := false)
      (b_eq (b_cm (c_ne (x := ((farOf low st : Nat) : Int)) (y := ((st.length : Nat) : Int) - ((low.length : Nat) : Int)) hr (by decide) (e_call c1 hr (by omega) (cs, low, st) ⟨lw, sv⟩ (as_cons (e_par (P := (shP K C cs).r) 0 rfl) (as_cons (e_par (P := (is K low).r) 2 rfl) (as_cons (P := (is K st).r) (e_var (P := is K st) 3 rfl) as_nil))) fun _ _ _ _ _ p => p)
        (e_sub (e_len (e_seq (e_var (P := is K st) 3 rfl)) G.len) (e_len (e_seq (e_par (P := (is K low).r) 2 rfl)) G.len)))) (by rw [q1]; simp [eqb]))
      fun _ => bw_or1 (b_eq (b_cm (c_ne (x := low) (y := low) hr (by decide) (e_call c2 hr (by omega) (cs, low, st) ⟨lw, sv⟩ (as_cons (e_par (P := (shP K C cs).r) 0 rfl) (as_cons (e_par (P := (is K low).r) 2 rfl) (as_cons (P := (is K st).r) (e_var (P := is K st) 3 rfl) as_nil))) fun _ _ _ _ _ p => by
        have p : (is K (meetOf cs low st)).p _ _ := p
        rw [q2] at p
        exact p) (e_par (P := (is K low).r) 2 rfl))) (by simp [eqb]))))
    (fun h => by cases h) fun _ => ss_nil fun _ _ _ en => en) ?_
  refine ss_cons (ρ1 := [.r (shP K C cs).r, .r (is K ss).r, .r (is K low).r, .t (is K st), .t (is K (shownBy cs st)), .u]) (s_set (P := is K (shownBy cs st)) 4 sc_law_is_strict_right.nd (e_call c3 hr (by omega) (cs, st) ⟨sv, n50⟩ (as_cons (e_par (P := (shP K C cs).r) 0 rfl) (as_cons (P := (is K st).r) (e_var (P := is K st) 3 rfl) as_nil)) fun _ _ _ _ _ p => p) (fun _ _ _ en => en) rfl (by first | exact Or.inl rfl | exact Or.inr rfl)) ?_
  have hsl : (shownBy cs low).length ≤ 1000000 := by
    have h1 := sayings_len n50
    have h2 := List.length_filter_le (shows low) (sayings cs)
    unfold shownBy
    omega
  refine ss_one (s_if (k := false) (b_w (bw_or (k := false) (l := false) (b_eq (b_not (b_val (k := true) (e_cast (f := fun b : Bool => (is K b).p)
      (e_all (bs := (shownBy cs low).map fun s => memb s (shownBy cs st)) (e_newL (n_lcM (gt := is K) 5 [("saying", 5)] (fun s => memb s (shownBy cs st)) (w_tup (e_call c3 hr (by omega) (cs, low) ⟨lw, n50⟩ (as_cons (e_par (P := (shP K C cs).r) 0 rfl) (as_cons (P := (is K low).r) (e_par (P := (is K low).r) 2 rfl) as_nil)) fun _ _ _ _ _ p => p)) sc_law_is_strict_right.nd (blkOk_by (N := N_law_is_strict_right) (sc := defScope s_law_is_strict_right) (by decide +kernel)) hsl
        (fun _ _ _ _ _ => pg_name (i := 5) sc_law_is_strict_right.nd rfl (by first | exact Or.inl rfl | exact Or.inr rfl)) (fun _ _ _ _ _ sm hsm => by exact e_cm (c_in hr (by decide) (e_var (P := is K sm) 5 rfl) (e_seq (e_var (P := is K (shownBy cs st)) 4 rfl)))))) G.all) ?_))) rfl)
      fun _ => bw_or1 (b_eq (b_cm (c_ne (x := (nmStemma, st)) (y := (nmStemma, st)) hr (by decide) (e_call c4 hr (by omega) (cs, low, st) ⟨⟨lw, sv⟩, ⟨l100, s100⟩, q4⟩ (as_cons (e_par (P := (shP K C cs).r) 0 rfl) (as_cons (e_par (P := (is K low).r) 2 rfl) (as_cons (P := (is K st).r) (e_var (P := is K st) 3 rfl) as_nil))) fun _ _ _ _ _ p => by
        have p : (is K (nmStemma, joinOf cs low st)).p _ _ := p
        rw [q5] at p
        exact p) (e_tup2 (e_nm nmStemma) (e_var (P := is K st) 3 rfl)))) (by simp [eqb])))) (fun h => by cases h) fun _ => ss_nil fun _ _ _ en => en.weak (.same (.same (.same (.drop (.drop (.same .nil)))))))
  rw [List.all_map]
  exact List.all_eq_true.mpr fun s hs => memb_iff.mpr (q3 s hs)
/-! ### _law_are_sums_right -/
abbrev spSums (T : Tb) (K : PySem.W.Frag) (C : Addr) : Sp := spF T (fun z : List Nm × List (List Lot) => [(shP K C z.1).r, (is K z.2).r]) (fun z => SumV z.1 z.2) fun z _ => (is K true).p
theorem ok_sums (F : Fdef K mg "_law_are_sums_right" s_law_are_sums_right) (G : Bl mg) (c1 : Cal P w K mg base 11 "strict" (spStrict T K C)) (c2 : Cal P w K mg base 11 "majority" (spMajor T K C)) (c3 : Cal P w K mg base 11 "mild" (spMild T K C)) (c4 : Cal P w K mg base 22 "common_middles" (spCommon T K C)) (c5 : Cal P w K mg base 11 "nearest" (spNearest T K C)) (c6 : Cal P w K mg base 11 "far" (spFar T K C)) :
    Cal P w K mg base 23 "_law_are_sums_right" (spSums T K C) := by
  refine cal_of F sc_law_are_sums_right (fun _ => rfl) (fun _ _ _ _ _ _ us hl => match us, hl with | [_, _], _ => rfl) (fun z f cdv A outer s H E hz hr => ?_)
  obtain ⟨cs, ss⟩ := z
  have hz : SumV cs ss := hz
  obtain ⟨hcm, hmaj, heq, hst, hml, hco, hmj, hlow, hjust⟩ := hz
  have hfew := hcm.mid.st.few
  have hall := hcm.mid.st.all
  obtain ⟨least, hleast⟩ : ∃ least, least = leastSum cs ss := ⟨_, rfl⟩
  show Ss T H _ [.r (shP K C cs).r, .r (is K ss).r, .u, .u, .u] _ _
  refine ss_cons (ρ1 := [.r (shP K C cs).r, .r (is K ss).r, .t (is K least), .u, .u]) (s_set (P := is K least) 2 sc_law_are_sums_right.nd (e_fst (y := (least, majorOf cs ss)) (e_call c5 hr (by omega) (cs, ss) hcm.mid (as_cons (e_par (P := (shP K C cs).r) 0 rfl) (as_cons (e_par (P := (is K ss).r) 1 rfl) as_nil)) fun _ _ _ _ _ p => by rw [hleast]; exact p)) fun _ _ _ en => en) ?_
  refine ss_cons (ρ1 := [.r (shP K C cs).r, .r (is K ss).r, .t (is K least), .u, .u]) (s_if (k := false) (b_eq (b_cm (c_ne (x := least) (y := least) hr (by decide) (e_fst (y := (least, majorOf cs (ss ++ [majorOf cs ss]))) (e_call c5 hr (by omega) (cs, ss ++ [majorOf cs ss]) hmaj
      (as_cons (e_par (P := (shP K C cs).r) 0 rfl) (as_cons (P := (is K (ss ++ [majorOf cs ss])).r) (e_catT (e_par (P := (is K ss).r) 1 rfl) (e_tup1 (e_call c2 hr (by omega) (cs, ss) hcm.mid (as_cons (e_par (P := (shP K C cs).r) 0 rfl) (as_cons (e_par (P := (is K ss).r) 1 rfl) as_nil)) fun _ _ _ _ _ p => p)) (by simp only [List.length_cons, List.length_nil]; omega)) as_nil)) fun _ _ _ _ _ p => by
        have p : (is K (leastSum cs (ss ++ [majorOf cs ss]), majorOf cs (ss ++ [majorOf cs ss]))).p _ _ := p
        rw [heq, ← hleast] at p
        exact p)) (e_var (P := is K least) 2 rfl))) (by simp [eqb])) (fun h => by cases h) fun _ => ss_nil fun _ _ _ en => en) ?_
  refine ss_cons (ρ1 := [.r (shP K C cs).r, .r (is K ss).r, .t (is K least), .u, .u]) (s_for (xs := [strictOf cs ss, mildOf cs ss, commonOf cs ss] ++ ss) (gt := is K) (fun _ => [.r (shP K C cs).r, .r (is K ss).r, .t (is K least), .u, .u]) (fun _ one => [.r (shP K C cs).r, .r (is K ss).r, .t (is K least), .t (is K one), .u])
    (w_tup (e_catT (e_tup3L
      (e_call c1 hr (by omega) (cs, ss) hcm.mid (as_cons (e_par (P := (shP K C cs).r) 0 rfl) (as_cons (e_par (P := (is K ss).r) 1 rfl) as_nil)) fun _ _ _ _ _ p => p)
      (e_call c3 hr (by omega) (cs, ss) hcm.mid (as_cons (e_par (P := (shP K C cs).r) 0 rfl) (as_cons (e_par (P := (is K ss).r) 1 rfl) as_nil)) fun _ _ _ _ _ p => p)
      (e_call c4 hr (by omega) (cs, ss) ⟨hcm.mid, hcm.two, hcm.cm, hcm.ok⟩ (as_cons (e_par (P := (shP K C cs).r) 0 rfl) (as_cons (e_par (P := (is K ss).r) 1 rfl) as_nil)) fun _ _ _ _ _ p => p)) (e_par (P := (is K ss).r) 1 rfl) (by simp only [List.length_cons, List.length_nil]; omega)))
    (pg_name (i := 3) sc_law_are_sums_right.nd rfl (by first | exact Or.inl rfl | exact Or.inr rfl)) (Wk.refl _) (js := [3]) (fun pre st post _ => by exact tg_name (i := 3) (P := is K st)) (fun pre one post e => ?_) fun _ _ _ en => en) ?_
  · have hm : one ∈ [strictOf cs ss, mildOf cs ss, commonOf cs ss] ++ ss := by rw [e]; simp
    have hv : StemV cs one := by
      rcases List.mem_append.mp hm with q | q
      · simp only [List.mem_cons, List.not_mem_nil, or_false] at q
        rcases q with q | q | q <;> rw [q] <;> assumption
      · exact hall one q
    refine ss_one (s_if (k := false) (b_eq (b_cm (c_lt (x := (ss.map fun o => ((farOf one o : Nat) : Int)).sum) (y := least) (e_sum (e_newL (n_lcM (gt := is K) 4 [("other", 4)] (fun o => ((farOf one o : Nat) : Int)) (w_tup (e_par (P := (is K ss).r) 1 rfl)) sc_law_are_sums_right.nd (blkOk_by (N := N_law_are_sums_right) (sc := defScope s_law_are_sums_right) (by decide +kernel)) (by omega)
        (fun _ _ _ _ _ => pg_name (i := 4) sc_law_are_sums_right.nd rfl (by first | exact Or.inl rfl | exact Or.inr rfl)) (fun _ _ _ _ _ o ho => by exact e_call c6 hr (by omega) (cs, one, o) ⟨hv, hall o ho⟩ (as_cons (P := (shP K C cs).r) (e_par (P := (shP K C cs).r) 0 rfl) (as_cons (P := (is K one).r) (e_var (P := is K one) 3 rfl) (as_cons (P := (is K o).r) (e_var (P := is K o) 4 rfl) as_nil))) fun _ _ _ _ _ p => p))) G.sum) (e_var (P := is K least) 2 rfl))) (decide_eq_false (by
          have := hlow one hm
          rw [hleast]
          omega))) (fun h => by cases h) fun _ => ss_nil fun _ _ _ en => en.weak (.same (.same (.same (.drop (.same .nil))))))
  · refine ss_one (s_ret (e_cast (f := fun b : Bool => (is K b).p) (e_cm (c_eq (x := least) (y := least) hr (by decide) (e_cast (f := fun i : Int => (is K i).p) (e_sum (ns := ss.map fun o => ((farOf (majorOf cs ss) o : Nat) : Int)) (e_newL (n_lcM (gt := is K) 4 [("other", 4)] (fun o => ((farOf (majorOf cs ss) o : Nat) : Int)) (w_tup (e_par (P := (is K ss).r) 1 rfl)) sc_law_are_sums_right.nd (blkOk_by (N := N_law_are_sums_right) (sc := defScope s_law_are_sums_right) (by decide +kernel)) (by omega)
        (fun _ _ _ _ _ => pg_name (i := 4) sc_law_are_sums_right.nd rfl (by first | exact Or.inl rfl | exact Or.inr rfl)) (fun _ _ _ _ _ o ho => by exact e_call c6 hr (by omega) (cs, majorOf cs ss, o) ⟨hmj, hall o ho⟩ (as_cons (P := (shP K C cs).r) (e_par (P := (shP K C cs).r) 0 rfl) (as_cons (P := (is K (majorOf cs ss)).r) (e_call c2 hr (by omega) (cs, ss) hcm.mid (as_cons (P := (shP K C cs).r) (e_par (P := (shP K C cs).r) 0 rfl) (as_cons (P := (is K ss).r) (e_par (P := (is K ss).r) 1 rfl) as_nil)) fun _ _ _ _ _ p => p) (as_cons (P := (is K o).r) (e_var (P := is K o) 4 rfl) as_nil))) fun _ _ _ _ _ p => p))) G.sum) (by rw [hjust, hleast])) (e_var (P := is K least) 2 rfl))) (by simp [eqb])) fun v H _ p => p)
end
end Pg
set_option maxHeartbeats 4000000
namespace Cf
open PySem PySem.Spec PyProof.Rows L2 PySem.W
section
variable {P : Program} {w : World} {K : PySem.W.Frag} {mg : Str → Option Value} {base : Heap} {T : Tb}
theorem Cal.imp {k : Nat} {x : Str} {sp sp' : Sp} (c : Cal P w K mg base k x sp) (h : ∀ vs H Q E, sp' vs H Q E → sp vs H Q E) : Cal P w K mg base k x sp' := by
  obtain ⟨f, fd, ps, h1, h2⟩ := c.ex
  exact ⟨f, fd, ps, h1.imp h, h2⟩
end
section
variable {T : Tb} {R : Hp} {X : Cx} {a : Addr} {ρt : List AV} {n m : Nat} {e1 e2 e : Expr} {pos p p1 p2 p3 p4 : Pos} {Eo : Po}
/-- x, y = a value, a drawn value; names that may be cells -/
theorem s_parED {P1 P2 : TP} {x y : Str} {px py pt' pt2 : Pos} {kt k2 : Nat} (i k : Nat) (hN : X.N.Nodup) (h1 : Cf.E T R X (pt a n ρt) e1 P1.p) (h2 : D T R X a ρt n m e2 P2.p) (kn : ∀ H0 σ H, En T R H0 (((pt a m ρt).set i (.t P1)).set k (.t P2)) σ H → Eo.nx H0 σ H)
    (hi : X.N[i]? = some x := by rfl) (hk : X.N[k]? = some y := by rfl) (hx : Loc X.env.scope x := by first | exact Or.inl rfl | exact Or.inr rfl) (hy : Loc X.env.scope y := by first | exact Or.inl rfl | exact Or.inr rfl)
    (fa : X.fn x = true ∨ X.env.scope.names.lookup x = some .local := by first | exact .inl rfl | exact .inr rfl) (fb : X.fn y = true ∨ X.env.scope.names.lookup y = some .local := by first | exact .inl rfl | exact .inr rfl)
    (hs1 : starEach [e1, e2] X.env = (false, eval e1 X.env) :: starEach [e2] X.env := by rfl) (hs2 : starEach [e2] X.env = (false, eval e2 X.env) :: starEach [] X.env := by rfl) (hc : X.calm = true := by rfl)
    (hw : swappedStores [.Tuple [.Name x px, .Name y py] kt pt'] (.Tuple [e1, e2] k2 pt2) X.env = pure none := by rfl)
    (hs : swapsWithSole [.Tuple [.Name x px, .Name y py] kt pt'] (.Tuple [e1, e2] k2 pt2) pos.line X.env = pure false := by rfl) :
    S T R X (pt a n ρt) (.Assign [.Tuple [.Name x px, .Name y py] kt pt'] (.Tuple [e1, e2] k2 pt2) pos) Eo :=
  s_of (ps_asg (pe_tup (pa_cons h1 (pa_cons h2 pa_nil hs2) hs1)) (pg_tup hc (pgs_cons (pg_name hN hi hx fa) (pgs_cons (pg_name hN hk hy fb) pgs_nil))) hs hw) fun D σ H H0 en nn r bb cc =>
    ⟨⟨H0, en⟩, fun v H1 x1 p1 => ⟨H0, en.step x1, fun w H2 g2 x2 p2 => by
      refine ⟨(by show 2 ≤ sizeLine; decide), fun p hp => ⟨p, [v, w], rfl, .inl (.inl upd_same), rfl, _, _, rfl, _, _, rfl, rfl, nn _ _ (kn _ _ _ ?_)⟩⟩
      obtain ⟨_, ⟨z, _, h3⟩, _⟩ := (en.step x1).pot
      exact ((g2.set_t (P1.st _ _ _ ((ez_mi h3).trans (x2.ez.trans ez_of_mi)) p1)).set_t (P2.st _ _ _ ez_of_mi p2)).step (Ex.new hp)⟩⟩
end
end Cf
namespace Pg
open PySem PySem.Spec PyProof.Rows L2 Cf NdefX PySem.W
section
variable {P : Program} {w : World} {K : PySem.W.Frag} {mg : Str → Option Value} {base : Heap} {T : Tb} {C : Addr}
/-! ### drawn numbers handed on -/
abbrev spNamesB (T : Tb) (K : PySem.W.Frag) : Sp := spD T (fun z : Nat × Nat => z.1 + z.2 + 10) (fun z => [(between K z.1 z.2).r]) (fun z => 0 < z.1 ∧ z.1 + z.2 ≤ 15) fun z _ => (exT (fun ys : List Nm => ∃ many, z.1 ≤ many ∧ many < z.1 + z.2 ∧ NamesOk many ys) (is K)).p
theorem namesB {k : Nat} (c : Cal P w K mg base k "_law_names" (spNames T K)) : Cal P w K mg base k "_law_names" (spNamesB T K) := c.imp fun vs H Q E ⟨z, n, a, rest, h1, h2, h3, h4, h5, h6, h7⟩ => by
  obtain ⟨h11, h12⟩ := h1
  have h4 : n + (z.1 + z.2 + 10) ≤ PotB := h4
  obtain ⟨v, rfl, many, hm, hv⟩ := allP1 h5
  refine ⟨many, n, a, [v], ⟨by omega, by omega⟩, h2, h3, by show n + (many + 10) ≤ PotB; omega, ⟨hv, trivial⟩, h6, fun u H' p1 x1 q1 => h7 u H' (PotAt.mono p1 ?_) x1 ?_⟩
  · show n + (many + 10) ≤ n + (z.1 + z.2 + 10)
    omega
  · obtain ⟨ys, hys, q⟩ := q1
    exact ⟨ys, ⟨many, hm.1, hm.2, hys⟩, q⟩
abbrev spStemsB (T : Tb) (K : PySem.W.Frag) : Sp := spD T (fun z : List Nm × Nat × Nat => stemsCost z.1 (z.2.1 + z.2.2)) (fun z => [(is K z.1).r, (between K z.2.1 z.2.2).r]) (fun z => z.1.Nodup ∧ 2 ≤ z.1.length ∧ z.1.length ≤ 12 ∧ 0 < z.2.1 ∧ z.2.1 + z.2.2 ≤ 100) fun z _ => (exT (fun ss : List (List Lot) => ∃ many, z.2.1 ≤ many ∧ many < z.2.1 + z.2.2 ∧ DrawnS z.1 many ss) (is K)).p
theorem stemsB {k : Nat} (c : Cal P w K mg base k "_law_stemmata" (spStems T K)) : Cal P w K mg base k "_law_stemmata" (spStemsB T K) := c.imp fun vs H Q E ⟨z, n, a, rest, h1, h2, h3, h4, h5, h6, h7⟩ => by
  obtain ⟨cs, lo, u⟩ := z
  obtain ⟨g1, g2, g3, g4, g5⟩ := h1
  have h4 : n + stemsCost cs (lo + u) ≤ PotB := h4
  have g5 : lo + u ≤ 100 := g5
  have g4 : 0 < lo := g4
  obtain ⟨v0, v, rfl, hv0, many, hm, hv⟩ := allP2 h5
  have hm1 : lo ≤ many := hm.1
  have hm2 : many < lo + u := hm.2
  have hle : many * stemCost cs ≤ (lo + u) * stemCost cs := Nat.mul_le_mul_right _ (by omega)
  have hle2 : stemsCost cs many ≤ stemsCost cs (lo + u) := Nat.add_le_add_left hle _
  refine ⟨(cs, many), n, a, [v0, v], ⟨g1, g2, g3, by show 0 < many; omega, by show many ≤ 100; omega⟩, h2, h3, by show n + stemsCost cs many ≤ PotB; omega, ⟨hv0, hv, trivial⟩, h6, fun u' H' p1 x1 q1 => h7 u' H' (PotAt.mono p1 ?_) x1 ?_⟩
  · show n + stemsCost cs many ≤ n + stemsCost cs (lo + u)
    omega
  · obtain ⟨ss, hss, q⟩ := q1
    exact ⟨ss, ⟨many, hm.1, hm.2, hss⟩, q⟩
/-- what the law asks of drawn STEMMATA -/
structure RightV (cs : List Nm) (ss : List (List Lot)) : Prop where
  mid : MidV cs ss
  low : ∀ s0, ss[0]? = some s0 → strictOf cs ss = s0.filter fun lot => ss.all fun st => memb lot st
  ag : AgainV cs ss
  sr : StrV cs ss (strictOf cs ss)
  su : SumV cs ss
def PlainK : Prop := ∀ (cs : List Nm) (ss : List (List Lot)), cs.Nodup → 2 ≤ cs.length → cs.length ≤ 8 → 1 ≤ ss.length → ss.length ≤ 8 → (∀ st ∈ ss, Drawn cs st) → RightV cs ss
/-! ### _law_right -/
abbrev rightCost : Nat := 10000
abbrev spRight (T : Tb) (K : PySem.W.Frag) : Sp := spD T (fun _ : Unit => rightCost) (fun _ => []) (fun _ => True) fun _ _ => (is K true).p
theorem ok_right (plain : PlainK) (F : Fdef K mg "_law_right" s_law_right) (G : Bl mg) (D : ShD K mg C) (I : ShI P w K mg base T C) (c1 : Cal P w K mg base 1 "_law_take" (spTake T K)) (c2 : Cal P w K mg base 3 "_law_names" (spNamesB T K)) (c3 : Cal P w K mg base 1 "_law_text" (spText T K)) (c4 : Cal P w K mg base 4 "_law_stemmata" (spStemsB T K)) (c5 : Cal P w K mg base 11 "strict" (spStrict T K C))
    (c6 : Cal P w K mg base 23 "_law_are_again_right" (spAgain T K C)) (c7 : Cal P w K mg base 12 "_law_is_strict_right" (spStrR T K C)) (c8 : Cal P w K mg base 23 "_law_are_sums_right" (spSums T K C)) : Cal P w K mg base 24 "_law_right" (spRight T K) := by
  refine cal_ofD F sc_law_right (fun _ => rfl) (fun _ _ _ _ _ _ us hl => match us, hl with | [_], _ => rfl) (fun z n a f cdv A outer s H E hz hr hr2 => ?_)
  have hB : PotB = 16384 := rfl
  have hr : n + 10000 ≤ PotB := hr
  show Ss T (mi a H) _ (pt a n [.u, .u, .u, .u, .u, .u]) _ _
  refine ss_cons (ρ1 := pt a (n + 20) [.t (exT (fun ys : List Nm => ∃ many, 2 ≤ many ∧ many < 2 + 7 ∧ NamesOk many ys) (is K)), .u, .u, .u, .u, .u]) (s_setD (P := exT (fun ys : List Nm => ∃ many, 2 ≤ many ∧ many < 2 + 7 ∧ NamesOk many ys) (is K)) (m := n + 20) 0 sc_law_right.nd
    (d_call (m := n + 1) (cost := fun z : Nat × Nat => z.1 + z.2 + 10) (Ps := fun z => [(between K z.1 z.2).r]) (φ := fun z => 0 < z.1 ∧ z.1 + z.2 ≤ 15) (Pf := fun z _ => (exT (fun ys : List Nm => ∃ many, z.1 ≤ many ∧ many < z.1 + z.2 ∧ NamesOk many ys) (is K)).p) c2 hr2 (by omega) (2, 7) ⟨by decide, by decide⟩ (by show n + 1 + (2 + 7 + 10) ≤ PotB; omega)
      (da_cons (P := (between K 2 7).r) (d_addB (lo := 2) (u := 7) e_int (d_take (u := 7) (m := n) c1 hr2 (by omega) (by decide) (by decide) (by omega) (d_t (P := is K ((7 : Nat) : Int)) e_int))) da_nil) fun _ _ _ _ p => p) fun _ _ _ en => en) ?_
  refine ss_openT 1 rfl fun cs hcs => ?_
  obtain ⟨many, hm1, hm2, hnm⟩ := hcs
  have hlen := hnm.len
  show Ss T (mi a H) _ (pt a (n + 20) [.t (is K cs), .u, .u, .u, .u, .u]) _ _
  have hg : grownCost cs ≤ 300 := by
    show cs.length + 24 * (1 + cs.length) ≤ 300
    omega
  have hsc : stemsCost cs 9 ≤ 9000 := by
    show 2 * (1 + grownCost cs) + 9 * (grownCost cs + 28) ≤ 9000
    omega
  refine ss_cons (ρ1 := pt a (n + 9100) [.t (is K cs), .t (shP K C cs), .t (exT (fun ss : List (List Lot) => ∃ many, 1 ≤ many ∧ many < 1 + 8 ∧ DrawnS cs many ss) (is K)), .u, .u, .u])
    (s_parED (P1 := shP K C cs) (P2 := exT (fun ss : List (List Lot) => ∃ many, 1 ≤ many ∧ many < 1 + 8 ∧ DrawnS cs many ss) (is K)) (m := n + 9100) 2 3 sc_law_right.nd
      (e_shelf D I hr2 (by omega) (textOk hnm.ok (by intro z; rw [z] at hlen; simp at hlen; omega) (by omega) hnm.nd) (e_call c3 hr2 (by omega) cs ⟨by omega, hnm.ok⟩ (as_cons (P := (is K cs).r) (e_var (P := is K cs) 1 rfl) (as_one (P := seqR K ([] : List (Nm × Nm))) (e_newS n_lst0) rfl)) fun _ _ _ _ _ p => p))
      (d_more (m1 := n + 20 + 1 + stemsCost cs 9) (d_call (m := n + 20 + 1) (cost := fun z : List Nm × Nat × Nat => stemsCost z.1 (z.2.1 + z.2.2)) (Ps := fun z => [(is K z.1).r, (between K z.2.1 z.2.2).r]) (φ := fun z => z.1.Nodup ∧ 2 ≤ z.1.length ∧ z.1.length ≤ 12 ∧ 0 < z.2.1 ∧ z.2.1 + z.2.2 ≤ 100) (Pf := fun z _ => (exT (fun ss : List (List Lot) => ∃ many, z.2.1 ≤ many ∧ many < z.2.1 + z.2.2 ∧ DrawnS z.1 many ss) (is K)).p) c4 hr2 (by omega) (cs, 1, 8) ⟨hnm.nd, by show 2 ≤ cs.length; omega, by show cs.length ≤ 12; omega, by show 0 < 1; decide, by show 1 + 8 ≤ 100; decide⟩ (by show n + 20 + 1 + stemsCost cs 9 ≤ PotB; omega)
        (da_cons (P := (is K cs).r) (d_t (P := is K cs) (e_var 1 rfl)) (da_cons (P := (between K 1 8).r) (d_addB (lo := 1) (u := 8) e_int (d_take (u := 8) (m := n + 20) c1 hr2 (by omega) (by decide) (by decide) (by omega) (d_t (P := is K ((8 : Nat) : Int)) e_int))) da_nil)) fun _ _ _ _ p => p) (by omega)) fun _ _ _ en => en) ?_
  refine ss_openT 3 rfl fun ss hss => ?_
  obtain ⟨ms, hms1, hms2, hds⟩ := hss
  have hsl := hds.len
  have R := plain cs ss hnm.nd (by omega) (by omega) (by omega) (by omega) hds.ok
  show Ss T (mi a H) _ (pt a (n + 9100) [.t (is K cs), .t (shP K C cs), .t (is K ss), .u, .u, .u]) _ _
  obtain ⟨low, hlow⟩ : ∃ low, low = strictOf cs ss := ⟨_, rfl⟩
  refine ss_cons (ρ1 := pt a (n + 9100) [.t (is K cs), .t (shP K C cs), .t (is K ss), .t (is K low), .u, .u]) (s_set (P := is K low) 4 sc_law_right.nd (e_call c5 hr2 (by omega) (cs, ss) R.mid (as_cons (P := (shP K C cs).r) (e_var (P := shP K C cs) 2 rfl) (as_cons (P := (is K ss).r) (e_var (P := is K ss) 3 rfl) as_nil)) fun _ _ _ _ _ p => by rw [hlow]; exact p) (fun _ _ _ en => en) rfl (by first | exact Or.inl rfl | exact Or.inr rfl)) ?_
  obtain ⟨s0, hs0⟩ : ∃ s0, ss[0]? = some s0 := ⟨_, List.getElem?_eq_getElem (by omega)⟩
  have hlw := R.low s0 hs0
  have hs0m : s0 ∈ ss := List.mem_of_getElem? hs0
  have hs0l := R.mid.few s0 hs0m
  refine ss_cons (ρ1 := pt a (n + 9100) [.t (is K cs), .t (shP K C cs), .t (is K ss), .t (is K low), .u, .u]) (s_if (k := false) (b_eq (b_cm (c_ne (x := low) (y := low) hr2 (by decide) (e_var (P := is K low) 4 rfl) (e_cast (f := fun xs : List Lot => (is K xs).p) (e_tupleOf (xs := s0.filter fun lot => ss.all fun st => memb lot st) (e_cast (f := fun xs : List Lot => (seqR K xs).p)
      (e_newS (n_lcF (gt := is K) 5 [("lot", 5)] (fun lot => ss.all fun st => memb lot st) id (w_tup (e_ixT (i := 0) (y := s0) (e_var (P := is K ss) 3 rfl) e_int hs0)) sc_law_right.nd (blkOk_by (N := N_law_right) (sc := defScope s_law_right) (by decide +kernel)) (by omega)
        (fun _ _ _ _ _ => pg_name (i := 5) sc_law_right.nd rfl (by first | exact Or.inl rfl | exact Or.inr rfl)) (fun _ _ _ _ _ lot hlot => ?_) (fun _ _ _ _ _ lot hlot _ => by exact e_var (P := is K lot) 5 rfl))) (List.map_id _)) G.tuple) (by rw [hlow, hlw])))) (by simp [eqb])) (fun h => by cases h) fun _ => ss_nil fun _ _ _ en => en) ?_
  · refine b_val (e_cast (f := fun b : Bool => (is K b).p) (e_all (bs := ss.map fun st => memb lot st) (e_newL (n_lcM (gt := is K) 6 [("stemma", 6)] (fun st => memb lot st) (w_tup (e_var (P := is K ss) 3 rfl)) sc_law_right.nd ?_ (by omega)
      (fun _ _ _ _ _ => pg_name (i := 6) sc_law_right.nd rfl (by first | exact Or.inl rfl | exact Or.inr rfl)) (fun _ _ _ _ _ st hst => ?_))) G.all) (all_map _ _))
    · exact blkOk_by rfl
    · exact e_cm (c_in hr2 (by decide) (e_var (P := is K lot) 5 rfl) (e_seq (e_var (P := is K st) 6 rfl)))
  refine ss_cons (ρ1 := pt a (n + 9100) [.t (is K cs), .t (shP K C cs), .t (is K ss), .t (is K low), .u, .u]) (s_if (k := false) (b_w (bw_or (k := false) (l := false)
      (b_eq (b_not (b_val (k := true) (e_call c6 hr2 (by omega) (cs, ss) R.ag (as_cons (P := (shP K C cs).r) (e_var (P := shP K C cs) 2 rfl) (as_cons (P := (is K ss).r) (e_var (P := is K ss) 3 rfl) as_nil)) fun _ _ _ _ _ p => p))) rfl)
      fun _ => bw_or1 (b_eq (b_not (b_val (k := true) (e_call c7 hr2 (by omega) (cs, ss, low) (by rw [hlow]; exact R.sr) (as_cons (P := (shP K C cs).r) (e_var (P := shP K C cs) 2 rfl) (as_cons (P := (is K ss).r) (e_var (P := is K ss) 3 rfl) (as_cons (P := (is K low).r) (e_var (P := is K low) 4 rfl) as_nil))) fun _ _ _ _ _ p => p))) rfl))) (fun h => by cases h) fun _ => ss_nil fun _ _ _ en => en) ?_
  exact ss_one (s_retD (m := n + 9100) (P := (is K true).p) (d_t (P := is K true) (e_call c8 hr2 (by omega) (cs, ss) R.su (as_cons (P := (shP K C cs).r) (e_var (P := shP K C cs) 2 rfl) (as_cons (P := (is K ss).r) (e_var (P := is K ss) 3 rfl) as_nil)) fun _ _ _ _ _ p => p)) fun v H' hp x p => ⟨hp.mono (by show n + 9100 ≤ n + 10000; omega), p⟩)
end
end Pg
set_option maxHeartbeats 4000000
namespace Pg
open PySem PySem.Spec PyProof.Rows L2 Cf NdefX PySem.W
/-- what was made and drawn from is forgotten -/
theorem ex_glue {T : Tb} {a : Addr} {H H1 H' : Hp} (x1 : Ex T H H1) (x2 : Ex T (mi a H1) H') (ha : H a = none) {xs : List V} (h1 : H1 a = some (.lst xs)) : Ex T H H' := by
  refine ⟨fun b o e nt => ?_, fun b e => ?_, fun t => x2.tb (tabs_mi h1 (x1.tb t))⟩
  · have hb : b ≠ a := fun z => by rw [z, ha] at e; cases e
    exact x2.ext b o (by rw [mi_ne hb]; exact x1.ext b o e nt) nt
  · by_cases q : b = a
    · rw [q]
      exact ha
    · have := x2.bk b e
      rw [mi_ne q] at this
      exact x1.bk b this
section
variable {T : Tb} {R : Hp} {X : Cx} {ρ : List AV} {e : Expr} {pos p : Pos}
abbrev newPot : OP := exO (fun _ : Addr => True) fun a => potO a 0
theorem e_right {j : Nat} (c : Cal X.prog X.w X.K X.mg X.base 24 "_law_right" (spRight T X.K)) (hr : Room j X.A) (hj : 24 ≤ j) (h : N T R X ρ e newPot) (hg : Gl X "_law_right" := by rfl)
    (hs : starEach [e] X.env = (false, eval e X.env) :: starEach [] X.env := by rfl) (hpl : (backTo pos (starEach [] X.env)).any (·.1) = false := by rfl) : Cf.E T R X ρ (.Call (.Name "_law_right" p) [e] [] pos) (is X.K true).p := by
  obtain ⟨f, fd, ps, F, hm, kp, b⟩ := c.ex
  refine e_of (pe_call F (hr.mono hj) hg hm kp b .nil pass0 (pa_cons h pa_nil hs) (by decide) hs hpl) fun σ H H0 Q en q => ⟨⟨H0, en⟩, fun v S H1 hS x1 hO => ?_⟩
  obtain ⟨a, _, z, hz, hv, hSa, hH⟩ := hO
  subst hv
  have ha : H a = none := hS a (by rw [hSa])
  exact ⟨(), 0, a, [], trivial, rfl, ⟨z, hz, hH⟩, (by show 0 + 10000 ≤ PotB; decide), trivial, x1.tb en.tab, fun v H' p2 x2 pf => q v H' (ex_glue x1 x2 ha hH) (is_bool.mpr (is_bool.mp pf))⟩
end
section
variable {P : Program} {w : World} {K : PySem.W.Frag} {mg : Str → Option Value} {base : Heap} {T : Tb}
/-- a def keeps its promise: the function object told -/
theorem fnok_of {ζ : Type} {Ps : ζ → List RP} {φ : ζ → Prop} {Pf : ζ → Hp → V → Hp → Prop} {x : Str} {st : Stmt} {N ps : List Str} {k : Nat} {f : Addr} {fd : FuncData} (F : FunD K x x (defArgs st) (defBody st) (defScope st) [] [] f fd) (S : FnScope N ps (defScope st)) (hlen : ∀ z, (Ps z).length = ps.length)
    (body : ∀ z f cdv A outer s H E, φ z → Room k (A.deeper (envOfC x (defScope st) s.heap.objs.size f cdv)) → Ss T H (Bx P w K mg base N x st f cdv A outer s H E) (ent (N.length - ps.length) (Ps z)) (defBody st) { rt := Pf z H, nx := fun H0 σ H' => Ex T H H' ∧ Pf z H .non H' }) :
    FnOk P w K mg base C8.CX0 (k + 1) f fd ps (spF T Ps φ Pf) := by
  refine F.ok S (fun vs H Q E ⟨z, _, h, _⟩ => (allP_len h).trans (hlen z)) (fun cdv A outer s H vs Q E hr ⟨z, hz, h, hT, q⟩ => ⟨_, (body z f cdv A outer s H E hz hr).nox, H, ?_, fun σ' H' h => q _ H' h.1 h.2, fun v H' x p => q v H' x p, fun _ _ z => z.elim, fun _ _ z => z.elim⟩)
  have hle : ps.length ≤ N.length := by
    have := congrArg List.length S.pre
    rw [List.length_take] at this
    omega
  rw [← hlen z]
  exact en_start hT h (by rw [hlen z]; exact hle)
/-! ### law -/
abbrev spLaw (T : Tb) (K : PySem.W.Frag) : Sp := spF T (fun ns : List Int => [lstR K ns]) (fun ns => ns.length ≤ 1000) fun _ _ => (is K true).p
theorem ok_law {f : Addr} {fd : FuncData} (F : FunD K "law" "law" (defArgs s_law) (defBody s_law) (defScope s_law) [] [] f fd) (c1 : Cal P w K mg base 1 "_law_cells" (spCells T K)) (c2 : Cal P w K mg base 1 "_law_pot" (spPot T K)) (c3 : Cal P w K mg base 24 "_law_right" (spRight T K)) : FnOk P w K mg base C8.CX0 25 f fd ["script"] (spLaw T K) := by
  refine fnok_of F sc_law (fun _ => rfl) (fun ns f cdv A outer s H E hz hr => ?_)
  have hz : ns.length ≤ 1000 := hz
  obtain ⟨k, hk⟩ : ∃ k, k = max 1 (min 2 ns.length) := ⟨_, rfl⟩
  show Ss T H _ [.r (lstR K ns), .u] _ _
  refine ss_cons (ρ1 := [.r (lstR K ns), .u]) (s_for (xs := upto k) (gt := is K) (fun _ => [.r (lstR K ns), .u]) (fun _ i => [.r (lstR K ns), .t (is K i)])
    (w_new (xs := upto k) (n_call c1 hr (by omega) (ns, 2) (by show 2 ≤ 1000; decide) (as_cons (P := lstR K ns) (e_par 0 rfl) (as_one (P := (is K ((2 : Nat) : Int)).r) e_int rfl)) fun _ _ _ p => by rw [hk]; exact p))
    (pg_name (i := 1) sc_law.nd rfl (by first | exact Or.inl rfl | exact Or.inr rfl)) (Wk.refl _) (js := [1]) (fun pre i post _ => by exact tg_name (i := 1) (P := is K i)) (fun pre i post e => ?_) fun _ _ _ en => en) (ss_one (s_ret e_bl fun v H _ p => p))
  have hm : i ∈ upto k := by rw [e]; simp
  obtain ⟨m, hm1, rfl⟩ := List.mem_map.mp hm
  have hm2 : m < k := List.mem_range.mp hm1
  refine ss_one (s_if (k := false) (b_eq (b_not (b_val (k := true) (e_right c3 hr (by omega) (n_call c2 hr (by omega) (ns, m) ⟨by show m ≤ 1000; omega, hz⟩ (as_cons (P := lstR K ns) (e_par 0 rfl) (as_one (P := (is K ((m : Nat) : Int)).r) (e_var (P := is K ((m : Nat) : Int)) 1 rfl) rfl)) fun H1 v H2 ⟨a, h1, h2, z, h3, h4⟩ => ⟨fun b => b = a, fun b hb => by rw [hb]; exact h1, a, trivial, z, h3, h2, rfl, h4⟩)))) rfl)
    (fun h => by cases h) fun _ => ss_nil fun _ _ _ en => en.weak (.same (.drop .nil)))
end
end Pg
set_option maxHeartbeats 4000000
/-! what the head looks at -/
namespace Pg
open PySem PySem.Spec PyProof.Rows L2 Cf NdefX
abbrev Fg := PySem.W.Frag
def dfn (g x : Str) (st : Stmt) : He.DefD := ⟨(g, none), x, x, defArgs st, defBody st, defScope st, [], []⟩
def dmt (C m q : Str) (st : Stmt) : He.DefD := ⟨(C, some m), m, q, defArgs st, defBody st, defScope st, [], []⟩
/-! ### a def at an address of one's own -/
def seenAt (K : Fg) (a : Addr) : He.FnW := match K.lookup a with
  | none => none
  | some u => (match u.data with
    | .func d => some (d.name, d.qualname, d.params, d.body, d.scope, d.globals, d.closure, d.builtins)
    | _ => none)
def goodAt (K : Fg) (a : Addr) (q : Str) : Bool := match K.lookup a with
  | none => false
  | some u => (match u.data with
    | .func d => (PySem.W.codeIn K d.code q && PySem.W.keepIn K (.ref a)) && (He.dflB K d.defaults [] && He.kwdB K d.kwdefaults [])
    | _ => false)
theorem fun_at {K : Fg} {d : He.DefD} {a : Addr} (e : seenAt K a = d.val) (c : goodAt K a d.qual = true) : ∃ fd, FunD K d.name d.qual d.params d.body d.scope [] [] a fd := by
  unfold seenAt at e
  unfold goodAt at c
  cases hl : K.lookup a with
  | none => rw [hl] at c; cases c
  | some u =>
    obtain ⟨uc, ud, dat, us⟩ := u
    rw [hl] at c e
    cases dat with
    | func F =>
      obtain ⟨a1, a2, a3, a4, a5, a6, a7, a8, a9, b1, b2, b3, b4, b5, b6⟩ := F
      have e' := Option.some.inj (show some (a1, a2, a3, a4, a5, a6, a7, b6) = some (d.name, d.qual, d.params, FuncBody.stmts d.body, d.scope, mainGlobals, [], builtinsNs) from e)
      simp only [Prod.mk.injEq] at e'
      obtain ⟨g1, g2, g3, g4, g5, g6, g7, g8⟩ := e'
      subst g1 g2 g3 g4 g5 g6 g7 g8
      obtain ⟨h1, h2⟩ := He.ba c
      obtain ⟨h3, h4⟩ := He.ba h1
      obtain ⟨h5, h6⟩ := He.ba h2
      exact ⟨_, ⟨uc, ud, a8, a9, b1, b2, b3, b4, b5, us, rfl, hl, h3, He.dflB_ok h5, He.kwdB_ok h6⟩, h4⟩
    | _ => cases c
/-- the property's object, its getter -/
def prop_ (K : Fg) : Addr := He.ma K (He.ga K "Shelf") "copies"
def getr (K : Fg) : Addr := match PySem.W.recIn K (prop_ K) "property" with
  | some (.ref g :: _) => g
  | _ => 0
def dGet : He.DefD := ⟨("Shelf", none), "copies", "Shelf.copies", defArgs s_Shelf_copies, defBody s_Shelf_copies, defScope s_Shelf_copies, [], []⟩
abbrev lamDefs : List He.Defn := [("by_size", none), ("parts_of", none)]
def okB (o : Option Bool) : Bool := match o with
  | some b => b
  | none => false
theorem okB_ok {o : Option Bool} (h : okB o = true) : o = some true := by
  cases o with
  | none => cases h
  | some b => rw [show b = true from h]
def moreB (K : Fg) : Bool := decide (He.ga K "common_agreed" = He.ga K "common") && (decide ((He.cT K ("by_size", none)).2 ≠ (He.cT K ("parts_of", none)).2) &&
  (He.eqO (PySem.W.findIn K (.ref (He.ga K "Shelf")) "__class__") (some (some (.builtin "object.__class__"))) && (He.eqO (PySem.W.specialIn K (.builtin "object.__class__") "__get__") (some (some (.builtin "getset_descriptor.__get__"))) &&
  (okB (PySem.W.takesIn K (.builtin "object.__class__")) && (okB (PySem.W.mroIn K (He.ga K "Shelf") (.type "object")) && (He.eqO (PySem.W.findIn K (.ref (He.ga K "Shelf")) "copies") (some (some (.ref (prop_ K)))) &&
  (He.eqO (PySem.W.specialIn K (.ref (prop_ K)) "__get__") (some (some (.builtin "property.__get__"))) && (okB (PySem.W.takesIn K (.ref (prop_ K))) && ((match PySem.W.recIn K (prop_ K) "property" with
  | some (.ref _ :: _) => true
  | _ => false) && goodAt K (getr K) "Shelf.copies")))))))))
def fns : List He.DefD := [dfn "is_name" "is_name" s_is_name,
  dfn "check_shelf" "check_shelf" s_check_shelf,
  dfn "in_sequence" "in_sequence" s_in_sequence,
  dfn "is_lot_of" "is_lot_of" s_is_lot_of,
  dfn "do_clash" "do_clash" s_do_clash,
  dfn "by_size" "by_size" s_by_size,
  dfn "stemma_of" "stemma_of" s_stemma_of,
  dfn "are_lots" "are_lots" s_are_lots,
  dfn "is_stemma_of" "is_stemma_of" s_is_stemma_of,
  dfn "check_stemma" "check_stemma" s_check_stemma,
  dfn "is_within" "is_within" s_is_within,
  dfn "parts_of" "parts_of" s_parts_of,
  dfn "cut_down" "cut_down" s_cut_down,
  dfn "are_stemmata_of" "are_stemmata_of" s_are_stemmata_of,
  dfn "check_stemmata" "check_stemmata" s_check_stemmata,
  dfn "check_two" "check_two" s_check_two,
  dfn "lots_in" "lots_in" s_lots_in,
  dfn "many_of" "many_of" s_many_of,
  dfn "more_than" "more_than" s_more_than,
  dfn "strict" "strict" s_strict,
  dfn "majority" "majority" s_majority,
  dfn "mild" "mild" s_mild,
  dfn "far_of" "far_of" s_far_of,
  dfn "far" "far" s_far,
  dfn "least_sum" "least_sum" s_least_sum,
  dfn "nearest" "nearest" s_nearest,
  dfn "parted_by_all" "parted_by_all" s_parted_by_all,
  dfn "common_lots" "common_lots" s_common_lots,
  dfn "common_middles" "common" s_common_56,
  dfn "all_sayings" "all_sayings" s_all_sayings,
  dfn "does_show" "does_show" s_does_show,
  dfn "shown_by" "shown_by" s_shown_by,
  dfn "shown" "shown" s_shown,
  dfn "check_both" "check_both" s_check_both,
  dfn "both" "both" s_both,
  dfn "common" "common" s_common_68,
  dfn "_law_pot" "_law_pot" s_law_pot,
  dfn "_law_take" "_law_take" s_law_take,
  dfn "_law_of" "_law_of" s_law_of,
  dfn "_law_cells" "_law_cells" s_law_cells,
  dfn "_law_some" "_law_some" s_law_some,
  dfn "_law_names" "_law_names" s_law_names,
  dfn "_law_text" "_law_text" s_law_text,
  dfn "_law_told" "_law_told" s_law_told,
  dfn "_law_grown" "_law_grown" s_law_grown,
  dfn "_law_stemmata" "_law_stemmata" s_law_stemmata,
  dfn "_law_are_again_right" "_law_are_again_right" s_law_are_again_right,
  dfn "_law_is_strict_right" "_law_is_strict_right" s_law_is_strict_right,
  dfn "_law_are_sums_right" "_law_are_sums_right" s_law_are_sums_right,
  dfn "_law_right" "_law_right" s_law_right,
  dfn "law" "law" s_law,
  dmt "Reader" "__init__" "Reader.__init__" s_Reader_init,
  dmt "Reader" "takes" "Reader.takes" s_Reader_takes,
  dmt "Reader" "takes_copy" "Reader.takes_copy" s_Reader_takes_copy,
  dmt "Reader" "found" "Reader.found" s_Reader_found,
  dmt "Shelf" "__init__" "Shelf.__init__" s_Shelf_init]
def fas : List He.Fa := [.glo "is_name", .glo "check_shelf", .glo "in_sequence", .glo "is_lot_of", .glo "do_clash", .glo "by_size", .glo "stemma_of", .glo "are_lots", .glo "is_stemma_of", .glo "check_stemma", .glo "is_within", .glo "parts_of", .glo "cut_down", .glo "are_stemmata_of", .glo "check_stemmata", .glo "check_two", .glo "lots_in", .glo "many_of", .glo "more_than", .glo "strict", .glo "majority", .glo "mild", .glo "far_of", .glo "far", .glo "least_sum", .glo "nearest", .glo "parted_by_all", .glo "common_lots", .glo "common_middles", .glo "all_sayings", .glo "does_show", .glo "shown_by", .glo "shown", .glo "check_both", .glo "both", .glo "common", .glo "_law_pot", .glo "_law_take", .glo "_law_of", .glo "_law_cells", .glo "_law_some", .glo "_law_names", .glo "_law_text", .glo "_law_told", .glo "_law_grown", .glo "_law_stemmata", .glo "_law_are_again_right", .glo "_law_is_strict_right", .glo "_law_are_sums_right", .glo "_law_right", .glo "law", .glo "common_agreed", .glo "Reader", .glo "Shelf", .free "len", .free "tuple", .free "list", .free "dict", .free "set", .free "all", .free "any", .free "sum", .free "min", .free "max", .free "abs", .free "int", .free "str", .free "bool", .free "sorted", .free "enumerate", .free "range", .free "isinstance", .int "MOST_SIGNS" 8, .int "MOST_COPIES" 12, .int "MOST_STEMMATA" 9, .str "LETTERS" "abcdefghijklmnopqrstuvwxyz", .str "FIGURES_words" "0123456789", .str "COPY" "copy", .str "STEMMA" "stemma", .cls "Reader", .cls "Shelf", .noat "Reader" "own_copies", .noat "Reader" "own_places", .noat "Shelf" "own_text", .noat "Shelf" "own_copies", .noat "Shelf" "own_places", .meth "Reader" "takes", .meth "Reader" "takes_copy", .meth "Reader" "found", .mkr "Reader", .mkr "Shelf"]
/-! ### the hook -/
section
variable (n : Nat) (fa : List He.Fa) (fn : List He.DefD) (ts : List He.Tab) (tf : List He.Defn) (ex : Fg → Bool) (gd : Fg → He.FnW) (gv : He.FnW)
def seenQ (g : Addr → Option Obj) : He.AlX × He.FnW := (He.obsX n fa fn ts tf ex g, gd (He.frT g (He.asD g n)))
structure ToldQ (w : World) (h : Heap) (K : Fg) : Prop where
  x : He.SaysX fa fn ts tf ex w h K
  g : gd K = gv
def hookQ : PySem.W.Hook where
  α := He.AlX × He.FnW
  obs := fun s => seenQ n fa fn ts tf ex gd s.heap.get?
  val := fun w => (He.valX fn ts w, gv)
  says := fun w h => ∃ K : Fg, K.In h ∧ ToldQ fa fn ts tf ex gd gv w h K
  of := fun w s e => ⟨He.frT s.heap.get? (He.asD s.heap.get? n), He.frT_in, He.saysX_of (congrArg Prod.fst e), congrArg Prod.snd e⟩
  keeps := fun w h h' ⟨K, hK, c⟩ k => ⟨K, PySem.W.Frag.In.keeps hK k, ⟨c.x.t, c.x.more, c.x.hd, c.x.out, fun p hp => k _ _ (c.x.empty p hp)⟩, c.g⟩
theorem seenQ_eq (s : PySem.W.SharedT) : seenQ n fa fn ts tf ex gd (HandSHeadRun.getT s) = (hookQ n fa fn ts tf ex gd gv).obs s.abs := by
  have e : HandSHeadRun.getT s = s.abs.heap.get? := funext (HandSHeadRun.getT_eq s)
  show seenQ n fa fn ts tf ex gd (HandSHeadRun.getT s) = seenQ n fa fn ts tf ex gd s.abs.heap.get?
  rw [e]
end
abbrev nG : Nat := 6
abbrev Told (w : World) (h : Heap) (K : Fg) : Prop := ToldQ fas fns [] lamDefs moreB (fun K => seenAt K (getr K)) dGet.val w h K
def hookP : PySem.W.Hook := hookQ nG fas fns [] lamDefs moreB (fun K => seenAt K (getr K)) dGet.val
def obP (s : PySem.W.SharedT) : He.AlX × He.FnW := seenQ nG fas fns [] lamDefs moreB (fun K => seenAt K (getr K)) (HandSHeadRun.getT s)
theorem obP_eq (s : PySem.W.SharedT) : obP s = hookP.obs s.abs := seenQ_eq nG fas fns [] lamDefs moreB (fun K => seenAt K (getr K)) dGet.val s
section
variable {w : World} {h : Heap} {K : Fg} {mg : Str → Option Value}
theorem fdef_at (KX : K.In h) (G : h.Ns mainGlobals mg) (c : He.SaysD fas fns K) (i j : Nat) {x : Str} {st : Stmt} (hi : fns[i]? = some (dfn x x st) := by rfl) (hj : fas[j]? = some (.glo x) := by rfl) : Fdef K mg x st := by
  obtain ⟨fd, F⟩ := c.def_ i hi
  exact ⟨He.ga K x, fd, F, He.glo_ok KX G (c.fact j hj)⟩
theorem fdef2_at (KX : K.In h) (G : h.Ns mainGlobals mg) (c : He.SaysD fas fns K) (i j : Nat) {g x : Str} {st : Stmt} (hi : fns[i]? = some (dfn g x st) := by rfl) (hj : fas[j]? = some (.glo g) := by rfl) : Fdef2 K mg g x st := by
  obtain ⟨fd, F⟩ := c.def_ i hi
  exact ⟨He.ga K g, fd, F, He.glo_ok KX G (c.fact j hj)⟩
theorem fdefL_at {base : Heap} {T : Tb} (KX : K.In h) (G : h.Ns mainGlobals mg) (c : He.SaysD fas fns K) (i j : Nat) {x : Str} {st : Stmt} (TB : LamX.TabB base mg (He.cT K (x, none)).1 (He.cT K (x, none)).2) (hT : ((He.cT K (x, none)).2, lamQ x) ∈ T) (hu : ∀ p ∈ T, p.1 = (He.cT K (x, none)).2 → p.2 = lamQ x)
    (hi : fns[i]? = some (dfn x x st) := by rfl) (hj : fas[j]? = some (.glo x) := by rfl) : FdefL K mg base T x st := by
  obtain ⟨fd, F⟩ := c.def_ i hi
  have F : FunD K x x (defArgs st) (defBody st) (defScope st) [] [] (He.ga K x) fd := F
  obtain ⟨oc, od, dV, kV, doc, pm, an, cdv, ct, osl, e1, lk, hcd, _, _⟩ := F.ex
  obtain ⟨cd, e2⟩ := He.codeIn_ref hcd
  have e3 : fd.code = .ref cd := by rw [e1, e2] <;> rfl
  have e4 : He.codeOf K (x, none) = cd := He.codeOf_eq (p := (x, none)) lk e3
  exact ⟨He.ga K x, fd, cd, _, F, He.glo_ok KX G (c.fact j hj), e3, by rw [← e4]; exact TB, hT, hu⟩
theorem mtd_at (c : He.SaysD fas fns K) (i j : Nat) {C m q : Str} {st : Stmt} (hi : fns[i]? = some (dmt C m q st) := by rfl) (hj : fas[j]? = some (.meth C m) := by rfl) : MtD K (He.ga K C) m q st := by
  obtain ⟨fd, F⟩ := c.def_ i hi
  exact ⟨He.ma K (He.ga K C) m, fd, F, He.meth_ok (c.fact j hj)⟩
theorem mkr_at (c : He.SaysD fas fns K) (i j : Nat) {C q : Str} {st : Stmt} (hi : fns[i]? = some (dmt C "__init__" q st) := by rfl) (hj : fas[j]? = some (.mkr C) := by rfl) : ∃ f fd, FunD K "__init__" q (defArgs st) (defBody st) (defScope st) [] [] f fd ∧ L2.Mk K (He.ga K C) f := by
  obtain ⟨fd, F⟩ := c.def_ i hi
  exact ⟨He.ma K (He.ga K C) "__init__", fd, F, He.mkr_ok (c.fact j hj)⟩
theorem bl_at (KX : K.In h) (G : h.Ns mainGlobals mg) (c : He.SaysD fas fns K) : Bl mg := ⟨He.free_ok KX G (c.fact 54 rfl), He.free_ok KX G (c.fact 55 rfl), He.free_ok KX G (c.fact 56 rfl), He.free_ok KX G (c.fact 57 rfl), He.free_ok KX G (c.fact 58 rfl), He.free_ok KX G (c.fact 59 rfl), He.free_ok KX G (c.fact 60 rfl), He.free_ok KX G (c.fact 61 rfl), He.free_ok KX G (c.fact 62 rfl), He.free_ok KX G (c.fact 63 rfl), He.free_ok KX G (c.fact 64 rfl), He.free_ok KX G (c.fact 65 rfl), He.free_ok KX G (c.fact 66 rfl), He.free_ok KX G (c.fact 67 rfl), He.free_ok KX G (c.fact 68 rfl), He.free_ok KX G (c.fact 69 rfl), He.free_ok KX G (c.fact 70 rfl), He.free_ok KX G (c.fact 71 rfl)⟩
theorem gc_at (KX : K.In h) (G : h.Ns mainGlobals mg) (c : He.SaysD fas fns K) : Gc mg := ⟨He.str_ok KX G (c.fact 75 rfl), He.str_ok KX G (c.fact 76 rfl), He.int_ok KX G (c.fact 72 rfl), He.int_ok KX G (c.fact 73 rfl), He.str_ok KX G (c.fact 77 rfl), He.int_ok KX G (c.fact 74 rfl), He.str_ok KX G (c.fact 78 rfl)⟩
theorem rd_at (KX : K.In h) (G : h.Ns mainGlobals mg) (c : He.SaysD fas fns K) : RdF K mg (He.ga K "Reader") := ⟨He.glo_ok KX G (c.fact 52 rfl), He.cls_ok (c.fact 79 rfl), He.noat_ok (c.fact 81 rfl), He.noat_ok (c.fact 82 rfl), mkr_at c 51 89, mtd_at c 52 86, mtd_at c 53 87, mtd_at c 54 88⟩
theorem sh_at (KX : K.In h) (G : h.Ns mainGlobals mg) (c : He.SaysD fas fns K) : ShD K mg (He.ga K "Shelf") := ⟨He.glo_ok KX G (c.fact 53 rfl), He.cls_ok (c.fact 80 rfl), He.noat_ok (c.fact 83 rfl), He.noat_ok (c.fact 84 rfl), He.noat_ok (c.fact 85 rfl), mkr_at c 55 90⟩
theorem shf_at {P : Program} {base : Heap} (KX : K.In h) (G : h.Ns mainGlobals mg) (c : Told w h K) : ShF P w K mg base (He.ga K "Shelf") := by
  have D := sh_at KX G c.x.t.d
  obtain ⟨m1, m⟩ := He.ba (show moreB K = true from c.x.more)
  obtain ⟨m2, m⟩ := He.ba m
  obtain ⟨m3, m⟩ := He.ba m
  obtain ⟨m4, m⟩ := He.ba m
  obtain ⟨m5, m⟩ := He.ba m
  obtain ⟨m6, m⟩ := He.ba m
  obtain ⟨m7, m⟩ := He.ba m
  obtain ⟨m8, m⟩ := He.ba m
  obtain ⟨m9, m⟩ := He.ba m
  obtain ⟨n1, n2⟩ := He.ba m
  refine ⟨D.nm, D.cls, He.eqO_ok m3, He.eqO_ok m4, okB_ok m5, okB_ok m6, ?_⟩
  obtain ⟨fd, F⟩ := fun_at (d := dGet) c.g n2
  have F : FunD K "copies" "Shelf.copies" (defArgs s_Shelf_copies) (defBody s_Shelf_copies) (defScope s_Shelf_copies) [] [] (getr K) fd := F
  refine ⟨prop_ K, getr K, fd, ⟨He.eqO_ok m7, He.eqO_ok m8, okB_ok m9, ?_⟩, ?_, F.bindsN (fun _ _ _ _ _ _ us hl => match us, hl with | [_], _ => rfl)⟩
  · have e : getr K = match PySem.W.recIn K (prop_ K) "property" with
      | some (.ref g :: _) => g
      | _ => 0 := rfl
    cases q : PySem.W.recIn K (prop_ K) "property" with
    | none => rw [q] at n1; cases n1
    | some l =>
      rw [q] at n1 e
      cases l with
      | nil => cases n1
      | cons v r => cases v with
        | ref g => exact ⟨r, by rw [e]⟩
        | _ => cases n1
  · obtain ⟨oc, od, dV, kV, doc, pm, an, cdv, ct, osl, e1, lk, hcd, _, _⟩ := F.ex
    subst e1
    exact fn_getter (k := 0) lk hcd sc_Shelf_copies rfl rfl D.cls D.a1
theorem agreed_at (KX : K.In h) (G : h.Ns mainGlobals mg) (c : Told w h K) : mg "common_agreed" = mg "common" := by
  obtain ⟨m1, m⟩ := He.ba (show moreB K = true from c.x.more)
  rw [He.glo_ok KX G (c.x.t.d.fact 51 rfl), He.glo_ok KX G (c.x.t.d.fact 35 rfl), of_decide_eq_true m1]
end
end Pg
set_option maxHeartbeats 4000000
/-! all defs keep their promises -/
namespace Pg
open PySem PySem.Spec PyProof.Rows L2 Cf NdefX
theorem all_ok {P : Program} {w : World} {h base : Heap} {K : Fg} {mg : Str → Option Value} {T : Tb} (plain : PlainK) (KX : K.In h) (G : h.Ns mainGlobals mg) (C : Told w h K) (T1 : LamX.TabB base mg (He.cT K ("by_size", none)).1 (He.cT K ("by_size", none)).2) (T2 : LamX.TabB base mg (He.cT K ("parts_of", none)).1 (He.cT K ("parts_of", none)).2)
    (hT1 : ((He.cT K ("by_size", none)).2, lamQ "by_size") ∈ T) (hT2 : ((He.cT K ("parts_of", none)).2, lamQ "parts_of") ∈ T) (hu1 : ∀ p ∈ T, p.1 = (He.cT K ("by_size", none)).2 → p.2 = lamQ "by_size") (hu2 : ∀ p ∈ T, p.1 = (He.cT K ("parts_of", none)).2 → p.2 = lamQ "parts_of") {f : Addr} {fd : FuncData}
    (FL : FunD K "law" "law" (defArgs s_law) (defBody s_law) (defScope s_law) [] [] f fd) : FnOk P w K mg base C8.CX0 25 f fd ["script"] (spLaw T K) := by
  have c := C.x.t.d
  have B := bl_at KX G c
  have Q := gc_at KX G c
  have S : ShF P w K mg base (He.ga K "Shelf") := shf_at KX G C
  have D := sh_at KX G c
  have Rf := rd_at KX G c
  have c_seq : Cal P w K mg base 1 "in_sequence" (spInSeq T K) := ok_in_sequence (fdef_at KX G c 2 2) B
  have c_size : Cal P w K mg base 6 "by_size" (spBySize T K) := ok_by_size (fdefL_at KX G c 5 5 T1 hT1 hu1) B
  have c_lot : Cal P w K mg base 2 "is_lot_of" (spIsLot T K) := ok_is_lot_of (fdef_at KX G c 3 3) B c_seq
  have c_clash : Cal P w K mg base 1 "do_clash" (spClash T K) := ok_do_clash (fdef_at KX G c 4 4) B
  have c_stem : Cal P w K mg base 7 "stemma_of" (spStemmaOf T K) := ok_stemma_of (fdef_at KX G c 6 6) B c_size
  have c_within : Cal P w K mg base 1 "is_within" (spWithin T K) := ok_is_within (fdef_at KX G c 10 10) B
  have c_many : Cal P w K mg base 1 "many_of" (spManyOf T K) := ok_many_of (fdef_at KX G c 17 17) B
  have c_farof : Cal P w K mg base 1 "far_of" (spFarOf T K) := ok_far_of (fdef_at KX G c 22 22) B
  have c_lots : Cal P w K mg base 3 "are_lots" (spAreLots T K) := ok_are_lots (fdef_at KX G c 7 7) B c_lot c_clash
  have c_isstem : Cal P w K mg base 8 "is_stemma_of" (spIsStem T K) := ok_is_stemma_of (fdef_at KX G c 8 8) c_lots c_stem
  have c_cut : Cal P w K mg base 8 "cut_down" (spCutDown T K) := ok_cut_down (fdef_at KX G c 12 12) B c_seq c_stem
  have c_chs : Cal P w K mg base 1 "check_shelf" (spCheckShelf T K (He.ga K "Shelf")) := ok_check_shelf (fdef_at KX G c 1 1) B S
  have c_chst : Cal P w K mg base 9 "check_stemma" (spCheckStemma T K (He.ga K "Shelf")) := ok_check_stemma (fdef_at KX G c 9 9) S c_chs c_isstem
  have c_arest : Cal P w K mg base 9 "are_stemmata_of" (spAreStems T K (He.ga K "Shelf")) := ok_are_stemmata_of (fdef_at KX G c 13 13) B Q.stemmata S c_isstem
  have c_chsts : Cal P w K mg base 10 "check_stemmata" (spCheckStems T K (He.ga K "Shelf")) := ok_check_stemmata (fdef_at KX G c 14 14) c_chs c_arest
  have c_two : Cal P w K mg base 10 "check_two" (spCheckTwo T K (He.ga K "Shelf")) := ok_check_two (fdef_at KX G c 15 15) S c_chst c_isstem
  have c_lin : Cal P w K mg base 7 "lots_in" (spLotsIn T K (He.ga K "Shelf")) := ok_lots_in (fdef_at KX G c 16 16) S c_size
  have c_more : Cal P w K mg base 8 "more_than" (spMoreThan T K (He.ga K "Shelf")) := ok_more_than (fdef_at KX G c 18 18) c_lin c_many
  have c_strict : Cal P w K mg base 11 "strict" (spStrict T K (He.ga K "Shelf")) := ok_strict (fdef_at KX G c 19 19) B S c_chsts c_more c_stem
  have c_major : Cal P w K mg base 11 "majority" (spMajor T K (He.ga K "Shelf")) := ok_majority (fdef_at KX G c 20 20) B S c_chsts c_more c_stem
  have c_mild : Cal P w K mg base 11 "mild" (spMild T K (He.ga K "Shelf")) := ok_mild (fdef_at KX G c 21 21) B S c_chsts c_lin c_stem c_clash
  have c_far : Cal P w K mg base 11 "far" (spFar T K (He.ga K "Shelf")) := ok_far (fdef_at KX G c 23 23) c_two c_farof
  have c_least : Cal P w K mg base 8 "least_sum" (spLeast T K (He.ga K "Shelf")) := ok_least_sum (fdef_at KX G c 24 24) B c_lin c_many
  have c_near : Cal P w K mg base 11 "nearest" (spNearest T K (He.ga K "Shelf")) := ok_nearest (fdef_at KX G c 25 25) B S c_chsts c_least c_more c_stem
  have c_show : Cal P w K mg base 1 "does_show" (spDoesShow T K) := ok_does_show (fdef_at KX G c 30 30) B
  have c_says : Cal P w K mg base 1 "all_sayings" (spAllSayings T K) := ok_all_sayings (fdef_at KX G c 29 29) B
  have c_shby : Cal P w K mg base 2 "shown_by" (spShownBy T K) := ok_shown_by (fdef_at KX G c 31 31) B c_says c_show
  have c_shown : Cal P w K mg base 10 "shown" (spShown T K (He.ga K "Shelf")) := ok_shown (fdef_at KX G c 32 32) S c_chst c_shby
  have c_chb : Cal P w K mg base 10 "check_both" (spCheckBoth T K (He.ga K "Shelf")) := ok_check_both (fdef_at KX G c 33 33) c_chst
  have c_both : Cal P w K mg base 11 "both" (spBoth T K (He.ga K "Shelf")) := ok_both (fdef_at KX G c 34 34) S Q.stemma c_chb c_stem c_clash
  have c_meet0 : Cal P w K mg base 11 "common" (spMeet T K (He.ga K "Shelf")) := ok_meet (fdef_at KX G c 35 35) S c_chb c_stem
  have c_meet : Cal P w K mg base 11 "common_agreed" (spMeet T K (He.ga K "Shelf")) := c_meet0.alias (agreed_at KX G C)
  have c_parts : Cal P w K mg base 6 "parts_of" (spPartsOf T K) := ok_parts_of (fdefL_at KX G c 11 11 T2 hT2 hu2) B c_within
  have c_pba : Cal P w K mg base 7 "parted_by_all" (spParted T K) := ok_parted_by_all (fdef_at KX G c 26 26) B c_parts
  have c_cml : Cal P w K mg base 21 "common_lots" (spCommonL 12 T K) := ok_common_lots (fdef_at KX G c 27 27) B c_pba c_cut 12
  have c_cm : Cal P w K mg base 22 "common_middles" (spCommon T K (He.ga K "Shelf")) := ok_common (fdef2_at KX G c 28 28) B S c_chsts c_cml c_stem
  have c_name : Cal P w K mg base 1 "is_name" (spIsName T K) := ok_is_name (fdef_at KX G c 0 0) B Q
  have m_found := ok_rd_found (P := P) (w := w) (base := base) (T := T) Rf B
  have m_copy := ok_rd_copy (T := T) Rf B Q c_name
  have m_takes := ok_rd_takes (T := T) Rf Q m_copy
  have rdI := ok_rd_init (P := P) (w := w) (base := base) Rf
  have shI := ok_sh_init (T := T) D Rf rdI B m_takes m_found
  have c_told : Cal P w K mg base 1 "_law_told" (spTold T K) := ok_told (fdef_at KX G c 43 43) B
  have c_text : Cal P w K mg base 1 "_law_text" (spText T K) := ok_text (fdef_at KX G c 42 42)
  have c_take : Cal P w K mg base 1 "_law_take" (spTake T K) := ok_take (fdef_at KX G c 37 37) B
  have c_of : Cal P w K mg base 2 "_law_of" (spOf T K) := ok_of (fdef_at KX G c 38 38) B c_take
  have c_some : Cal P w K mg base 2 "_law_some" (spSome T K) := ok_some (fdef_at KX G c 40 40) B c_take
  have c_names : Cal P w K mg base 3 "_law_names" (spNames T K) := ok_names (fdef_at KX G c 41 41) B c_take c_some
  have c_pot : Cal P w K mg base 1 "_law_pot" (spPot T K) := ok_pot (fdef_at KX G c 36 36) B
  have c_cells : Cal P w K mg base 1 "_law_cells" (spCells T K) := ok_cells (fdef_at KX G c 39 39) B
  have c_grown : Cal P w K mg base 3 "_law_grown" (spGrown T K) := ok_grown (fdef_at KX G c 44 44) B c_take c_some
  have c_stems : Cal P w K mg base 4 "_law_stemmata" (spStems T K) := ok_stemmata (fdef_at KX G c 45 45) B c_take c_of c_grown c_told
  have c_again : Cal P w K mg base 23 "_law_are_again_right" (spAgain T K (He.ga K "Shelf")) := ok_again (fdef_at KX G c 46 46) B c_strict c_major c_mild c_cm c_both
  have c_strR : Cal P w K mg base 12 "_law_is_strict_right" (spStrR T K (He.ga K "Shelf")) := ok_strR (fdef_at KX G c 47 47) B c_far c_meet c_shown c_both
  have c_sums : Cal P w K mg base 23 "_law_are_sums_right" (spSums T K (He.ga K "Shelf")) := ok_sums (fdef_at KX G c 48 48) B c_strict c_major c_mild c_cm c_near c_far
  have c_right : Cal P w K mg base 24 "_law_right" (spRight T K) := ok_right plain (fdef_at KX G c 49 49) B D shI c_take (namesB c_names) c_text (stemsB c_stems) c_strict c_again c_strR c_sums
  exact ok_law FL c_cells c_pot c_right
/-- the law, over what the head told -/
theorem law_at (plain : PlainK) {w : World} {K : Fg} {h : Heap} {mg : Str → Option Value} {fa : Addr} (KX : K.In h) (G : h.Ns mainGlobals mg) (C : Told w h K) (hfa : mg "law" = some (.ref fa)) : LamX.LawAtS PySem.Challenge.rw_copiedfrom_k61_whole_what_several_have_p w K C8.CX0 25 63 "script" mg fa h := by
  have c := C.x.t.d
  obtain ⟨fd, F⟩ := c.def_ 50 (d := dfn "law" "law" s_law) rfl
  have F : FunD K "law" "law" (defArgs s_law) (defBody s_law) (defScope s_law) [] [] (He.ga K "law") fd := F
  have ef : He.ga K "law" = fa := by
    have e := (He.glo_ok KX G (c.fact 50 (f := .glo "law") rfl)).symm.trans hfa
    cases e
    rfl
  rw [ef] at F
  obtain ⟨m1, m⟩ := He.ba (show moreB K = true from C.x.more)
  obtain ⟨m2, _⟩ := He.ba m
  have hne : (He.cT K ("by_size", none)).2 ≠ (He.cT K ("parts_of", none)).2 := of_decide_eq_true m2
  have bnd := FunD.bindsA (ps := ["script"]) F fun _ _ _ _ _ _ us hl => match us, hl with | [_], _ => rfl
  refine ⟨fd, lamDefs.map (He.cT K), spLaw [((He.cT K ("by_size", none)).2, lamQ "by_size"), ((He.cT K ("parts_of", none)).2, lamQ "parts_of")] K, fun p hp => ?_, fun p hp => ?_, fun p hp => ?_, fun s v => bnd s [v] rfl, fun H a ns hl _ hT hS => ?_, fun base _ _ hTB => ?_⟩
  · obtain ⟨d, hd, e⟩ := List.mem_map.mp hp
    rw [← e]
    exact C.x.empty d hd
  · obtain ⟨d, hd, e⟩ := List.mem_map.mp hp
    rw [← e]
    exact C.x.out d hd
  · obtain ⟨d, hd, e⟩ := List.mem_map.mp hp
    rw [← e]
    exact PySem.W.codeHd_of_K KX (C.x.hd d hd)
  · refine ⟨ns, by show ns.length ≤ 1000; omega, ⟨⟨a, ns.map V.int, rfl, hS, dps_ofInts ns⟩, trivial⟩, fun p hp => ?_, fun v H' _ q => is_bool.mp q⟩
    simp only [List.mem_cons, List.not_mem_nil, or_false] at hp
    rcases hp with e | e <;> rw [e]
    · exact LamX.TabS.nil (hT (He.cT K ("by_size", none)) (by simp [lamDefs]))
    · exact LamX.TabS.nil (hT (He.cT K ("parts_of", none)) (by simp [lamDefs]))
  · refine all_ok plain KX G C (hTB (He.cT K ("by_size", none)) (by simp [lamDefs])) (hTB (He.cT K ("parts_of", none)) (by simp [lamDefs])) (by simp) (by simp) (fun p hp z => ?_) (fun p hp z => ?_) F
    · simp only [List.mem_cons, List.not_mem_nil, or_false] at hp
      rcases hp with e | e
      · rw [e]
      · rw [e] at z
        exact absurd z.symm hne
    · simp only [List.mem_cons, List.not_mem_nil, or_false] at hp
      rcases hp with e | e
      · rw [e] at z
        exact absurd z hne
      · rw [e]
end Pg
set_option maxHeartbeats 0
namespace Pg
open PySem PySem.Spec PyProof.Rows L2
def loose0 : List PySem.Str := ["_wall", "BookError", "BadPlaces", "BadShelf", "BadStemma", "BadStemmata", "NoShelf", "LETTERS", "FIGURES_words", "MOST_SIGNS", "is_integer", "is_between", "is_name", "MOST_COPIES", "MOST_PLACES", "MOST_READING", "COPY", "PLACE", "FIGURES_shelves", "Reader", "Shelf", "is_place_of", "shelf_of", "check_shelf", "in_sequence", "is_lot_of", "do_clash", "by_size", "stemma_of", "are_lots"]
def loose1 : List PySem.Str := ["is_stemma_of", "check_stemma", "is_within", "parts_of", "cut_down", "MOST_STEMMATA", "are_stemmata_of", "check_stemmata", "check_two", "lots_in", "many_of", "more_than", "strict", "majority", "mild", "far_of", "far", "least_sum", "nearest", "parted_by_all", "common_lots", "common", "common_middles", "all_sayings", "does_show", "shown_by", "shown", "STEMMA", "CLASH", "check_both"]
def loose2 : List PySem.Str := ["both", "common_agreed", "_law_pot", "_law_take", "_law_of", "_law_cells", "_law_some", "_law_names", "_law_text", "_law_told", "_law_grown", "_law_stemmata", "_law_are_again_right", "_law_is_strict_right", "_law_are_sums_right", "_law_right"]
def looseN : List PySem.Str := loose0 ++ loose1 ++ loose2
abbrev Rw : PySem.W.OpenRow := PySem.W.OpenLaw.row PySem.Challenge.rw_copiedfrom_k61_whole_what_several_have_p
theorem run (w : World) : HandSHeadRun.RunEq Rw (PySem.W.view Rw.prog [85]) hookP obP 20000 looseN w := by
  intro os
  kernel_rfl
end Pg
set_option maxHeartbeats 0
open PySem PySem.W PySem.Calls PyProof.Rows
theorem Pg.holds_of (plain : Pg.PlainK) : PySem.Challenge.rw_copiedfrom_k61_whole_what_several_have_p.Holds := by
  w_on; o_law
  refine HandSHeadRun.head_any (r := Pg.Rw) (q := view Pg.Rw.prog [85]) (H := Pg.hookP) (ob := Pg.obP) (M := 20000) (loose := Pg.looseN) (d := HandSHeadRun.topDef Pg.Rw.prog 85) (kwd := []) Pg.obP_eq
    (by kernel_rfl) (fun s => by kernel_rfl) Pg.run (by kernel_rfl) (by kernel_rfl) (by kernel_rfl) (by rfl) (by first | assumption | decide +kernel) (by decide +kernel) ⟨rfl, rfl, rfl, rfl, rfl, by decide +kernel⟩ ?hw ?hc
  case hw => w_witness2
  case hc =>
    refine LamX.walk_ofTsE (l := PySem.Challenge.rw_copiedfrom_k61_whole_what_several_have_p) (n := 63) (k := 25) (x := "script") (CX := fun _ => C8.CX0) rfl (by decide) (by kernel_rfl) ⟨rfl, by decide, by decide⟩ ?F (fun _ _ _ _ _ z => z)
    intro w mg fa h Y G hmg0
    obtain ⟨K, KX, c⟩ := Y
    have hmg : mg ("law" : PySem.Str) = some (.ref fa) := by
      have e : (HandSHeadRun.topDef Pg.Rw.prog 85).name = ("law" : PySem.Str) := by kernel_rfl
      rw [← e]
      exact hmg0
    exact ⟨K, KX, Pg.law_at plain KX G c hmg⟩
set_option maxHeartbeats 4000000
/-! the plain law: what is sorted, by its members -/
namespace Pg
open PySem PySem.Spec PyProof.Rows L2 Cf NdefX PySem.W
theorem nodup_putU {α : Type} [DecidableEq α] {x : α} {l : List α} (h : l.Nodup) : (putU l x).Nodup := by
  unfold putU
  split
  · exact h
  · rename_i q
    have q : x ∉ l := fun z => q (memb_iff.mpr z)
    rw [List.nodup_append]
    exact ⟨h, by simp, fun a ha b hb e => q (by rw [List.mem_singleton.mp hb] at e; rw [← e]; exact ha)⟩
theorem nodup_uniq {α : Type} [DecidableEq α] (xs : List α) : (uniq xs).Nodup := by
  have : ∀ (xs l : List α), l.Nodup → (xs.foldl putU l).Nodup := by
    intro xs
    induction xs with
    | nil => intro l h; exact h
    | cons x xs ih => intro l h; exact ih _ (nodup_putU h)
  exact this xs [] List.nodup_nil
theorem uniq_id {α : Type} [DecidableEq α] {xs : List α} (h : xs.Nodup) : uniq xs = xs := by
  have : ∀ (xs l : List α), (l ++ xs).Nodup → xs.foldl putU l = l ++ xs := by
    intro xs
    induction xs with
    | nil => intro l _; rw [List.append_nil]; rfl
    | cons x xs ih =>
      intro l h
      rw [List.foldl_cons]
      have hx : x ∉ l := fun z => (List.nodup_append.mp h).2.2 x z x List.mem_cons_self rfl
      have e : putU l x = l ++ [x] := by
        unfold putU
        rw [if_neg (fun z => hx (memb_iff.mp z))]
      rw [e, ih _ (by rw [List.append_assoc]; exact h), List.append_assoc]
      rfl
  exact this xs [] (by simpa using h)
theorem ixOf_inj {cs : List Nm} {c d : Nm} (hc : c ∈ cs) (hd : d ∈ cs) (e : ixOf c cs = ixOf d cs) : c = d := by
  have h1 := (idx_first hc).1
  have h2 := (idx_first hd).1
  rw [e, h2] at h1
  exact (Option.some.inj h1).symm
theorem map_inj_on {α β : Type} {f : α → β} : ∀ {xs ys : List α}, (∀ a ∈ xs, ∀ b ∈ ys, f a = f b → a = b) → xs.map f = ys.map f → xs = ys
  | [], [], _, _ => rfl
  | [], _ :: _, _, h => by cases h
  | _ :: _, [], _, h => by cases h
  | x :: xs, y :: ys, hi, h => by
    rw [List.map_cons, List.map_cons] at h
    injection h with h1 h2
    rw [hi x List.mem_cons_self y List.mem_cons_self h1, map_inj_on (fun a ha b hb => hi a (List.mem_cons_of_mem _ ha) b (List.mem_cons_of_mem _ hb)) h2]
theorem keySz_alike2 (cs : List Nm) (a b : Lot) : alike (keySz cs a) (keySz cs b) = true := by
  have h := alike_ints (a.map fun c => ((ixOf c cs : Nat) : Int)) (b.map fun c => ((ixOf c cs : Nat) : Int))
  unfold keySz
  show alike (.tuple [.int _, .list ((a.map fun c => ((ixOf c cs : Nat) : Int)).map PyData.int)]) (.tuple [.int _, .list ((b.map fun c => ((ixOf c cs : Nat) : Int)).map PyData.int)]) = true
  rw [alike, alikeAll, alikeAll, alike, alike, alikeAll, h] <;> rfl
theorem keySz_inj {cs : List Nm} {a b : Lot} (ha : ∀ c ∈ a, c ∈ cs) (hb : ∀ c ∈ b, c ∈ cs) (e : keyToks (keySz cs a) = keyToks (keySz cs b)) : a = b := by
  have h1 := toks_inj (keySz_alike2 cs a b) e
  have h2 : (PyData.eqv (.int (0 - ((a.length : Nat) : Int))) (.int (0 - ((b.length : Nat) : Int))) && (PyData.eqvAll (encs (a.map fun c => ((ixOf c cs : Nat) : Int))) (encs (b.map fun c => ((ixOf c cs : Nat) : Int))) && true)) = true := h1
  rw [Bool.and_eq_true, Bool.and_eq_true, encs_eqv] at h2
  have h3 := of_decide_eq_true h2.2.1
  refine map_inj_on (fun c hc d hd z => ?_) h3
  exact ixOf_inj (ha c hc) (hb d hd) (by omega)
theorem sort_keyed {α : Type} {k : α → PyData} {us vs : List α} (p : us.Perm vs) (inj : ∀ a ∈ vs, ∀ b ∈ vs, keyToks (k a) = keyToks (k b) → a = b) : us.mergeSort (dataLe false k) = vs.mergeSort (dataLe false k) := by
  have ht := sortLe_total (listOrd itemOrd) false fun b : α => keyToks (k b)
  refine sort_unique ht (sort_pairwise ht us) fun c => ?_
  have pm : (us.mergeSort (dataLe false k)).Perm vs := (List.mergeSort_perm us _).trans p
  refine perm_same (pm.filter _) fun a ha b hb => ?_
  have h1 := (List.mem_filter.mp ha).2
  have h2 := (List.mem_filter.mp hb).2
  unfold sameRank at h1 h2
  rw [Bool.and_eq_true] at h1 h2
  have g1 := ht.trans a c b h1.2 h2.1
  have g2 := ht.trans b c a h2.2 h1.1
  have g1' : (!PyProof.Rows.lexLt itemOrd (keyToks (k b)) (keyToks (k a))) = true := g1
  have g2' : (!PyProof.Rows.lexLt itemOrd (keyToks (k a)) (keyToks (k b))) = true := g2
  rw [Bool.not_eq_true'] at g1' g2'
  exact inj a (List.mem_filter.mp ha).1 b (List.mem_filter.mp hb).1 ((listOrd itemOrd).total _ _ g2' g1')
theorem bySize_nodup (cs : List Nm) (lots : List Lot) : (bySize cs lots).Nodup := by
  unfold bySize
  exact (List.mergeSort_perm _ _).nodup_iff.mpr (nodup_uniq lots)
theorem bySize_canon {cs : List Nm} {A B : List Lot} (hA : ∀ l ∈ A, ∀ c ∈ l, c ∈ cs) (h : ∀ l, l ∈ A ↔ l ∈ B) : bySize cs A = bySize cs B := by
  unfold bySize
  have p : (uniq A).Perm (uniq B) := (List.perm_ext_iff_of_nodup (nodup_uniq A) (nodup_uniq B)).mpr fun l => by rw [mem_uniq, mem_uniq]; exact h l
  refine sort_keyed p fun a ha b hb e => keySz_inj (hA a ?_) (hA b ?_) e
  · rw [mem_uniq] at ha
    exact (h a).mpr ha
  · rw [mem_uniq] at hb
    exact (h b).mpr hb
/-- what is canonical stays so with some left out -/
theorem bySize_sub {cs : List Nm} {st m : List Lot} (h : st = bySize cs st) (s : m.Sublist st) : m = bySize cs m := by
  have ht := sortLe_total (listOrd itemOrd) false fun b : Lot => keyToks (keySz cs b)
  have nd : st.Nodup := by rw [h]; exact bySize_nodup cs st
  have pw : st.Pairwise fun a b => dataLe false (keySz cs) a b = true := by
    rw [h]
    exact sort_pairwise ht (uniq st)
  unfold bySize
  rw [uniq_id (nd.sublist s)]
  exact (List.mergeSort_of_pairwise (pw.sublist s)).symm
theorem mem_stem {cs : List Nm} (h : 2 ≤ cs.length) {lots : List Lot} {l : Lot} : l ∈ stemmaOf cs lots ↔ (l ∈ lots ∧ 1 < l.length) ∨ l = cs := by
  unfold stemmaOf
  rw [mem_bySize, if_pos (decide_eq_true (by omega)), List.mem_append, List.mem_singleton]
  unfold big
  rw [List.mem_filter, decide_eq_true_eq]
  constructor
  · rintro (⟨h1, h2⟩ | e)
    · exact .inl ⟨h1, by omega⟩
    · exact .inr e
  · rintro (⟨h1, h2⟩ | e)
    · exact .inl ⟨h1, by omega⟩
    · exact .inr e
theorem stem_is {cs : List Nm} (h : 2 ≤ cs.length) {lots B : List Lot} (hB : ∀ l ∈ B, ∀ c ∈ l, c ∈ cs) (e : ∀ l, l ∈ B ↔ (l ∈ lots ∧ 1 < l.length) ∨ l = cs) : stemmaOf cs lots = bySize cs B := by
  have h1 : ∀ l, l ∈ stemmaOf cs lots ↔ l ∈ B := fun l => by rw [mem_stem h, e]
  unfold stemmaOf at h1 ⊢
  refine (bySize_canon hB fun l => ?_).symm
  rw [← h1, mem_bySize]
/-! ### counting -/
theorem nodup_len {α : Type} [DecidableEq α] : ∀ {l m : List α}, l.Nodup → (∀ a ∈ l, a ∈ m) → l.length ≤ m.length
  | [], _, _, _ => Nat.zero_le _
  | a :: l, m, nd, h => by
    rw [List.nodup_cons] at nd
    have ha := h a List.mem_cons_self
    have h1 := nodup_len (l := l) (m := m.erase a) nd.2 fun b hb => (List.mem_erase_of_ne fun e => nd.1 (by rw [← e]; exact hb)).mpr (h b (List.mem_cons_of_mem _ hb))
    have h2 := List.length_erase_of_mem ha
    have h3 := List.length_pos_of_mem ha
    rw [List.length_cons]
    omega
theorem nodup_map_on {α β : Type} {f : α → β} : ∀ {l : List α}, l.Nodup → (∀ a ∈ l, ∀ b ∈ l, f a = f b → a = b) → (l.map f).Nodup
  | [], _, _ => List.nodup_nil
  | a :: l, nd, h => by
    rw [List.nodup_cons] at nd
    rw [List.map_cons, List.nodup_cons]
    refine ⟨fun z => ?_, nodup_map_on nd.2 fun b hb c hc => h b (List.mem_cons_of_mem _ hb) c (List.mem_cons_of_mem _ hc)⟩
    obtain ⟨b, hb, e⟩ := List.mem_map.mp z
    exact nd.1 (by rw [← h b (List.mem_cons_of_mem _ hb) a List.mem_cons_self e]; exact hb)
/-! ### lots of some copies -/
structure LotV (cs : List Nm) (l : Lot) : Prop where
  seq : l = inSeq cs l
  two : 1 < l.length
theorem LotV.sub {cs : List Nm} {l : Lot} (h : LotV cs l) {c : Nm} (hc : c ∈ l) : c ∈ cs := by
  rw [h.seq] at hc
  exact (mem_inSeq.mp hc).1
theorem LotV.nd {cs : List Nm} {l : Lot} (h : LotV cs l) (nd : cs.Nodup) : l.Nodup := by
  rw [h.seq]
  exact nd.filter _
theorem inSeq_self (cs : List Nm) : inSeq cs cs = cs := List.filter_eq_self.mpr fun c hc => memb_iff.mpr hc
theorem inSeq_congr {cs a b : List Nm} (h : ∀ c ∈ cs, c ∈ a ↔ c ∈ b) : inSeq cs a = inSeq cs b := by
  show cs.filter _ = cs.filter _
  refine List.filter_congr fun c hc => ?_
  rw [Bool.eq_iff_iff, memb_iff, memb_iff]
  exact h c hc
theorem LotV.ext {cs : List Nm} {a b : Lot} (ha : LotV cs a) (hb : LotV cs b) (h : ∀ c, c ∈ a ↔ c ∈ b) : a = b := by
  rw [ha.seq, hb.seq]
  exact inSeq_congr fun c _ => h c
theorem LotV.len {cs : List Nm} {l : Lot} (h : LotV cs l) : l.length ≤ cs.length := by
  rw [h.seq]
  exact List.length_filter_le _ _
theorem lotV_cs {cs : List Nm} (h : 2 ≤ cs.length) : LotV cs cs := ⟨(inSeq_self cs).symm, h⟩
/-- one within the other, as many: the same -/
theorem LotV.full {cs : List Nm} {a b : Lot} (nd : cs.Nodup) (ha : LotV cs a) (hb : LotV cs b) (h : ∀ c ∈ a, c ∈ b) (hl : b.length ≤ a.length) : a = b := by
  refine ha.ext hb fun c => ⟨h c, fun hc => ?_⟩
  refine Classical.byContradiction fun z => ?_
  have h1 := nodup_len (l := c :: a) (m := b) (List.nodup_cons.mpr ⟨z, ha.nd nd⟩) fun d hd => (List.mem_cons.mp hd).elim (fun e => by rw [e]; exact hc) (h d)
  rw [List.length_cons] at h1
  omega
theorem Lam.symm {a b : Lot} (h : Lam a b) : Lam b a := by
  rcases h with h | h | h
  · exact .inr (.inl h)
  · exact .inl h
  · exact .inr (.inr fun c hc z => h c z hc)
theorem filter_len {a b : Lot} (na : a.Nodup) (nb : b.Nodup) : (a.filter fun c => memb c b).length = (b.filter fun c => memb c a).length := by
  refine List.Perm.length_eq ((List.perm_ext_iff_of_nodup (na.filter _) (nb.filter _)).mpr fun c => ?_)
  rw [List.mem_filter, List.mem_filter, memb_iff, memb_iff]
  exact And.comm
theorem clash_iff {a b : Lot} (na : a.Nodup) (nb : b.Nodup) : clash a b = false ↔ Lam a b := by
  have e : clash a b = false ↔ ¬ (0 < (a.filter fun c => memb c b).length ∧ (a.filter fun c => memb c b).length < min a.length b.length) := by
    unfold clash
    rw [Bool.and_eq_false_iff, decide_eq_false_iff_not, decide_eq_false_iff_not]
    omega
  rw [e]
  have la := List.length_filter_le (fun c => memb c b) a
  have lb := List.length_filter_le (fun c => memb c a) b
  have lab := filter_len na nb
  constructor
  · intro h
    by_cases h0 : (a.filter fun c => memb c b).length = 0
    · refine .inr (.inr fun c hc z => ?_)
      have : c ∈ a.filter fun c => memb c b := List.mem_filter.mpr ⟨hc, memb_iff.mpr z⟩
      rw [List.length_eq_zero_iff.mp h0] at this
      cases this
    · have h1 : a.length ≤ (a.filter fun c => memb c b).length ∨ b.length ≤ (b.filter fun c => memb c a).length := by omega
      rcases h1 with h1 | h1
      · refine .inl fun c hc => ?_
        have := List.filter_eq_self.mp (List.Sublist.eq_of_length_le List.filter_sublist h1) c hc
        exact memb_iff.mp this
      · refine .inr (.inl fun c hc => ?_)
        have := List.filter_eq_self.mp (List.Sublist.eq_of_length_le List.filter_sublist h1) c hc
        exact memb_iff.mp this
  · intro h
    rcases h with h | h | h
    · have : (a.filter fun c => memb c b) = a := List.filter_eq_self.mpr fun c hc => memb_iff.mpr (h c hc)
      rw [this]
      omega
    · have : (b.filter fun c => memb c a) = b := List.filter_eq_self.mpr fun c hc => memb_iff.mpr (h c hc)
      rw [lab, this]
      omega
    · have : (a.filter fun c => memb c b) = [] := List.filter_eq_nil_iff.mpr fun c hc z => h c hc (memb_iff.mp z)
      rw [this, List.length_nil]
      omega
/-! ### STEMMATA by their lots -/
structure St (cs : List Nm) (st : List Lot) : Prop where
  lv : ∀ l ∈ st, LotV cs l
  lam : ∀ a ∈ st, ∀ b ∈ st, Lam a b
  top : cs ∈ st
  can : st = bySize cs st
theorem St.nd {cs : List Nm} {st : List Lot} (h : St cs st) : st.Nodup := by
  rw [h.can]
  exact bySize_nodup cs st
/-- few lots -/
theorem lam_len {cs : List Nm} (nd : cs.Nodup) {F : List Lot} (hF : F.Nodup) (lv : ∀ l ∈ F, LotV cs l) (lam : ∀ a ∈ F, ∀ b ∈ F, Lam a b) : F.length ≤ cs.length * cs.length := by
  have key : ∀ l ∈ F, ∃ c r, l = c :: r := fun l hl => by
    cases l with
    | nil => exact absurd (lv _ hl).two (by simp)
    | cons c r => exact ⟨c, r, rfl⟩
  have h1 : (F.map fun l => (l.headD nmEmpty, l.length)).Nodup := nodup_map_on hF fun a ha b hb e => by
    obtain ⟨c, r, ea⟩ := key a ha
    obtain ⟨d, s, eb⟩ := key b hb
    injection e with e1 e2
    have e1 : c = d := by rw [ea, eb] at e1; exact e1
    have hca : c ∈ a := by rw [ea]; exact List.mem_cons_self
    have hcb : c ∈ b := by rw [eb, e1]; exact List.mem_cons_self
    rcases lam a ha b hb with h | h | h
    · exact (lv a ha).full nd (lv b hb) h (Nat.le_of_eq e2.symm)
    · exact ((lv b hb).full nd (lv a ha) h (Nat.le_of_eq e2)).symm
    · exact absurd hcb (h c hca)
  have h2 := nodup_len (m := cs.flatMap fun c => (List.range cs.length).map fun i => (c, i + 1)) h1 fun q hq => by
    obtain ⟨l, hl, e⟩ := List.mem_map.mp hq
    obtain ⟨c, r, el⟩ := key l hl
    have hc : c ∈ cs := (lv l hl).sub (by rw [el]; exact List.mem_cons_self)
    have hll := (lv l hl).len
    refine List.mem_flatMap.mpr ⟨c, hc, List.mem_map.mpr ⟨l.length - 1, List.mem_range.mpr ?_, ?_⟩⟩
    · have := (lv l hl).two
      omega
    · rw [← e, el]
      rfl
  rw [List.length_map] at h2
  have h3 : (cs.flatMap fun c => (List.range cs.length).map fun i => (c, i + 1)).length = cs.length * cs.length := by
    have : ∀ (xs : List Nm) (n : Nat), (xs.flatMap fun c => (List.range n).map fun i => (c, i + 1)).length = xs.length * n := by
      intro xs n
      induction xs with
      | nil => simp
      | cons x xs ih => rw [List.flatMap_cons, List.length_append, ih, List.length_map, List.length_range, List.length_cons, Nat.succ_mul, Nat.add_comm]
    exact this cs cs.length
  omega
theorem St.few {cs : List Nm} {st : List Lot} (h : St cs st) (nd : cs.Nodup) (hl : cs.length ≤ 8) : st.length ≤ 64 := by
  have h1 := lam_len nd h.nd h.lv h.lam
  have h2 := Nat.mul_le_mul hl hl
  omega
theorem St.two {cs : List Nm} {st : List Lot} (h : St cs st) : 2 ≤ cs.length := (h.lv cs h.top).two
theorem St.self {cs : List Nm} {st : List Lot} (h : St cs st) : stemmaOf cs st = st := by
  rw [stem_is h.two (B := st) (fun l hl c hc => (h.lv l hl).sub hc) fun l => ⟨fun hl => .inl ⟨hl, (h.lv l hl).two⟩, fun z => z.elim (fun q => q.1) fun e => by rw [e]; exact h.top⟩]
  exact h.can.symm
theorem St.stemV {cs : List Nm} {st : List Lot} (h : St cs st) (nd : cs.Nodup) (hl : cs.length ≤ 8) : StemV cs st := by
  have hf := h.few nd hl
  refine ⟨⟨fun l hl => (h.lv l hl).seq, fun l hl => (h.lv l hl).two, ?_, by omega, by omega⟩, h.self.symm⟩
  refine List.Pairwise.imp_of_mem (fun {a b} ha hb _ => (clash_iff ((h.lv a ha).nd nd) ((h.lv b hb).nd nd)).mpr (h.lam a ha b hb)) (List.pairwise_of_forall (R := fun _ _ => True) fun _ _ => trivial)
/-- the STEMMA of lots none of which clash -/
theorem st_of {cs : List Nm} (h2 : 2 ≤ cs.length) {lots : List Lot} (lv : ∀ l ∈ lots, 1 < l.length → l = inSeq cs l) (lam : ∀ a ∈ lots, ∀ b ∈ lots, Lam a b) : St cs (stemmaOf cs lots) := by
  have hm : ∀ l, l ∈ stemmaOf cs lots → LotV cs l := fun l hl => by
    rcases (mem_stem h2).mp hl with ⟨h3, h4⟩ | e
    · exact ⟨lv l h3 h4, h4⟩
    · rw [e]
      exact lotV_cs h2
  refine ⟨hm, fun a ha b hb => ?_, (mem_stem h2).mpr (.inr rfl), ?_⟩
  · rcases (mem_stem h2).mp hb with ⟨h3, _⟩ | e
    · rcases (mem_stem h2).mp ha with ⟨h5, _⟩ | e
      · exact lam a h5 b h3
      · rw [e]
        exact .inr (.inl fun c hc => (hm b hb).sub hc)
    · rw [e]
      exact .inl fun c hc => (hm a ha).sub hc
  · have : stemmaOf cs lots = bySize cs (stemmaOf cs lots) := by
      conv => lhs; unfold stemmaOf
      refine (bySize_canon (fun l hl c hc => (hm l hl).sub hc) fun l => ?_).symm
      conv => lhs; unfold stemmaOf
      rw [mem_bySize]
    exact this
theorem St.ext {cs : List Nm} {a b : List Lot} (ha : St cs a) (hb : St cs b) (h : ∀ l, l ∈ a ↔ l ∈ b) : a = b := by
  rw [ha.can, hb.can]
  exact bySize_canon (fun l hl c hc => (ha.lv l hl).sub hc) h
end Pg
set_option maxHeartbeats 4000000
/-! the plain law: drawn STEMMATA -/
namespace Pg
open PySem PySem.Spec PyProof.Rows L2 Cf NdefX PySem.W
theorem ixOf_at {cs : List Nm} (nd : cs.Nodup) {n : Nat} {c : Nm} (h : cs[n]? = some c) : ixOf c cs = n := by
  have hm := List.mem_of_getElem? h
  obtain ⟨h1, h2⟩ := idx_first hm
  by_cases q : n < ixOf c cs
  · exact absurd h (h2 n q)
  · by_cases z : n = ixOf c cs
    · exact z.symm
    · exfalso
      have l1 := (List.getElem?_eq_some_iff.mp h1).1
      have l2 := (List.getElem?_eq_some_iff.mp h).1
      have e1 := (List.getElem?_eq_some_iff.mp h1).2
      have e2 := (List.getElem?_eq_some_iff.mp h).2
      have := (List.pairwise_iff_getElem.mp nd) (ixOf c cs) n l1 l2 (by omega)
      exact this (e1.trans e2.symm)
theorem spot_ix {cs : List Nm} (nd : cs.Nodup) {c : Nm} (h : c ∈ cs) : spotOf cs c = ((ixOf c cs : Nat) : Int) := by
  obtain ⟨n, e1, e2, _⟩ := spot_pick h
  rw [e1, ixOf_at nd e2]
theorem ix_asc {cs : List Nm} (nd : cs.Nodup) : cs.Pairwise fun a b => ixOf a cs < ixOf b cs := by
  rw [List.pairwise_iff_getElem]
  intro i j hi hj hij
  rw [ixOf_at nd (List.getElem?_eq_getElem hi), ixOf_at nd (List.getElem?_eq_getElem hj)]
  exact hij
theorem inSeq_sub (cs l : List Nm) : (inSeq cs l).Sublist cs := List.filter_sublist
theorem LotV.asc {cs : List Nm} {l : Lot} (h : LotV cs l) (nd : cs.Nodup) : l.Pairwise fun a b => ixOf a cs < ixOf b cs := by
  rw [h.seq]
  exact (ix_asc nd).sublist (inSeq_sub cs l)
theorem line_is {cs : List Nm} {l : Lot} (nd : cs.Nodup) (h : LotV cs l) : lineOf cs l = (0 - ((l.length : Nat) : Int), l.map fun c => ((ixOf c cs : Nat) : Int)) := by
  have e : l.map (spotOf cs) = l.map fun c => ((ixOf c cs : Nat) : Int) := List.map_congr_left fun c hc => spot_ix nd (h.sub hc)
  unfold lineOf
  rw [e]
  congr 1
  have e2 : (dataLe false enc : Int → Int → Bool) = fun a b => decide (a ≤ b) := dataLe_int (β := Int) fun i => i
  rw [e2]
  refine List.mergeSort_of_pairwise (List.pairwise_map.mpr ((h.asc nd).imp fun {a b} q => decide_eq_true ?_))
  show ((ixOf a cs : Nat) : Int) ≤ ((ixOf b cs : Nat) : Int)
  omega
theorem line_key {cs : List Nm} {l : Lot} (nd : cs.Nodup) (h : LotV cs l) : keyToks (enc (lineOf cs l)) = keyToks (keySz cs l) := by
  rw [line_is nd h]
  rfl
theorem out_line {cs : List Nm} {l : Lot} (nd : cs.Nodup) (h : LotV cs l) : outOf cs (lineOf cs l) = l := by
  rw [line_is nd h]
  show (l.map fun c => ((ixOf c cs : Nat) : Int)).map (pick cs) = l
  rw [List.map_map]
  have e : l.map (pick cs ∘ fun c => ((ixOf c cs : Nat) : Int)) = l.map id := List.map_congr_left fun c hc => by
    show pick cs ((ixOf c cs : Nat) : Int) = c
    unfold pick
    rw [Int.toNat_natCast, (idx_first (h.sub hc)).1]
    rfl
  rw [e, List.map_id]
/-- a drawn STEMMA by its lots -/
theorem told_st {cs : List Nm} {ls : List Lot} (nd : cs.Nodup) (h2 : 2 ≤ cs.length) (g : GrownOk cs ls) : St cs (toldOf cs ls) := by
  have hB : ∀ l ∈ (ls ++ [cs]).filter isBig, LotV cs l := fun l hl => by
    rcases List.mem_append.mp (List.mem_filter.mp hl).1 with z | z
    · exact ⟨(g.fe l z).2, (g.fe l z).1⟩
    · rw [List.mem_singleton.mp z]
      exact lotV_cs h2
  obtain ⟨B, hBe⟩ : ∃ B, B = (ls ++ [cs]).filter isBig := ⟨_, rfl⟩
  rw [← hBe] at hB
  obtain ⟨M, hM⟩ : ∃ M, M = (uniq (B.map (lineOf cs))).mergeSort (dataLe false enc) := ⟨_, rfl⟩
  have hmem : ∀ q, q ∈ M ↔ ∃ l ∈ B, lineOf cs l = q := fun q => by
    rw [hM, List.mem_mergeSort, mem_uniq, List.mem_map]
  have htold : toldOf cs ls = M.map (outOf cs) := by
    unfold toldOf linesOf
    rw [← hBe, ← hM]
  have hR : ∀ l, l ∈ M.map (outOf cs) ↔ l ∈ B := fun l => by
    rw [List.mem_map]
    constructor
    · rintro ⟨q, hq, e⟩
      obtain ⟨m, hm, rfl⟩ := (hmem q).mp hq
      rw [out_line nd (hB m hm)] at e
      rw [← e]
      exact hm
    · intro hl
      exact ⟨lineOf cs l, (hmem _).mpr ⟨l, hl, rfl⟩, out_line nd (hB l hl)⟩
  have ht := sortLe_total (listOrd itemOrd) false fun b : Int × List Int => keyToks (enc b)
  have hMn : M.Nodup := by
    rw [hM]
    exact (List.mergeSort_perm _ _).nodup_iff.mpr (nodup_uniq _)
  have hMp : M.Pairwise fun a b => dataLe false enc a b = true := by
    rw [hM]
    exact sort_pairwise ht _
  have hRn : (M.map (outOf cs)).Nodup := nodup_map_on hMn fun a ha b hb e => by
    obtain ⟨l, hl, rfl⟩ := (hmem a).mp ha
    obtain ⟨m, hm, rfl⟩ := (hmem b).mp hb
    rw [out_line nd (hB l hl), out_line nd (hB m hm)] at e
    rw [e]
  have hRp : (M.map (outOf cs)).Pairwise fun a b => dataLe false (keySz cs) a b = true := by
    refine List.pairwise_map.mpr (List.Pairwise.imp_of_mem (fun {a b} ha hb q => ?_) hMp)
    obtain ⟨l, hl, rfl⟩ := (hmem a).mp ha
    obtain ⟨m, hm, rfl⟩ := (hmem b).mp hb
    rw [out_line nd (hB l hl), out_line nd (hB m hm)]
    have q : (!PyProof.Rows.lexLt itemOrd (keyToks (enc (lineOf cs m))) (keyToks (enc (lineOf cs l)))) = true := q
    rw [line_key nd (hB l hl), line_key nd (hB m hm)] at q
    exact q
  have hcan : M.map (outOf cs) = bySize cs (M.map (outOf cs)) := by
    unfold bySize
    rw [uniq_id hRn]
    exact (List.mergeSort_of_pairwise hRp).symm
  rw [htold]
  refine ⟨fun l hl => hB l ((hR l).mp hl), fun a ha b hb => ?_, (hR cs).mpr ?_, hcan⟩
  · have la := (hR a).mp ha
    have lb := (hR b).mp hb
    have va := hB a la
    have vb := hB b lb
    rw [hBe] at la lb
    rcases List.mem_append.mp (List.mem_filter.mp lb).1 with z | z
    · rcases List.mem_append.mp (List.mem_filter.mp la).1 with y | y
      · exact g.lam a y b z
      · rw [List.mem_singleton.mp y]
        exact .inr (.inl fun c hc => vb.sub hc)
    · rw [List.mem_singleton.mp z]
      exact .inl fun c hc => va.sub hc
  · rw [hBe]
    refine List.mem_filter.mpr ⟨List.mem_append_right _ (List.mem_singleton.mpr rfl), decide_eq_true ?_⟩
    omega
theorem drawn_st {cs : List Nm} {st : List Lot} (nd : cs.Nodup) (h2 : 2 ≤ cs.length) (h : Drawn cs st) : St cs st := by
  obtain ⟨ls, g, e⟩ := h
  rw [e]
  exact told_st nd h2 g
/-! ### STEMMATA -/
structure Sts (cs : List Nm) (ss : List (List Lot)) : Prop where
  nd : cs.Nodup
  n8 : cs.length ≤ 8
  ne : 0 < ss.length
  few : ss.length ≤ 9
  all : ∀ st ∈ ss, St cs st
section
variable {cs : List Nm} {ss : List (List Lot)}
theorem Sts.two (h : Sts cs ss) : 2 ≤ cs.length := by
  obtain ⟨st, hs⟩ := List.exists_mem_of_length_pos h.ne
  exact (h.all st hs).two
theorem Sts.mid (h : Sts cs ss) : MidV cs ss := ⟨⟨h.ne, h.few, fun st hs => (h.all st hs).stemV h.nd h.n8⟩, fun st hs => by
  have := (h.all st hs).few h.nd h.n8
  omega⟩
theorem Sts.lv (h : Sts cs ss) {l : Lot} (hl : l ∈ ss.flatten) : LotV cs l := by
  obtain ⟨st, h1, h2⟩ := List.mem_flatten.mp hl
  exact (h.all st h1).lv l h2
theorem Sts.top (h : Sts cs ss) : cs ∈ ss.flatten := by
  obtain ⟨st, hs⟩ := List.exists_mem_of_length_pos h.ne
  exact List.mem_flatten.mpr ⟨st, hs, (h.all st hs).top⟩
theorem mem_lotsIn {l : Lot} : l ∈ lotsIn cs ss ↔ l ∈ ss.flatten := by
  unfold lotsIn
  exact mem_bySize
theorem mem_moreThan {part : Int} {l : Lot} : l ∈ moreThan cs ss part ↔ l ∈ ss.flatten ∧ part < 2 * ((manyOf ss l : Nat) : Int) := by
  unfold moreThan
  rw [List.mem_filter, mem_lotsIn, decide_eq_true_eq]
theorem many_all {l : Lot} : manyOf ss l = ss.length ↔ ∀ st ∈ ss, l ∈ st := by
  unfold manyOf
  constructor
  · intro h st hs
    have := List.filter_eq_self.mp (List.Sublist.eq_of_length_le List.filter_sublist (Nat.le_of_eq h.symm)) st hs
    exact memb_iff.mp this
  · intro h
    rw [List.filter_eq_self.mpr fun st hs => memb_iff.mpr (h st hs)]
theorem Sts.many_top (h : Sts cs ss) : manyOf ss cs = ss.length := many_all.mpr fun st hs => (h.all st hs).top
theorem Sts.flat_of (h : Sts cs ss) {l : Lot} (hl : 0 < manyOf ss l) : l ∈ ss.flatten := by
  obtain ⟨st, hs⟩ := List.exists_mem_of_length_pos hl
  have := List.mem_filter.mp hs
  exact List.mem_flatten.mpr ⟨st, this.1, memb_iff.mp this.2⟩
theorem Sts.mem_middle (h : Sts cs ss) {part : Int} (hp : part < 2 * ((ss.length : Nat) : Int)) {l : Lot} : l ∈ middle cs ss part ↔ l ∈ ss.flatten ∧ part < 2 * ((manyOf ss l : Nat) : Int) := by
  unfold middle
  rw [mem_stem h.two, mem_moreThan]
  constructor
  · rintro (⟨h1, _⟩ | e)
    · exact h1
    · rw [e, h.many_top]
      exact ⟨h.top, hp⟩
  · intro h1
    exact .inl ⟨h1, (h.lv h1.1).two⟩
theorem Sts.mem_strict (h : Sts cs ss) {l : Lot} : l ∈ strictOf cs ss ↔ ∀ st ∈ ss, l ∈ st := by
  have hne := h.ne
  unfold strictOf
  rw [h.mem_middle (by omega), ← many_all]
  have := manyOf_le ss l
  constructor
  · rintro ⟨_, h2⟩
    omega
  · intro e
    exact ⟨h.flat_of (by omega), by omega⟩
theorem Sts.mem_major (h : Sts cs ss) {l : Lot} : l ∈ majorOf cs ss ↔ ss.length < 2 * manyOf ss l := by
  have hne := h.ne
  unfold majorOf
  rw [h.mem_middle (by omega)]
  constructor
  · rintro ⟨_, h2⟩
    omega
  · intro e
    exact ⟨h.flat_of (by omega), by omega⟩
theorem Sts.clash_iff (h : Sts cs ss) {a b : Lot} (ha : a ∈ ss.flatten) (hb : b ∈ ss.flatten) : clash a b = false ↔ Lam a b := Pg.clash_iff ((h.lv ha).nd h.nd) ((h.lv hb).nd h.nd)
theorem Sts.mem_mild (h : Sts cs ss) {l : Lot} : l ∈ mildOf cs ss ↔ l ∈ ss.flatten ∧ ∀ b ∈ ss.flatten, Lam l b := by
  have hc : l ∈ calm (lotsIn cs ss) ↔ l ∈ ss.flatten ∧ ∀ b ∈ ss.flatten, Lam l b := by
    unfold calm
    rw [List.mem_filter, mem_lotsIn]
    refine and_congr_right fun hl => ?_
    rw [Bool.not_eq_true', List.any_eq_false]
    constructor
    · intro q b hb
      exact (h.clash_iff hl hb).mp (by simpa using q b (mem_lotsIn.mpr hb))
    · intro q b hb
      rw [(h.clash_iff hl (mem_lotsIn.mp hb)).mpr (q b (mem_lotsIn.mp hb))]
      exact Bool.false_ne_true
  unfold mildOf
  rw [mem_stem h.two, hc]
  constructor
  · rintro (⟨h1, _⟩ | e)
    · exact h1
    · rw [e]
      exact ⟨h.top, fun b hb => .inr (.inl fun c hc => (h.lv hb).sub hc)⟩
  · intro h1
    exact .inl ⟨h1, (h.lv h1.1).two⟩
theorem many_two {a b : Lot} : ∀ {ss : List (List Lot)}, ss.length < manyOf ss a + manyOf ss b → ∃ st ∈ ss, a ∈ st ∧ b ∈ st
  | [], h => by simp [manyOf] at h
  | st :: ss, h => by
    by_cases ha : a ∈ st
    · by_cases hb : b ∈ st
      · exact ⟨st, List.mem_cons_self, ha, hb⟩
      · have ea : manyOf (st :: ss) a = manyOf ss a + 1 := by unfold manyOf; rw [List.filter_cons_of_pos (memb_iff.mpr ha), List.length_cons]
        have eb : manyOf (st :: ss) b = manyOf ss b := by unfold manyOf; rw [List.filter_cons_of_neg (by rw [memb_iff]; exact hb)]
        rw [ea, eb, List.length_cons] at h
        obtain ⟨s, h1, h2⟩ := many_two (ss := ss) (a := a) (b := b) (by omega)
        exact ⟨s, List.mem_cons_of_mem _ h1, h2⟩
    · have ea : manyOf (st :: ss) a = manyOf ss a := by unfold manyOf; rw [List.filter_cons_of_neg (by rw [memb_iff]; exact ha)]
      have eb : manyOf (st :: ss) b ≤ manyOf ss b + 1 := by
        unfold manyOf
        rw [List.filter_cons]
        split
        · exact Nat.le_refl _
        · exact Nat.le_succ _
      rw [ea, List.length_cons] at h
      obtain ⟨s, h1, h2⟩ := many_two (ss := ss) (a := a) (b := b) (by omega)
      exact ⟨s, List.mem_cons_of_mem _ h1, h2⟩
theorem many_snoc (ss : List (List Lot)) (st : List Lot) (l : Lot) : manyOf (ss ++ [st]) l = manyOf ss l + if l ∈ st then 1 else 0 := by
  unfold manyOf
  rw [List.filter_append, List.length_append]
  by_cases h : l ∈ st
  · rw [if_pos h, List.filter_cons_of_pos (memb_iff.mpr h)]
    rfl
  · rw [if_neg h, List.filter_cons_of_neg (by rw [memb_iff]; exact h)]
    rfl
theorem Sts.st_strict (h : Sts cs ss) : St cs (strictOf cs ss) := by
  refine st_of h.two (fun l hl _ => (h.lv (mem_moreThan.mp hl).1).seq) fun a ha b hb => ?_
  have hne := h.ne
  have h1 := (mem_moreThan.mp ha).2
  have h2 := (mem_moreThan.mp hb).2
  obtain ⟨st, h3, h4, h5⟩ := many_two (ss := ss) (a := a) (b := b) (by omega)
  exact (h.all st h3).lam a h4 b h5
theorem Sts.st_major (h : Sts cs ss) : St cs (majorOf cs ss) := by
  refine st_of h.two (fun l hl _ => (h.lv (mem_moreThan.mp hl).1).seq) fun a ha b hb => ?_
  have h1 := (mem_moreThan.mp ha).2
  have h2 := (mem_moreThan.mp hb).2
  obtain ⟨st, h3, h4, h5⟩ := many_two (ss := ss) (a := a) (b := b) (by omega)
  exact (h.all st h3).lam a h4 b h5
theorem Sts.st_mild (h : Sts cs ss) : St cs (mildOf cs ss) := by
  have hc : ∀ l ∈ calm (lotsIn cs ss), l ∈ ss.flatten ∧ l ∈ mildOf cs ss := fun l hl => by
    have h1 := mem_lotsIn.mp (List.mem_filter.mp hl).1
    exact ⟨h1, (mem_stem h.two).mpr (.inl ⟨hl, (h.lv h1).two⟩)⟩
  exact st_of h.two (fun l hl _ => (h.lv (hc l hl).1).seq) fun a ha b hb => (h.mem_mild.mp (hc a ha).2).2 b (hc b hb).1
/-- one more -/
theorem Sts.snoc (h : Sts cs ss) (h8 : ss.length ≤ 8) {st : List Lot} (hs : St cs st) : Sts cs (ss ++ [st]) :=
  ⟨h.nd, h.n8, by rw [List.length_append, List.length_singleton]; omega, by rw [List.length_append, List.length_singleton]; omega, fun s hm => by
    rcases List.mem_append.mp hm with z | z
    · exact h.all s z
    · rw [List.mem_singleton.mp z]
      exact hs⟩
theorem mem_flat_snoc {l : Lot} {st : List Lot} : l ∈ (ss ++ [st]).flatten ↔ l ∈ ss.flatten ∨ l ∈ st := by
  rw [List.flatten_append, List.mem_append, List.flatten_singleton]
theorem Sts.strict_again (h : Sts cs ss) (h8 : ss.length ≤ 8) : strictOf cs (ss ++ [strictOf cs ss]) = strictOf cs ss := by
  have h' := h.snoc h8 h.st_strict
  refine h'.st_strict.ext h.st_strict fun l => ?_
  rw [h'.mem_strict]
  constructor
  · intro q
    exact q _ (List.mem_append_right _ (List.mem_singleton.mpr rfl))
  · intro q st hs
    rcases List.mem_append.mp hs with z | z
    · exact h.mem_strict.mp q st z
    · rw [List.mem_singleton.mp z]
      exact q
theorem Sts.major_again (h : Sts cs ss) (h8 : ss.length ≤ 8) : majorOf cs (ss ++ [majorOf cs ss]) = majorOf cs ss := by
  have h' := h.snoc h8 h.st_major
  refine h'.st_major.ext h.st_major fun l => ?_
  rw [h'.mem_major, many_snoc, List.length_append, List.length_singleton]
  by_cases q : l ∈ majorOf cs ss
  · rw [if_pos q]
    have := h.mem_major.mp q
    exact ⟨fun _ => q, fun _ => by omega⟩
  · rw [if_neg q]
    have : ¬ ss.length < 2 * manyOf ss l := fun z => q (h.mem_major.mpr z)
    exact ⟨fun z => by omega, fun z => absurd z q⟩
theorem Sts.mild_again (h : Sts cs ss) (h8 : ss.length ≤ 8) : mildOf cs (ss ++ [mildOf cs ss]) = mildOf cs ss := by
  have h' := h.snoc h8 h.st_mild
  have hf : ∀ l, l ∈ (ss ++ [mildOf cs ss]).flatten ↔ l ∈ ss.flatten := fun l => by
    rw [mem_flat_snoc]
    exact ⟨fun z => z.elim id fun q => (h.mem_mild.mp q).1, .inl⟩
  refine h'.st_mild.ext h.st_mild fun l => ?_
  rw [h'.mem_mild, h.mem_mild, hf]
  exact and_congr_right fun _ => ⟨fun q b hb => q b ((hf b).mpr hb), fun q b hb => q b ((hf b).mp hb)⟩
theorem Sts.strict_flat (h : Sts cs ss) {l : Lot} (hl : l ∈ strictOf cs ss) : l ∈ ss.flatten := by
  obtain ⟨st, hs⟩ := List.exists_mem_of_length_pos h.ne
  exact List.mem_flatten.mpr ⟨st, hs, h.mem_strict.mp hl st hs⟩
theorem Sts.strict_major (h : Sts cs ss) {l : Lot} (hl : l ∈ strictOf cs ss) : l ∈ majorOf cs ss := by
  rw [h.mem_major, many_all.mpr (h.mem_strict.mp hl)]
  have := h.ne
  omega
theorem Sts.strict_mild (h : Sts cs ss) {l : Lot} (hl : l ∈ strictOf cs ss) : l ∈ mildOf cs ss := by
  rw [h.mem_mild]
  refine ⟨h.strict_flat hl, fun b hb => ?_⟩
  obtain ⟨st, h1, h2⟩ := List.mem_flatten.mp hb
  exact (h.all st h1).lam l (h.mem_strict.mp hl st h1) b h2
theorem Sts.major_flat (h : Sts cs ss) {l : Lot} (hl : l ∈ majorOf cs ss) : l ∈ ss.flatten := by
  have := h.mem_major.mp hl
  exact h.flat_of (by omega)
theorem Sts.low (h : Sts cs ss) {s0 : List Lot} (h0 : ss[0]? = some s0) : strictOf cs ss = s0.filter fun lot => ss.all fun st => memb lot st := by
  have hm := List.mem_of_getElem? h0
  have hs := h.all s0 hm
  rw [h.st_strict.can, bySize_sub hs.can (List.filter_sublist (p := fun lot => ss.all fun st => memb lot st))]
  refine bySize_canon (fun l hl c hc => (h.st_strict.lv l hl).sub hc) fun l => ?_
  rw [h.mem_strict, List.mem_filter, List.all_eq_true]
  constructor
  · intro q
    exact ⟨q s0 hm, fun st hst => memb_iff.mpr (q st hst)⟩
  · rintro ⟨_, q⟩ st hst
    exact memb_iff.mp (q st hst)
/-! ### strict against each -/
theorem filter_add {α : Type} (p : α → Bool) : ∀ l : List α, (l.filter p).length + (l.filter fun a => !p a).length = l.length
  | [] => rfl
  | a :: l => by
    have ih := filter_add p l
    by_cases h : p a = true
    · rw [List.filter_cons_of_pos h, List.filter_cons_of_neg (by rw [h]; decide), List.length_cons, List.length_cons]
      omega
    · rw [List.filter_cons_of_neg h, List.filter_cons_of_pos (by rw [Bool.not_eq_true', Bool.not_eq_true] at *; exact h), List.length_cons, List.length_cons]
      omega
theorem far_sub {low st : List Lot} (nl : low.Nodup) (ns : st.Nodup) (h : ∀ l ∈ low, l ∈ st) : ((farOf low st : Nat) : Int) = ((st.length : Nat) : Int) - ((low.length : Nat) : Int) := by
  unfold farOf
  rw [List.filter_eq_nil_iff.mpr fun l hl => by rw [Bool.not_eq_true', memb_iff.mpr (h l hl)]; exact fun z => by cases z]
  have h1 := filter_add (fun l => memb l low) st
  have h2 : (st.filter fun l => memb l low).length = low.length := by
    refine List.Perm.length_eq ((List.perm_ext_iff_of_nodup (ns.filter _) nl).mpr fun l => ?_)
    rw [List.mem_filter, memb_iff]
    exact ⟨fun q => q.2, fun q => ⟨h l q, q⟩⟩
  rw [List.length_nil]
  omega
theorem shown_sub {low st : List Lot} (h : ∀ l ∈ low, l ∈ st) : ∀ s ∈ shownBy cs low, s ∈ shownBy cs st := fun s hs => by
  unfold shownBy at hs ⊢
  rw [List.mem_filter] at hs ⊢
  obtain ⟨h1, h2⟩ := hs
  refine ⟨h1, ?_⟩
  obtain ⟨a, b, c, rfl⟩ := sayings_three h1
  have h2 : (low.any fun lot => memb a lot && (memb b lot && !memb c lot)) = true := h2
  show (st.any fun lot => memb a lot && (memb b lot && !memb c lot)) = true
  obtain ⟨l, hl, q⟩ := List.any_eq_true.mp h2
  exact List.any_eq_true.mpr ⟨l, h l hl, q⟩
theorem Sts.strV (h : Sts cs ss) : StrV cs ss (strictOf cs ss) := by
  have hl := h.st_strict
  have n8 := h.n8
  have hlf := hl.few h.nd n8
  refine ⟨by have := h.few; omega, by omega, hl.stemV h.nd n8, by omega, fun st hs => ?_⟩
  have hst := h.all st hs
  have hsf := hst.few h.nd n8
  have sub : ∀ l ∈ strictOf cs ss, l ∈ st := fun l q => h.mem_strict.mp q st hs
  refine ⟨hst.stemV h.nd n8, by omega, far_sub hl.nd hst.nd sub, ?_, shown_sub sub, fun a ha b hb => (Pg.clash_iff ((hl.lv a ha).nd h.nd) ((hst.lv b hb).nd h.nd)).mpr (hst.lam a (sub a ha) b hb), ?_⟩
  · unfold meetOf
    rw [List.filter_eq_self.mpr fun l q => memb_iff.mpr (sub l q)]
    exact hl.self
  · unfold joinOf
    rw [stem_is h.two (B := st) (fun l hl c hc => (hst.lv l hl).sub hc) fun l => ?_]
    · exact hst.can.symm
    · rw [List.mem_append]
      constructor
      · intro q
        exact .inl ⟨.inr q, (hst.lv l q).two⟩
      · rintro (⟨q | q, _⟩ | e)
        · exact sub l q
        · exact q
        · rw [e]
          exact hst.top
end
end Pg
set_option maxHeartbeats 4000000
/-! the plain law: sums -/
namespace Pg
open PySem PySem.Spec PyProof.Rows L2 Cf NdefX PySem.W
def sumN {α : Type} (f : α → Nat) : List α → Nat
  | [] => 0
  | a :: l => f a + sumN f l
section
variable {α β : Type} {f g : α → Nat}
theorem sumN_cast (f : α → Nat) : ∀ l : List α, (l.map fun a => ((f a : Nat) : Int)).sum = ((sumN f l : Nat) : Int)
  | [] => rfl
  | a :: l => by
    rw [List.map_cons, List.sum_cons, sumN_cast f l]
    show _ = (((f a + sumN f l : Nat)) : Int)
    omega
theorem sumN_le : ∀ {l : List α}, (∀ a ∈ l, f a ≤ g a) → sumN f l ≤ sumN g l
  | [], _ => Nat.le_refl _
  | a :: l, h => Nat.add_le_add (h a List.mem_cons_self) (sumN_le fun b hb => h b (List.mem_cons_of_mem _ hb))
theorem sumN_congr {l : List α} (h : ∀ a ∈ l, f a = g a) : sumN f l = sumN g l := Nat.le_antisymm (sumN_le fun a ha => Nat.le_of_eq (h a ha)) (sumN_le fun a ha => Nat.le_of_eq (h a ha).symm)
theorem sumN_add (f g : α → Nat) : ∀ l : List α, sumN (fun a => f a + g a) l = sumN f l + sumN g l
  | [] => rfl
  | a :: l => by
    show f a + g a + sumN _ l = f a + sumN f l + (g a + sumN g l)
    rw [sumN_add f g l]
    omega
theorem sumN_perm {l m : List α} (p : l.Perm m) : sumN f l = sumN f m := by
  induction p with
  | nil => rfl
  | cons x _ ih => exact congrArg (f x + ·) ih
  | swap x y l => exact Nat.add_left_comm _ _ _
  | trans _ _ h1 h2 => exact h1.trans h2
theorem sumN_sub {l m : List α} (p : l.Sublist m) : sumN f l ≤ sumN f m := by
  induction p with
  | slnil => exact Nat.le_refl _
  | cons x _ ih => exact Nat.le_trans ih (Nat.le_add_left _ _)
  | cons_cons x _ ih => exact Nat.add_le_add_left ih _
theorem sumN_filter (p : α → Bool) (f : α → Nat) : ∀ l : List α, sumN f (l.filter p) = sumN (fun a => if p a = true then f a else 0) l
  | [] => rfl
  | a :: l => by
    show _ = (if p a = true then f a else 0) + sumN _ l
    rw [← sumN_filter p f l]
    by_cases h : p a = true
    · rw [List.filter_cons_of_pos h, if_pos h]
      rfl
    · rw [List.filter_cons_of_neg h, if_neg h, Nat.zero_add]
theorem len_sum (p : α → Bool) (l : List α) : (l.filter p).length = sumN (fun a => if p a = true then 1 else 0) l := by
  rw [← sumN_filter p (fun _ => 1)]
  induction l.filter p with
  | nil => rfl
  | cons a l ih =>
    rw [List.length_cons, ih]
    show _ = 1 + sumN _ l
    omega
theorem sumN_zero : ∀ l : List α, sumN (fun _ => 0) l = 0
  | [] => rfl
  | a :: l => by
    show 0 + sumN _ l = 0
    rw [sumN_zero l]
/-- counted either way -/
theorem swap_sum (q : α → β → Bool) (U : List β) : ∀ ss : List α, sumN (fun o => (U.filter (q o)).length) ss = sumN (fun l => (ss.filter fun o => q o l).length) U
  | [] => (sumN_zero U).symm
  | o :: ss => by
    show (U.filter (q o)).length + sumN _ ss = _
    rw [swap_sum q U ss, len_sum, ← sumN_add]
    refine sumN_congr fun l _ => ?_
    rw [List.filter_cons]
    by_cases h : q o l = true
    · rw [if_pos h, if_pos h, List.length_cons]
      omega
    · rw [if_neg h, if_neg h, Nat.zero_add]
end
section
variable {cs : List Nm} {ss : List (List Lot)}
abbrev cost (ss : List (List Lot)) (l : Lot) : Nat := min (manyOf ss l) (ss.length - manyOf ss l)
theorem least_is : leastSum cs ss = ((sumN (cost ss) (lotsIn cs ss) : Nat) : Int) := by
  unfold leastSum
  rw [List.map_map, ← sumN_cast]
  refine congrArg List.sum (List.map_congr_left fun l _ => ?_)
  have := manyOf_le ss l
  show min ((manyOf ss l : Nat) : Int) (((ss.length : Nat) : Int) - ((manyOf ss l : Nat) : Int)) = (((min (manyOf ss l) (ss.length - manyOf ss l) : Nat)) : Int)
  omega
theorem not_many (l : Lot) : (ss.filter fun o => !memb l o).length = ss.length - manyOf ss l := by
  have := filter_add (fun o => memb l o) ss
  unfold manyOf
  omega
/-- how far one is from all of them -/
theorem Sts.far_sum (h : Sts cs ss) {one : List Lot} : sumN (farOf one) ss = sumN (fun l => ss.length - manyOf ss l) one + sumN (fun l => if memb l one = true then 0 else manyOf ss l) (lotsIn cs ss) := by
  have hU : (lotsIn cs ss).Nodup := bySize_nodup cs _
  have e1 : sumN (farOf one) ss = sumN (fun o => (one.filter fun l => !memb l o).length) ss + sumN (fun o => (o.filter fun l => !memb l one).length) ss := sumN_add _ _ ss
  rw [e1, swap_sum (fun (o : List Lot) (l : Lot) => !memb l o) one ss, sumN_congr (l := one) (fun l _ => not_many l)]
  congr 1
  rw [sumN_congr (l := ss) (g := fun o => ((lotsIn cs ss).filter fun l => memb l o && !memb l one).length) fun o ho => ?_, swap_sum (fun (o : List Lot) (l : Lot) => memb l o && !memb l one) (lotsIn cs ss) ss]
  · refine sumN_congr fun l _ => ?_
    by_cases q : memb l one = true
    · rw [if_pos q, List.filter_eq_nil_iff.mpr fun o _ => by rw [q]; simp]
      rfl
    · rw [if_neg q]
      unfold manyOf
      refine congrArg List.length (List.filter_congr fun o _ => ?_)
      rw [Bool.not_eq_true] at q
      rw [q]
      simp
  · refine List.Perm.length_eq ((List.perm_ext_iff_of_nodup ((h.all o ho).nd.filter _) (hU.filter _)).mpr fun l => ?_)
    rw [List.mem_filter, List.mem_filter, Bool.and_eq_true, memb_iff, mem_lotsIn]
    exact ⟨fun ⟨q1, q2⟩ => ⟨List.mem_flatten.mpr ⟨o, ho, q1⟩, q1, q2⟩, fun ⟨_, q1, q2⟩ => ⟨q1, q2⟩⟩
theorem Sts.far_low (h : Sts cs ss) {one : List Lot} (hn : one.Nodup) : leastSum cs ss ≤ (ss.map fun o => ((farOf one o : Nat) : Int)).sum := by
  have hU : (lotsIn cs ss).Nodup := bySize_nodup cs _
  rw [least_is, sumN_cast, h.far_sum]
  have e1 : sumN (fun l => if memb l one = true then ss.length - manyOf ss l else 0) (lotsIn cs ss) ≤ sumN (fun l => ss.length - manyOf ss l) one := by
    rw [← sumN_filter (fun l => memb l one) (fun l => ss.length - manyOf ss l)]
    have p : ((lotsIn cs ss).filter fun l => memb l one).Perm (one.filter fun l => memb l (lotsIn cs ss)) := (List.perm_ext_iff_of_nodup (hU.filter _) (hn.filter _)).mpr fun l => by
      rw [List.mem_filter, List.mem_filter, memb_iff, memb_iff]
      exact And.comm
    rw [sumN_perm p]
    exact sumN_sub List.filter_sublist
  have e2 : sumN (cost ss) (lotsIn cs ss) ≤ sumN (fun l => if memb l one = true then ss.length - manyOf ss l else 0) (lotsIn cs ss) + sumN (fun l => if memb l one = true then 0 else manyOf ss l) (lotsIn cs ss) := by
    rw [← sumN_add]
    refine sumN_le fun l _ => ?_
    show min (manyOf ss l) (ss.length - manyOf ss l) ≤ (if memb l one = true then ss.length - manyOf ss l else 0) + if memb l one = true then 0 else manyOf ss l
    split <;> omega
  omega
theorem Sts.far_major (h : Sts cs ss) : (ss.map fun o => ((farOf (majorOf cs ss) o : Nat) : Int)).sum = leastSum cs ss := by
  have hU : (lotsIn cs ss).Nodup := bySize_nodup cs _
  rw [least_is, sumN_cast, h.far_sum]
  have hn := h.st_major.nd
  have p : ((lotsIn cs ss).filter fun l => memb l (majorOf cs ss)).Perm (majorOf cs ss) := (List.perm_ext_iff_of_nodup (hU.filter _) hn).mpr fun l => by
    rw [List.mem_filter, memb_iff, mem_lotsIn]
    exact ⟨fun q => q.2, fun q => ⟨h.major_flat q, q⟩⟩
  rw [← sumN_perm p, sumN_filter, ← sumN_add]
  refine congrArg (fun n : Nat => (n : Int)) (sumN_congr fun l _ => ?_)
  have hm := manyOf_le ss l
  show ((if memb l (majorOf cs ss) = true then ss.length - manyOf ss l else 0) + if memb l (majorOf cs ss) = true then 0 else manyOf ss l) = min (manyOf ss l) (ss.length - manyOf ss l)
  by_cases q : l ∈ majorOf cs ss
  · rw [if_pos (memb_iff.mpr q), if_pos (memb_iff.mpr q)]
    have := h.mem_major.mp q
    omega
  · have q' : ¬ memb l (majorOf cs ss) = true := fun z => q (memb_iff.mp z)
    rw [if_neg q', if_neg q']
    have : ¬ ss.length < 2 * manyOf ss l := fun z => q (h.mem_major.mpr z)
    omega
theorem Sts.least_major (h : Sts cs ss) : leastSum cs (ss ++ [majorOf cs ss]) = leastSum cs ss := by
  have e : lotsIn cs (ss ++ [majorOf cs ss]) = lotsIn cs ss := by
    unfold lotsIn
    refine bySize_canon (fun l hl c hc => ?_) fun l => ?_
    · rcases mem_flat_snoc.mp hl with z | z
      · exact (h.lv z).sub hc
      · exact (h.lv (h.major_flat z)).sub hc
    · rw [mem_flat_snoc]
      exact ⟨fun z => z.elim id h.major_flat, .inl⟩
  rw [least_is, least_is, e]
  refine congrArg (fun n : Nat => (n : Int)) (sumN_congr fun l _ => ?_)
  have hm := manyOf_le ss l
  show min (manyOf (ss ++ [majorOf cs ss]) l) ((ss ++ [majorOf cs ss]).length - manyOf (ss ++ [majorOf cs ss]) l) = min (manyOf ss l) (ss.length - manyOf ss l)
  rw [many_snoc, List.length_append, List.length_singleton]
  by_cases q : l ∈ majorOf cs ss
  · rw [if_pos q]
    have := h.mem_major.mp q
    omega
  · rw [if_neg q]
    have : ¬ ss.length < 2 * manyOf ss l := fun z => q (h.mem_major.mpr z)
    omega
end
end Pg
set_option maxHeartbeats 4000000
/-! the plain law: parts, and who is in one part everywhere -/
namespace Pg
open PySem PySem.Spec PyProof.Rows L2 Cf NdefX PySem.W
/-! ### tables -/
section
variable {κ α : Type} [DecidableEq κ]
def valT (nm : List (κ × List α)) (c : κ) : List α := (getB nm c).getD []
theorem valT_add (nm : List (κ × List α)) (k c : κ) (x : α) : valT (addTo nm k x) c = valT nm c ++ if k = c then [x] else [] := by
  unfold valT addTo
  rw [getB_putB]
  by_cases e : k = c
  · rw [if_pos e, if_pos e, e]
    rfl
  · rw [if_neg e, if_neg e, List.append_nil]
theorem some_add (nm : List (κ × List α)) (k c : κ) (x : α) : (getB (addTo nm k x) c).isSome = true ↔ k = c ∨ (getB nm c).isSome = true := by
  unfold addTo
  rw [getB_putB]
  by_cases e : k = c
  · rw [if_pos e]
    exact ⟨fun _ => .inl e, fun _ => rfl⟩
  · rw [if_neg e]
    exact ⟨.inr, fun z => z.resolve_left e⟩
end
theorem valT_part (i : Int) (c : Nm) : ∀ (p : Lot) (nm : List (Nm × List Int)), p.Nodup → valT (p.foldl (fun nm c => addTo nm c i) nm) c = valT nm c ++ if memb c p = true then [i] else []
  | [], nm, _ => by simp [memb]
  | d :: p, nm, nd => by
    rw [List.nodup_cons] at nd
    rw [List.foldl_cons, valT_part i c p _ nd.2, valT_add, List.append_assoc]
    congr 1
    by_cases e : d = c
    · subst e
      rw [if_pos rfl, if_neg (fun z => nd.1 (memb_iff.mp z)), if_pos (memb_iff.mpr List.mem_cons_self)]
      rfl
    · rw [if_neg e, List.nil_append]
      by_cases q : c ∈ p
      · rw [if_pos (memb_iff.mpr q), if_pos (memb_iff.mpr (List.mem_cons_of_mem _ q))]
      · rw [if_neg (fun z => q (memb_iff.mp z)), if_neg (fun z => (List.mem_cons.mp (memb_iff.mp z)).elim (fun y => e y.symm) q)]
theorem some_part (i : Int) (c : Nm) : ∀ (p : Lot) (nm : List (Nm × List Int)), (c ∈ p ∨ (getB nm c).isSome = true) → (getB (p.foldl (fun nm c => addTo nm c i) nm) c).isSome = true
  | [], nm, h => h.resolve_left List.not_mem_nil
  | d :: p, nm, h => by
    rw [List.foldl_cons]
    refine some_part i c p _ ?_
    rcases h with h | h
    · rcases List.mem_cons.mp h with e | e
      · exact .inr ((some_add _ _ _ _).mpr (.inl e.symm))
      · exact .inl e
    · exact .inr ((some_add _ _ _ _).mpr (.inr h))
theorem valT_parts (c : Nm) : ∀ (L : List (Int × Lot)) (nm : List (Nm × List Int)), (∀ q ∈ L, q.2.Nodup) → valT (L.foldl addP nm) c = valT nm c ++ (L.filter fun q => memb c q.2).map (·.1)
  | [], nm, _ => by simp
  | q :: L, nm, h => by
    rw [List.foldl_cons, valT_parts c L _ fun r hr => h r (List.mem_cons_of_mem _ hr)]
    have e : valT (addP nm q) c = valT nm c ++ if memb c q.2 = true then [q.1] else [] := valT_part q.1 c q.2 nm (h q List.mem_cons_self)
    rw [e, List.append_assoc, List.filter_cons]
    congr 1
    by_cases z : memb c q.2 = true
    · rw [if_pos z, if_pos z]
      rfl
    · rw [if_neg z, if_neg z]
      rfl
theorem some_parts (c : Nm) : ∀ (L : List (Int × Lot)) (nm : List (Nm × List Int)), ((∃ q ∈ L, c ∈ q.2) ∨ (getB nm c).isSome = true) → (getB (L.foldl addP nm) c).isSome = true
  | [], nm, h => h.resolve_left fun ⟨q, hq, _⟩ => by cases hq
  | q :: L, nm, h => by
    rw [List.foldl_cons]
    refine some_parts c L _ ?_
    rcases h with ⟨r, hr, hc⟩ | h
    · rcases List.mem_cons.mp hr with e | e
      · exact .inr (some_part q.1 c q.2 nm (.inl (by rw [← e]; exact hc)))
      · exact .inl ⟨r, e, hc⟩
    · exact .inr (some_part q.1 c q.2 nm (.inr h))
/-- the numbers of a copy's parts -/
def nums (L : List Nm) (st : List Lot) (c : Nm) : List Int := ((numd (partsOf L st L)).filter fun q => memb c q.2).map (·.1)
theorem names_val {L : List Nm} (c : Nm) : ∀ (ss : List (List Lot)) (nm : List (Nm × List Int)), (∀ st ∈ ss, ∀ p ∈ partsOf L st L, p.Nodup) → valT (ss.foldl (addS L) nm) c = valT nm c ++ ss.flatMap fun st => nums L st c
  | [], nm, _ => by simp
  | st :: ss, nm, h => by
    rw [List.foldl_cons, names_val c ss _ fun s hs => h s (List.mem_cons_of_mem _ hs)]
    have e : valT (addS L nm st) c = valT nm c ++ nums L st c := valT_parts c _ nm fun q hq => h st List.mem_cons_self q.2 (numd_mem hq)
    rw [e, List.append_assoc]
    rfl
theorem numd_snd {α : Type} (xs : List α) : (numd xs).map (·.2) = xs := by
  unfold numd
  rw [List.map_map]
  exact List.zipIdx_map_fst 0 xs
/-! ### parts -/
def Apart (a b : Lot) : Prop := ∀ c ∈ a, c ∉ b
theorem Apart.symm {a b : Lot} (h : Apart a b) : Apart b a := fun c hc z => h c z hc
/-- in one part -/
def Tog (L : List Nm) (st : List Lot) (c d : Nm) : Prop := c = d ∨ ∃ l ∈ st, l.length < L.length ∧ c ∈ l ∧ d ∈ l
section
variable {L : List Nm} {st : List Lot}
theorem mem_inner (h : St L st) {l : Lot} : l ∈ innerOf st L ↔ l ∈ st ∧ l.length < L.length := by
  unfold innerOf
  rw [List.mem_filter, Bool.and_eq_true]
  constructor
  · rintro ⟨h1, _, h3⟩
    have := of_decide_eq_true (show decide (((l.length : Nat) : Int) < ((L.length : Nat) : Int)) = true from h3)
    exact ⟨h1, by omega⟩
  · rintro ⟨h1, h2⟩
    exact ⟨h1, List.all_eq_true.mpr fun c hc => memb_iff.mpr ((h.lv l h1).sub hc), decide_eq_true (by omega)⟩
theorem mem_tops (h : St L st) {l : Lot} : l ∈ topsOf (innerOf st L) ↔ l ∈ innerOf st L ∧ ∀ o ∈ innerOf st L, ¬ ((∀ c ∈ l, c ∈ o) ∧ l.length < o.length) := by
  unfold topsOf
  rw [List.mem_filter, Bool.not_eq_true', List.any_eq_false]
  refine and_congr_right fun _ => ?_
  constructor
  · rintro q o ho ⟨h1, h2⟩
    refine q o ho ?_
    rw [Bool.and_eq_true]
    exact ⟨List.all_eq_true.mpr fun c hc => memb_iff.mpr (h1 c hc), decide_eq_true (by omega)⟩
  · intro q o ho z
    rw [Bool.and_eq_true] at z
    have h2 := of_decide_eq_true (show decide (((l.length : Nat) : Int) < ((o.length : Nat) : Int)) = true from z.2)
    exact q o ho ⟨fun c hc => memb_iff.mp (List.all_eq_true.mp z.1 c hc), by omega⟩
/-- each inner lot lies in a top one -/
theorem top_above (h : St L st) : ∀ (n : Nat) {l : Lot}, L.length - l.length ≤ n → l ∈ innerOf st L → ∃ t ∈ topsOf (innerOf st L), ∀ c ∈ l, c ∈ t
  | 0, l, hn, hl => by
    have := (mem_inner h).mp hl
    omega
  | n + 1, l, hn, hl => by
    by_cases q : l ∈ topsOf (innerOf st L)
    · exact ⟨l, q, fun c hc => hc⟩
    · have : ∃ o ∈ innerOf st L, (∀ c ∈ l, c ∈ o) ∧ l.length < o.length := by
        refine Classical.byContradiction fun z => q ((mem_tops h).mpr ⟨hl, fun o ho y => z ⟨o, ho, y⟩⟩)
      obtain ⟨o, ho, h1, h2⟩ := this
      obtain ⟨t, ht, h3⟩ := top_above h n (by omega) ho
      exact ⟨t, ht, fun c hc => h3 c (h1 c hc)⟩
theorem tops_apart (nd : L.Nodup) (h : St L st) {a b : Lot} (ha : a ∈ topsOf (innerOf st L)) (hb : b ∈ topsOf (innerOf st L)) (hne : a ≠ b) : Apart a b := by
  have h1 := (mem_tops h).mp ha
  have h2 := (mem_tops h).mp hb
  have i1 := (mem_inner h).mp h1.1
  have i2 := (mem_inner h).mp h2.1
  have va := h.lv a i1.1
  have vb := h.lv b i2.1
  rcases h.lam a i1.1 b i2.1 with q | q | q
  · exfalso
    have : ¬ a.length < b.length := fun z => h1.2 b h2.1 ⟨q, z⟩
    exact hne (va.full nd vb q (by omega))
  · exfalso
    have : ¬ b.length < a.length := fun z => h2.2 a h1.1 ⟨q, z⟩
    exact hne (vb.full nd va q (by omega)).symm
  · exact q
theorem mem_rest {tops : List Lot} {p : Lot} : p ∈ restOf L tops ↔ ∃ c ∈ L, (∀ t ∈ tops, c ∉ t) ∧ p = [c] := by
  unfold restOf
  rw [List.mem_map]
  constructor
  · rintro ⟨c, hc, rfl⟩
    obtain ⟨h1, h2⟩ := List.mem_filter.mp hc
    rw [Bool.not_eq_true', List.any_eq_false] at h2
    exact ⟨c, h1, fun t ht z => h2 t ht (memb_iff.mpr z), rfl⟩
  · rintro ⟨c, h1, h2, rfl⟩
    refine ⟨c, List.mem_filter.mpr ⟨h1, ?_⟩, rfl⟩
    rw [Bool.not_eq_true', List.any_eq_false]
    exact fun t ht z => h2 t ht (memb_iff.mp z)
theorem mem_parts {p : Lot} : p ∈ partsOf L st L ↔ p ∈ topsOf (innerOf st L) ∨ ∃ c ∈ L, (∀ t ∈ topsOf (innerOf st L), c ∉ t) ∧ p = [c] := by
  unfold partsOf
  rw [List.mem_mergeSort]
  unfold partsRaw
  rw [List.mem_append, mem_rest]
theorem parts_nd (nd : L.Nodup) (h : St L st) {p : Lot} (hp : p ∈ partsOf L st L) : p.Nodup := by
  rcases mem_parts.mp hp with q | ⟨c, _, _, rfl⟩
  · exact (h.lv p ((mem_inner h).mp ((mem_tops h).mp q).1).1).nd nd
  · simp
theorem parts_cover (h : St L st) {c : Nm} (hc : c ∈ L) : ∃ p ∈ partsOf L st L, c ∈ p := by
  by_cases q : ∃ t ∈ topsOf (innerOf st L), c ∈ t
  · obtain ⟨t, h1, h2⟩ := q
    exact ⟨t, mem_parts.mpr (.inl h1), h2⟩
  · exact ⟨[c], mem_parts.mpr (.inr ⟨c, hc, fun t ht z => q ⟨t, ht, z⟩, rfl⟩), List.mem_singleton.mpr rfl⟩
theorem parts_apart (nd : L.Nodup) (h : St L st) : (partsOf L st L).Pairwise Apart := by
  unfold partsOf
  refine (List.Perm.pairwise_iff (fun {x y} q => Apart.symm q) (List.mergeSort_perm (partsRaw st L) _)).mpr ?_
  unfold partsRaw
  refine List.pairwise_append.mpr ⟨?_, ?_, fun a ha b hb => ?_⟩
  · have hn : (topsOf (innerOf st L)).Nodup := by
      unfold topsOf innerOf
      exact (h.nd.filter _).filter _
    exact List.Pairwise.imp_of_mem (fun {a b} ha hb q => tops_apart nd h ha hb q) hn
  · unfold restOf
    refine List.pairwise_map.mpr ((nd.filter _).imp fun {a b} q c hc z => q ?_)
    rw [← List.mem_singleton.mp hc, List.mem_singleton.mp z]
  · obtain ⟨c, _, h2, rfl⟩ := mem_rest.mp hb
    intro d hd z
    rw [List.mem_singleton.mp z] at hd
    exact h2 a ha hd
/-- in one part: together -/
theorem same_part (h : St L st) {c d : Nm} (hc : c ∈ L) : (∃ p ∈ partsOf L st L, c ∈ p ∧ d ∈ p) ↔ Tog L st c d := by
  constructor
  · rintro ⟨p, hp, h1, h2⟩
    rcases mem_parts.mp hp with q | ⟨e, _, _, rfl⟩
    · have i := (mem_inner h).mp ((mem_tops h).mp q).1
      exact .inr ⟨p, i.1, i.2, h1, h2⟩
    · exact .inl ((List.mem_singleton.mp h1).trans (List.mem_singleton.mp h2).symm)
  · rintro (e | ⟨l, hl, hlen, h1, h2⟩)
    · obtain ⟨p, hp, q⟩ := parts_cover h hc
      exact ⟨p, hp, q, by rw [← e]; exact q⟩
    · obtain ⟨t, ht, q⟩ := top_above h _ (Nat.le_refl _) ((mem_inner h).mpr ⟨hl, hlen⟩)
      exact ⟨t, mem_parts.mpr (.inl ht), q c h1, q d h2⟩
theorem one_found {c : Nm} : ∀ {M : List (Int × Lot)} {q : Int × Lot}, M.Pairwise (fun a b => Apart a.2 b.2) → q ∈ M → c ∈ q.2 → (M.filter fun r => memb c r.2) = [q]
  | a :: M, q, hp, hq, hc => by
    rw [List.pairwise_cons] at hp
    by_cases z : c ∈ a.2
    · rcases List.mem_cons.mp hq with e | e
      · rw [List.filter_cons, if_pos (memb_iff.mpr z), List.filter_eq_nil_iff.mpr fun r hr y => hp.1 r hr c z (memb_iff.mp y), e]
      · exact absurd hc (hp.1 q e c z)
    · rcases List.mem_cons.mp hq with e | e
      · exact absurd (by rw [← e]; exact hc) z
      · rw [List.filter_cons, if_neg (fun y => z (memb_iff.mp y))]
        exact one_found hp.2 e hc
theorem nums_one (nd : L.Nodup) (h : St L st) {c : Nm} (hc : c ∈ L) : ∃ q ∈ numd (partsOf L st L), c ∈ q.2 ∧ nums L st c = [q.1] := by
  obtain ⟨p, hp, h1⟩ := parts_cover h hc
  rw [← numd_snd (partsOf L st L)] at hp
  obtain ⟨q, hq, e⟩ := List.mem_map.mp hp
  have hap : (numd (partsOf L st L)).Pairwise fun a b => Apart a.2 b.2 := by
    have := parts_apart nd h
    rw [← numd_snd (partsOf L st L)] at this
    exact List.pairwise_map.mp this
  have hcq : c ∈ q.2 := by rw [e]; exact h1
  refine ⟨q, hq, hcq, ?_⟩
  unfold nums
  rw [one_found hap hq hcq]
  rfl
theorem nums_eq (nd : L.Nodup) (h : St L st) {c d : Nm} (hc : c ∈ L) (hd : d ∈ L) : nums L st c = nums L st d ↔ Tog L st c d := by
  obtain ⟨q, hq, hcq, e1⟩ := nums_one nd h hc
  obtain ⟨r, hr, hdr, e2⟩ := nums_one nd h hd
  rw [← same_part h hc, e1, e2]
  constructor
  · intro e
    injection e with e _
    obtain ⟨i, hi, g1⟩ := List.mem_iff_getElem.mp hq
    obtain ⟨j, hj, g2⟩ := List.mem_iff_getElem.mp hr
    obtain ⟨y1, f1, f2⟩ := numd_at (show (numd (partsOf L st L))[i]? = some q by rw [List.getElem?_eq_getElem hi, g1])
    obtain ⟨y2, f3, f4⟩ := numd_at (show (numd (partsOf L st L))[j]? = some r by rw [List.getElem?_eq_getElem hj, g2])
    rw [f2, f4] at e
    have eij : i = j := by
      have e : ((i : Nat) : Int) = ((j : Nat) : Int) := e
      omega
    subst eij
    rw [f1] at f3
    cases f3
    refine ⟨q.2, numd_mem hq, hcq, ?_⟩
    rw [f2]
    rw [f4] at hdr
    exact hdr
  · rintro ⟨p, hp, h1, h2⟩
    rw [← numd_snd (partsOf L st L)] at hp
    obtain ⟨u, hu, e⟩ := List.mem_map.mp hp
    have hap : (numd (partsOf L st L)).Pairwise fun a b => Apart a.2 b.2 := by
      have := parts_apart nd h
      rw [← numd_snd (partsOf L st L)] at this
      exact List.pairwise_map.mp this
    have a1 := one_found hap hq hcq
    have a2 := one_found hap hu (show c ∈ u.2 by rw [e]; exact h1)
    have b1 := one_found hap hr hdr
    have b2 := one_found hap hu (show d ∈ u.2 by rw [e]; exact h2)
    rw [a1] at a2
    rw [b1] at b2
    injection a2 with a3 _
    injection b2 with b3 _
    rw [a3, b3]
end
/-- what a copy is known by -/
def keyC (L : List Nm) (ss : List (List Lot)) (c : Nm) : List Int := valT (namesOf L ss) c
theorem flat_one {α : Type} {f g : α → List Int} : ∀ {ss : List α}, (∀ s ∈ ss, (f s).length = 1 ∧ (g s).length = 1) → (ss.flatMap f = ss.flatMap g ↔ ∀ s ∈ ss, f s = g s)
  | [], _ => ⟨fun _ s hs => absurd hs List.not_mem_nil, fun _ => rfl⟩
  | s :: ss, h => by
    have ih := flat_one (ss := ss) fun t ht => h t (List.mem_cons_of_mem _ ht)
    have h1 := h s List.mem_cons_self
    rw [List.flatMap_cons, List.flatMap_cons]
    constructor
    · intro e t ht
      obtain ⟨e1, e2⟩ := List.append_inj e (by rw [h1.1, h1.2])
      rcases List.mem_cons.mp ht with z | z
      · rw [z]
        exact e1
      · exact ih.mp e2 t z
    · intro e
      rw [e s List.mem_cons_self, ih.mpr fun t ht => e t (List.mem_cons_of_mem _ ht)]
section
variable {L : List Nm} {ss : List (List Lot)}
theorem key_val (nd : L.Nodup) (h : ∀ st ∈ ss, St L st) (c : Nm) : keyC L ss c = ss.flatMap fun st => nums L st c := by
  unfold keyC namesOf
  rw [names_val c ss [] fun st hs p hp => parts_nd nd (h st hs) hp]
  rfl
theorem key_eq (nd : L.Nodup) (h : ∀ st ∈ ss, St L st) {c d : Nm} (hc : c ∈ L) (hd : d ∈ L) : keyC L ss c = keyC L ss d ↔ ∀ st ∈ ss, Tog L st c d := by
  rw [key_val nd h, key_val nd h, flat_one fun st hs => ?_]
  · exact ⟨fun q st hs => (nums_eq nd (h st hs) hc hd).mp (q st hs), fun q st hs => (nums_eq nd (h st hs) hc hd).mpr (q st hs)⟩
  · obtain ⟨_, _, _, e1⟩ := nums_one nd (h st hs) hc
    obtain ⟨_, _, _, e2⟩ := nums_one nd (h st hs) hd
    rw [e1, e2]
    exact ⟨rfl, rfl⟩
theorem names_some (h : ∀ st ∈ ss, St L st) (hne : 0 < ss.length) {c : Nm} (hc : c ∈ L) : (getB (namesOf L ss) c).isSome = true := by
  have gen : ∀ (ss : List (List Lot)) (nm : List (Nm × List Int)), (∀ st ∈ ss, St L st) → (0 < ss.length ∨ (getB nm c).isSome = true) → (getB (ss.foldl (addS L) nm) c).isSome = true := by
    intro ss
    induction ss with
    | nil => intro nm _ z; exact z.resolve_left (by simp)
    | cons st ss ih =>
      intro nm hs _
      rw [List.foldl_cons]
      refine ih _ (fun s q => hs s (List.mem_cons_of_mem _ q)) (.inr ?_)
      obtain ⟨p, hp, h1⟩ := parts_cover (hs st List.mem_cons_self) hc
      rw [← numd_snd (partsOf L st L)] at hp
      obtain ⟨q, hq, e⟩ := List.mem_map.mp hp
      exact some_parts c _ nm (.inl ⟨q, hq, by rw [e]; exact h1⟩)
  exact gen ss [] h (.inl hne)
end
end Pg
set_option maxHeartbeats 4000000
/-! the plain law: groups -/
namespace Pg
open PySem PySem.Spec PyProof.Rows L2 Cf NdefX PySem.W
section
variable {key key' : Nm → List Int}
def repStep (key : Nm → List Int) (acc : List Nm) (c : Nm) : List Nm := if (acc.any fun a => decide (key a = key c)) = true then acc else acc ++ [c]
def repsK (key : Nm → List Int) (L : List Nm) : List Nm := L.foldl (repStep key) []
def grp (key : Nm → List Int) (L : List Nm) (a : Nm) : Lot := L.filter fun c => decide (key c = key a)
def groupsK (key : Nm → List Int) (L : List Nm) : List (List Int × Lot) := (repsK key L).map fun a => (key a, grp key L a)
theorem reps_snoc (pre : List Nm) (c : Nm) : repsK key (pre ++ [c]) = repStep key (repsK key pre) c := by
  unfold repsK
  rw [List.foldl_append]
  rfl
theorem step_mem {acc : List Nm} {c a : Nm} : a ∈ repStep key acc c → a ∈ acc ∨ a = c := by
  unfold repStep
  split
  · exact .inl
  · intro h
    rw [List.mem_append, List.mem_singleton] at h
    exact h
theorem step_keep {acc : List Nm} {c a : Nm} (h : a ∈ acc) : a ∈ repStep key acc c := by
  unfold repStep
  split
  · exact h
  · exact List.mem_append_left _ h
theorem step_new {acc : List Nm} {c : Nm} : ∃ a ∈ repStep key acc c, key a = key c := by
  unfold repStep
  split
  · rename_i h
    obtain ⟨a, h1, h2⟩ := List.any_eq_true.mp h
    exact ⟨a, h1, of_decide_eq_true h2⟩
  · exact ⟨c, List.mem_append_right _ (List.mem_singleton.mpr rfl), rfl⟩
theorem fold_keep : ∀ (L acc : List Nm) {a : Nm}, a ∈ acc → a ∈ L.foldl (repStep key) acc
  | [], _, _, h => h
  | c :: L, acc, _, h => fold_keep L _ (step_keep h)
theorem fold_cover : ∀ (L acc : List Nm) {c : Nm}, c ∈ L → ∃ a ∈ L.foldl (repStep key) acc, key a = key c
  | d :: L, acc, c, h => by
    rcases List.mem_cons.mp h with e | e
    · obtain ⟨a, h1, h2⟩ := step_new (key := key) (acc := acc) (c := d)
      exact ⟨a, fold_keep L _ h1, by rw [e]; exact h2⟩
    · exact fold_cover L _ e
theorem fold_sub : ∀ (L acc : List Nm) {a : Nm}, a ∈ L.foldl (repStep key) acc → a ∈ acc ∨ a ∈ L
  | [], _, _, h => .inl h
  | c :: L, acc, a, h => by
    rcases fold_sub L _ h with q | q
    · exact (step_mem q).imp id fun e => by rw [e]; exact List.mem_cons_self
    · exact .inr (List.mem_cons_of_mem _ q)
theorem reps_sub {L : List Nm} {a : Nm} (h : a ∈ repsK key L) : a ∈ L := (fold_sub L [] h).resolve_left List.not_mem_nil
theorem reps_cover {L : List Nm} {c : Nm} (h : c ∈ L) : ∃ a ∈ repsK key L, key a = key c := fold_cover L [] h
theorem fold_diff : ∀ (L acc : List Nm), acc.Pairwise (fun a b => key a ≠ key b) → (L.foldl (repStep key) acc).Pairwise fun a b => key a ≠ key b
  | [], _, h => h
  | c :: L, acc, h => by
    refine fold_diff L _ ?_
    unfold repStep
    split
    · exact h
    · rename_i q
      refine List.pairwise_append.mpr ⟨h, List.pairwise_singleton _ _, fun a ha b hb z => q (List.any_eq_true.mpr ⟨a, ha, decide_eq_true ?_⟩)⟩
      rw [List.mem_singleton.mp hb] at z
      exact z
theorem reps_diff (L : List Nm) : (repsK key L).Pairwise fun a b => key a ≠ key b := fold_diff L [] .nil
theorem reps_congr {M : List Nm} (h : ∀ a ∈ M, ∀ b ∈ M, key a = key b ↔ key' a = key' b) : ∀ (L acc : List Nm), (∀ a ∈ acc, a ∈ M) → (∀ a ∈ L, a ∈ M) → L.foldl (repStep key) acc = L.foldl (repStep key') acc
  | [], _, _, _ => rfl
  | c :: L, acc, h1, h2 => by
    have e : repStep key acc c = repStep key' acc c := by
      unfold repStep
      have : (acc.any fun a => decide (key a = key c)) = acc.any fun a => decide (key' a = key' c) := by
        rw [Bool.eq_iff_iff, List.any_eq_true, List.any_eq_true]
        constructor
        · rintro ⟨a, ha, q⟩
          exact ⟨a, ha, decide_eq_true ((h a (h1 a ha) c (h2 c List.mem_cons_self)).mp (of_decide_eq_true q))⟩
        · rintro ⟨a, ha, q⟩
          exact ⟨a, ha, decide_eq_true ((h a (h1 a ha) c (h2 c List.mem_cons_self)).mpr (of_decide_eq_true q))⟩
      rw [this]
    rw [List.foldl_cons, List.foldl_cons, e]
    refine reps_congr h L _ (fun a ha => ?_) fun a ha => h2 a (List.mem_cons_of_mem _ ha)
    rcases step_mem ha with q | q
    · exact h1 a q
    · rw [q]
      exact h2 c List.mem_cons_self
theorem get_groups {R : List Nm} {P : Nm → Lot} {k : List Int} : getB (R.map fun a => (key a, P a)) k = (R.find? fun a => decide (key a = k)).map P := by
  unfold getB
  rw [List.find?_map, Option.map_map]
  rfl
theorem add_groups (pre : List Nm) (c : Nm) : addTo (groupsK key pre) (key c) c = groupsK key (pre ++ [c]) := by
  have hf : ∀ a, grp key (pre ++ [c]) a = grp key pre a ++ if key c = key a then [c] else [] := fun a => by
    unfold grp
    rw [List.filter_append]
    congr 1
    by_cases e : key c = key a
    · rw [if_pos e, List.filter_cons, if_pos (decide_eq_true e)]
      rfl
    · rw [if_neg e, List.filter_cons, if_neg (by rw [decide_eq_true_eq]; exact e)]
      rfl
  have hany : ((groupsK key pre).any fun p => decide (p.1 = key c)) = (repsK key pre).any fun a => decide (key a = key c) := by
    unfold groupsK
    rw [List.any_map]
    rfl
  unfold addTo putB
  rw [hany]
  have hs := reps_snoc (key := key) pre c
  unfold repStep at hs
  by_cases q : ((repsK key pre).any fun a => decide (key a = key c)) = true
  · rw [if_pos q] at hs ⊢
    have hg : (getB (groupsK key pre) (key c)).getD [] = grp key pre c := by
      unfold groupsK
      rw [get_groups]
      cases z : (repsK key pre).find? fun a => decide (key a = key c) with
      | none =>
        obtain ⟨a, h1, h2⟩ := List.any_eq_true.mp q
        exact absurd h2 (by simpa using List.find?_eq_none.mp z a h1)
      | some a =>
        have e := of_decide_eq_true (List.find?_some (p := fun a => decide (key a = key c)) z)
        show grp key pre a = grp key pre c
        unfold grp
        rw [e]
    rw [hg]
    unfold groupsK
    rw [hs, List.map_map]
    refine List.map_congr_left fun a ha => ?_
    show (if key a = key c then (key a, grp key pre c ++ [c]) else (key a, grp key pre a)) = (key a, grp key (pre ++ [c]) a)
    rw [hf]
    by_cases e : key a = key c
    · rw [if_pos e, if_pos e.symm]
      unfold grp
      rw [e]
    · rw [if_neg e, if_neg (fun z => e z.symm), List.append_nil]
  · rw [if_neg q] at hs ⊢
    have hno : ∀ a ∈ repsK key pre, key a ≠ key c := fun a ha e => q (List.any_eq_true.mpr ⟨a, ha, decide_eq_true e⟩)
    have hg : (getB (groupsK key pre) (key c)).getD [] = [] := by
      unfold groupsK
      rw [get_groups, List.find?_eq_none.mpr fun a ha => by simpa using hno a ha]
      rfl
    rw [hg]
    unfold groupsK
    rw [hs, List.map_append]
    congr 1
    · refine List.map_congr_left fun a ha => ?_
      rw [hf, if_neg (fun z => hno a ha z.symm), List.append_nil]
    · show [(key c, [] ++ [c])] = [(key c, grp key (pre ++ [c]) c)]
      rw [hf, if_pos rfl]
      have : grp key pre c = [] := List.filter_eq_nil_iff.mpr fun d hd z => by
        obtain ⟨a, h1, h2⟩ := reps_cover (key := key) hd
        exact hno a h1 (h2.trans (of_decide_eq_true z))
      rw [this]
theorem found_is (nm : List (Nm × List Int)) (L : List Nm) : foundOf nm L = groupsK (valT nm) L := by
  have gen : ∀ L pre : List Nm, L.foldl (fun fd c => addTo fd ((getB nm c).getD []) c) (groupsK (valT nm) pre) = groupsK (valT nm) (pre ++ L) := by
    intro L
    induction L with
    | nil => intro pre; rw [List.append_nil]; rfl
    | cons c L ih =>
      intro pre
      rw [List.foldl_cons]
      have e : addTo (groupsK (valT nm) pre) ((getB nm c).getD []) c = groupsK (valT nm) (pre ++ [c]) := add_groups (key := valT nm) pre c
      rw [e, ih (pre ++ [c]), List.append_assoc]
      rfl
  exact gen L []
end
section
variable {L : List Nm} {ss : List (List Lot)}
theorem parted_is (L : List Nm) (ss : List (List Lot)) : partedBy L ss = (repsK (keyC L ss) L).map (grp (keyC L ss) L) := by
  unfold partedBy
  rw [found_is]
  unfold groupsK
  rw [List.map_map]
  rfl
theorem parted_congr {ss' : List (List Lot)} (h : ∀ a ∈ L, ∀ b ∈ L, keyC L ss a = keyC L ss b ↔ keyC L ss' a = keyC L ss' b) : partedBy L ss = partedBy L ss' := by
  rw [parted_is, parted_is]
  have e : repsK (keyC L ss) L = repsK (keyC L ss') L := reps_congr h L [] (fun a ha => absurd ha List.not_mem_nil) fun a ha => ha
  rw [← e]
  refine List.map_congr_left fun a ha => ?_
  unfold grp
  refine List.filter_congr fun c hc => ?_
  rw [Bool.eq_iff_iff, decide_eq_true_eq, decide_eq_true_eq]
  exact h c hc a (reps_sub ha)
structure Grp (L : List Nm) (ss : List (List Lot)) (g : Lot) : Prop where
  seq : g = inSeq L g
  one : ∃ a, a ∈ g
  tog : ∀ c ∈ g, ∀ d ∈ g, ∀ st ∈ ss, Tog L st c d
  all : ∀ c ∈ g, ∀ d ∈ L, (∀ st ∈ ss, Tog L st c d) → d ∈ g
theorem grp_of (h : Sts L ss) {g : Lot} (hg : g ∈ partedBy L ss) : Grp L ss g := by
  rw [parted_is] at hg
  obtain ⟨a, ha, rfl⟩ := List.mem_map.mp hg
  have haL := reps_sub ha
  have hm : ∀ c, c ∈ grp (keyC L ss) L a ↔ c ∈ L ∧ keyC L ss c = keyC L ss a := fun c => by
    unfold grp
    rw [List.mem_filter, decide_eq_true_eq]
  refine ⟨?_, ⟨a, (hm a).mpr ⟨haL, rfl⟩⟩, fun c hc d hd => ?_, fun c hc d hd q => ?_⟩
  · show _ = L.filter _
    unfold grp
    refine List.filter_congr fun c hc => ?_
    rw [Bool.eq_iff_iff, memb_iff, List.mem_filter]
    exact ⟨fun q => ⟨hc, q⟩, fun q => q.2⟩
  · obtain ⟨c1, c2⟩ := (hm c).mp hc
    obtain ⟨d1, d2⟩ := (hm d).mp hd
    exact (key_eq h.nd h.all c1 d1).mp (c2.trans d2.symm)
  · obtain ⟨c1, c2⟩ := (hm c).mp hc
    exact (hm d).mpr ⟨hd, ((key_eq h.nd h.all c1 hd).mpr q).symm.trans c2⟩
theorem grp_cover {c : Nm} (hc : c ∈ L) : ∃ g ∈ partedBy L ss, c ∈ g := by
  obtain ⟨a, h1, h2⟩ := reps_cover (key := keyC L ss) hc
  rw [parted_is]
  exact ⟨_, List.mem_map.mpr ⟨a, h1, rfl⟩, List.mem_filter.mpr ⟨hc, decide_eq_true h2.symm⟩⟩
theorem grp_apart : (partedBy L ss).Pairwise Apart := by
  rw [parted_is]
  refine List.pairwise_map.mpr ((reps_diff L).imp fun {a b} q c hc z => q ?_)
  have h1 := of_decide_eq_true (List.mem_filter.mp hc).2
  have h2 := of_decide_eq_true (List.mem_filter.mp z).2
  exact h1.symm.trans h2
/-- not all are together -/
theorem two_apart {st : List Lot} (nd : L.Nodup) (h : St L st) : ∃ c ∈ L, ∃ d ∈ L, ¬ Tog L st c d := by
  have h2 := h.two
  obtain ⟨c, hc⟩ : ∃ c, c ∈ L := List.exists_mem_of_length_pos (by omega)
  obtain ⟨p, hp, hcp⟩ := parts_cover h hc
  -- the part of c is not all
  have hlt : p.length < L.length := by
    rcases mem_parts.mp hp with q | ⟨e, _, _, rfl⟩
    · exact ((mem_inner h).mp ((mem_tops h).mp q).1).2
    · show 1 < L.length
      omega
  have : ∃ d ∈ L, d ∉ p := by
    refine Classical.byContradiction fun z => ?_
    have := nodup_len (l := L) (m := p) nd fun d hd => Classical.byContradiction fun y => z ⟨d, hd, y⟩
    omega
  obtain ⟨d, hd, hdp⟩ := this
  refine ⟨c, hc, d, hd, fun t => ?_⟩
  obtain ⟨p2, hp2, h3, h4⟩ := (same_part h hc).mpr t
  by_cases e : p2 = p
  · exact hdp (by rw [← e]; exact h4)
  · -- two parts share c
    have := parts_apart nd h
    have key : ∀ {M : List Lot}, M.Pairwise Apart → p ∈ M → p2 ∈ M → Apart p2 p := by
      intro M hM h5 h6
      induction hM with
      | nil => cases h5
      | cons hh _ ih =>
        rcases List.mem_cons.mp h5 with z | z <;> rcases List.mem_cons.mp h6 with y | y
        · exact absurd (y.trans z.symm) e
        · rw [z]
          exact (hh p2 y).symm
        · rw [y]
          exact hh p z
        · exact ih z y
    exact key this hp hp2 c h3 hcp
theorem grp_less (h : Sts L ss) {g : Lot} (hg : g ∈ partedBy L ss) : g.length < L.length := by
  have G := grp_of h hg
  obtain ⟨st, hs⟩ := List.exists_mem_of_length_pos h.ne
  obtain ⟨c, hc, d, hd, hno⟩ := two_apart h.nd (h.all st hs)
  have hle : g.length ≤ L.length := by
    rw [G.seq]
    exact List.length_filter_le _ _
  refine Classical.byContradiction fun z => ?_
  have hall : ∀ x ∈ L, x ∈ g := fun x hx => by
    have e : g.length = L.length := by omega
    have : L.Sublist g ∨ True := .inr trivial
    refine Classical.byContradiction fun y => ?_
    have gn : g.Nodup := by
      rw [G.seq]
      exact h.nd.filter _
    have := nodup_len (l := x :: g) (m := L) (List.nodup_cons.mpr ⟨y, gn⟩) fun w hw => (List.mem_cons.mp hw).elim (fun q => by rw [q]; exact hx) fun q => by
      rw [G.seq] at q
      exact (mem_inSeq.mp q).1
    rw [List.length_cons] at this
    omega
  exact hno (G.tog c (hall c hc) d (hall d hd) st hs)
theorem Grp.sub {g : Lot} (G : Grp L ss g) {c : Nm} (hc : c ∈ g) : c ∈ L := by
  rw [G.seq] at hc
  exact (mem_inSeq.mp hc).1
end
/-! ### cut down -/
theorem LotV.down {L g m : Lot} (hm : LotV L m) (hg : g = inSeq L g) (hs : ∀ c ∈ m, c ∈ g) : LotV g m := by
  refine ⟨?_, hm.two⟩
  have e : inSeq g m = inSeq L m := by
    show g.filter _ = L.filter _
    rw [hg]
    show (L.filter _).filter _ = _
    rw [List.filter_filter]
    refine List.filter_congr fun c hc => ?_
    rw [Bool.eq_iff_iff, Bool.and_eq_true, memb_iff, memb_iff]
    exact ⟨fun q => q.1, fun q => ⟨q, hs c q⟩⟩
  rw [e]
  exact hm.seq
theorem LotV.up {L g m : Lot} (hm : LotV g m) (hg : g = inSeq L g) : LotV L m := by
  refine ⟨?_, hm.two⟩
  have e : inSeq g m = inSeq L m := by
    show g.filter _ = L.filter _
    rw [hg]
    show (L.filter _).filter _ = _
    rw [List.filter_filter]
    refine List.filter_congr fun c hc => ?_
    rw [Bool.eq_iff_iff, Bool.and_eq_true, memb_iff, memb_iff]
    exact ⟨fun q => q.1, fun q => ⟨q, hm.sub q⟩⟩
  rw [← e]
  exact hm.seq
theorem Lam.cut {a b : Lot} (g : List Nm) (h : Lam a b) : Lam (inSeq g a) (inSeq g b) := by
  rcases h with h | h | h
  · exact .inl fun c hc => mem_inSeq.mpr ⟨(mem_inSeq.mp hc).1, h c (mem_inSeq.mp hc).2⟩
  · exact .inr (.inl fun c hc => mem_inSeq.mpr ⟨(mem_inSeq.mp hc).1, h c (mem_inSeq.mp hc).2⟩)
  · exact .inr (.inr fun c hc z => h c (mem_inSeq.mp hc).2 (mem_inSeq.mp z).2)
theorem mem_cut {st : List Lot} {g : List Nm} (h2 : 2 ≤ g.length) {m : Lot} : m ∈ cutDown st g ↔ (∃ l ∈ st, inSeq g l = m ∧ 1 < m.length) ∨ m = g := by
  unfold cutDown
  rw [mem_stem h2, List.mem_map]
  constructor
  · rintro (⟨⟨l, h1, h3⟩, h4⟩ | e)
    · exact .inl ⟨l, h1, h3, h4⟩
    · exact .inr e
  · rintro (⟨l, h1, h3, h4⟩ | e)
    · exact .inl ⟨⟨l, h1, h3⟩, h4⟩
    · exact .inr e
theorem cut_st {L : List Nm} {st : List Lot} {g : List Nm} (h : St L st) (h2 : 2 ≤ g.length) : St g (cutDown st g) := by
  unfold cutDown
  refine st_of h2 (fun l hl _ => ?_) fun a ha b hb => ?_
  · obtain ⟨m, _, rfl⟩ := List.mem_map.mp hl
    exact inSeq_idem g m
  · obtain ⟨m, hm, rfl⟩ := List.mem_map.mp ha
    obtain ⟨n, hn, rfl⟩ := List.mem_map.mp hb
    exact (h.lam m hm n hn).cut g
theorem cut_sts {L : List Nm} {ss : List (List Lot)} {g : List Nm} (h : Sts L ss) (hg : g = inSeq L g) (h2 : 2 ≤ g.length) : Sts g (ss.map fun st => cutDown st g) := by
  refine ⟨by rw [hg]; exact h.nd.filter _, ?_, by rw [List.length_map]; exact h.ne, by rw [List.length_map]; exact h.few, fun s hs => ?_⟩
  · have h1 : g.length ≤ L.length := by
      rw [hg]
      exact List.length_filter_le _ _
    have := h.n8
    omega
  · obtain ⟨st, hst, rfl⟩ := List.mem_map.mp hs
    exact cut_st (h.all st hst) h2
end Pg
set_option maxHeartbeats 4000000
/-! the plain law: what nests in all -/
namespace Pg
open PySem PySem.Spec PyProof.Rows L2 Cf NdefX PySem.W
theorem flatMap_same {α β : Type} {f g : α → List β} : ∀ {l : List α}, (∀ a ∈ l, f a = g a) → l.flatMap f = l.flatMap g
  | [], _ => rfl
  | a :: l, h => by
    rw [List.flatMap_cons, List.flatMap_cons, h a List.mem_cons_self, flatMap_same fun b hb => h b (List.mem_cons_of_mem _ hb)]
theorem flatMap_sumN {α β : Type} (f : α → List β) : ∀ l : List α, (l.flatMap f).length = sumN (fun a => (f a).length) l
  | [] => rfl
  | a :: l => by
    rw [List.flatMap_cons, List.length_append, flatMap_sumN f l]
    rfl
theorem flatten_len {α : Type} : ∀ l : List (List α), l.flatten.length = sumN (fun a => a.length) l
  | [] => rfl
  | a :: l => by
    rw [List.flatten_cons, List.length_append, flatten_len l]
    rfl
theorem sumN_mul {α : Type} (f : α → Nat) (n : Nat) : ∀ l : List α, sumN (fun a => f a * n) l = sumN f l * n
  | [] => (Nat.zero_mul n).symm
  | a :: l => by
    show f a * n + sumN _ l = (f a + sumN f l) * n
    rw [sumN_mul f n l, Nat.add_mul]
theorem big_iff {l : Lot} : isBig l = true ↔ 1 < l.length := by
  unfold isBig
  rw [decide_eq_true_eq]
  omega
theorem mem_common {k : Nat} {L : List Nm} {ss : List (List Lot)} {l : Lot} : l ∈ commonL (k + 1) L ss ↔ l = L ∨ ∃ g ∈ partedBy L ss, 1 < g.length ∧ l ∈ commonL k g (ss.map fun st => cutDown st g) := by
  show l ∈ L :: (partedBy L ss).flatMap (fun lot => if isBig lot = true then commonL k lot (ss.map fun st => cutDown st lot) else []) ↔ _
  rw [List.mem_cons, List.mem_flatMap]
  refine or_congr_right ⟨?_, ?_⟩
  · rintro ⟨g, hg, q⟩
    by_cases b : isBig g = true
    · rw [if_pos b] at q
      exact ⟨g, hg, big_iff.mp b, q⟩
    · rw [if_neg b] at q
      cases q
  · rintro ⟨g, hg, b, q⟩
    exact ⟨g, hg, by rw [if_pos (big_iff.mpr b)]; exact q⟩
structure Cm (k : Nat) (L : List Nm) (ss : List (List Lot)) : Prop where
  cmv : CmV k L ss
  lv : ∀ l ∈ commonL k L ss, LotV L l
  lam : ∀ a ∈ commonL k L ss, ∀ b ∈ commonL k L ss, Lam a b
  few : (commonL k L ss).length ≤ L.length * L.length
  top : L ∈ commonL k L ss
theorem apart_of {M : List Lot} (h : M.Pairwise Apart) {a b : Lot} (ha : a ∈ M) (hb : b ∈ M) (e : a ≠ b) : Apart a b := by
  induction h with
  | nil => cases ha
  | cons hh _ ih =>
    rcases List.mem_cons.mp ha with z | z <;> rcases List.mem_cons.mp hb with y | y
    · exact absurd (z.trans y.symm) e
    · rw [z]
      exact hh b y
    · rw [y]
      exact (hh a z).symm
    · exact ih z y
theorem cm_ok : ∀ (k : Nat) {L : List Nm} {ss : List (List Lot)}, Sts L ss → L.length ≤ k → Cm k L ss
  | 0, L, ss, h, hk => by
    have := h.two
    omega
  | k + 1, L, ss, h, hk => by
    have h2 := h.two
    have n8 := h.n8
    have sub : ∀ g ∈ partedBy L ss, 1 < g.length → Cm k g (ss.map fun st => cutDown st g) := fun g hg hb => by
      have G := grp_of h hg
      have hl := grp_less h hg
      exact cm_ok k (cut_sts h G.seq hb) (by omega)
    have hlv : ∀ l ∈ commonL (k + 1) L ss, LotV L l := fun l hl => by
      rcases mem_common.mp hl with e | ⟨g, hg, hb, q⟩
      · rw [e]
        exact lotV_cs h2
      · exact ((sub g hg hb).lv l q).up (grp_of h hg).seq
    have hfew : (commonL (k + 1) L ss).length ≤ L.length * L.length := by
      show (L :: (partedBy L ss).flatMap (fun lot => if isBig lot = true then commonL k lot (ss.map fun st => cutDown st lot) else [])).length ≤ _
      rw [List.length_cons, flatMap_sumN]
      have e1 : sumN (fun g => (if isBig g = true then commonL k g (ss.map fun st => cutDown st g) else []).length) (partedBy L ss) ≤ sumN (fun g : Lot => g.length * (L.length - 1)) (partedBy L ss) := sumN_le fun g hg => by
        by_cases b : isBig g = true
        · rw [if_pos b]
          have h3 := (sub g hg (big_iff.mp b)).few
          have h4 := grp_less h hg
          exact Nat.le_trans h3 (Nat.mul_le_mul_left _ (by omega))
        · rw [if_neg b]
          exact Nat.zero_le _
      rw [sumN_mul, ← flatten_len] at e1
      have hfn : (partedBy L ss).flatten.Nodup := List.pairwise_flatten.mpr ⟨fun g hg => by
        rw [(grp_of h hg).seq]
        exact h.nd.filter _, grp_apart.imp fun {a b} q c hc d hd e => q c hc (by rw [e]; exact hd)⟩
      have hfl := nodup_len (m := L) hfn fun c hc => by
        obtain ⟨g, hg, q⟩ := List.mem_flatten.mp hc
        exact (grp_of h hg).sub q
      have e2 := Nat.mul_le_mul_right (L.length - 1) hfl
      have e3 : L.length * (L.length - 1) + L.length = L.length * L.length := by
        rw [← Nat.mul_succ]
        congr 1
        omega
      omega
    refine ⟨⟨⟨by omega, h.few, fun st hs => ⟨?_, fun o ho => ?_⟩, fun c hc => names_some h.all h.ne hc⟩, ?_, fun g hg hb => ?_⟩, hlv, fun a ha b hb => ?_, hfew, mem_common.mpr (.inl rfl)⟩
    · have := (h.all st hs).few h.nd n8
      omega
    · have v := (h.all st hs).lv o ho
      refine ⟨by have := v.len; omega, fun e => ?_, fun c hc => v.sub hc⟩
      have := v.two
      rw [e] at this
      cases this
    · have := Nat.mul_le_mul n8 n8
      omega
    · have hb := big_iff.mp hb
      have hl := grp_less h hg
      exact ⟨by omega, (sub g hg hb).cmv⟩
    · rcases mem_common.mp hb with e | ⟨g, hg, hbg, q⟩
      · rw [e]
        exact .inl fun c hc => (hlv a ha).sub hc
      · rcases mem_common.mp ha with e | ⟨g', hg', hbg', q'⟩
        · rw [e]
          exact .inr (.inl fun c hc => (hlv b hb).sub hc)
        · by_cases e : g' = g
          · subst e
            exact (sub g' hg' hbg').lam a q' b q
          · have ap := apart_of grp_apart hg' hg e
            exact .inr (.inr fun c hc z => ap c (((sub g' hg' hbg').lv a q').sub hc) (((sub g hg hbg).lv b q).sub z))
/-- a lot of all nests in all -/
theorem strict_cm : ∀ (k : Nat) {L : List Nm} {ss : List (List Lot)} {S : Lot}, Sts L ss → L.length ≤ k → LotV L S → (∀ st ∈ ss, S ∈ st) → S ∈ commonL k L ss
  | 0, L, ss, S, h, hk, _, _ => by
    have := h.two
    omega
  | k + 1, L, ss, S, h, hk, v, hS => by
    by_cases e : S = L
    · exact mem_common.mpr (.inl e)
    · have h2 := h.two
      have hlt : S.length < L.length := by
        refine Classical.byContradiction fun z => e (v.full h.nd (lotV_cs h2) (fun c hc => v.sub hc) ?_)
        omega
      obtain ⟨c, hc⟩ : ∃ c, c ∈ S := List.exists_mem_of_length_pos (by have := v.two; omega)
      obtain ⟨g, hg, hcg⟩ := grp_cover (ss := ss) (v.sub hc)
      have G := grp_of h hg
      have hsub : ∀ d ∈ S, d ∈ g := fun d hd => G.all c hcg d (v.sub hd) fun st hs => .inr ⟨S, hS st hs, hlt, hc, hd⟩
      have vg : LotV g S := v.down G.seq hsub
      have hb : 1 < g.length := by
        have := vg.len
        have := v.two
        omega
      have hl := grp_less h hg
      refine mem_common.mpr (.inr ⟨g, hg, hb, strict_cm k (cut_sts h G.seq hb) (by omega) vg fun s hs => ?_⟩)
      obtain ⟨st, hst, rfl⟩ := List.mem_map.mp hs
      exact (mem_cut hb).mpr (.inl ⟨S, hS st hst, vg.seq.symm, v.two⟩)
theorem cm_st {k : Nat} {L : List Nm} {ss : List (List Lot)} (h : Sts L ss) (hk : L.length ≤ k) : St L (stemmaOf L (commonL k L ss)) := by
  have c := cm_ok k h hk
  exact st_of h.two (fun l hl _ => (c.lv l hl).seq) c.lam
theorem mem_cm {k : Nat} {L : List Nm} {ss : List (List Lot)} (h : Sts L ss) (hk : L.length ≤ k) {l : Lot} : l ∈ stemmaOf L (commonL k L ss) ↔ l ∈ commonL k L ss := by
  have c := cm_ok k h hk
  rw [mem_stem h.two]
  constructor
  · rintro (⟨q, _⟩ | e)
    · exact q
    · rw [e]
      exact c.top
  · intro q
    exact .inl ⟨q, (c.lv l q).two⟩
/-- put to them: told again -/
theorem cm_again : ∀ (k : Nat) {L : List Nm} {ss : List (List Lot)}, Sts L ss → ss.length ≤ 8 → L.length ≤ k → commonL k L (ss ++ [stemmaOf L (commonL k L ss)]) = commonL k L ss
  | 0, L, ss, h, _, hk => by
    have := h.two
    omega
  | k + 1, L, ss, h, h8, hk => by
    have hC := cm_st h hk
    obtain ⟨C, eC⟩ : ∃ C, C = stemmaOf L (commonL (k + 1) L ss) := ⟨_, rfl⟩
    have hmC : ∀ l, l ∈ C ↔ l ∈ commonL (k + 1) L ss := fun l => by rw [eC]; exact mem_cm h hk
    rw [← eC] at hC ⊢
    have h' : Sts L (ss ++ [C]) := h.snoc h8 hC
    have ep : partedBy L (ss ++ [C]) = partedBy L ss := parted_congr fun a ha b hb => by
      rw [key_eq h'.nd h'.all ha hb, key_eq h.nd h.all ha hb]
      constructor
      · intro q st hs
        exact q st (List.mem_append_left _ hs)
      · intro q st hs
        rcases List.mem_append.mp hs with z | z
        · exact q st z
        · rw [List.mem_singleton.mp z]
          by_cases e : a = b
          · exact .inl e
          · obtain ⟨g, hg, hag⟩ := grp_cover (ss := ss) ha
            have G := grp_of h hg
            have hbg := G.all a hag b hb q
            have gn : g.Nodup := by
              rw [G.seq]
              exact h.nd.filter _
            have hbig : 1 < g.length := by
              have := nodup_len (l := [a, b]) (m := g) (by simp [e]) fun c hc => by
                rcases List.mem_cons.mp hc with y | y
                · rw [y]
                  exact hag
                · rw [List.mem_singleton.mp y]
                  exact hbg
              exact this
            have hl := grp_less h hg
            refine .inr ⟨g, (hmC g).mpr (mem_common.mpr (.inr ⟨g, hg, hbig, (cm_ok k (cut_sts h G.seq hbig) (by omega)).top⟩)), hl, hag, hbg⟩
    show L :: (partedBy L (ss ++ [C])).flatMap (fun lot => if isBig lot = true then commonL k lot ((ss ++ [C]).map fun st => cutDown st lot) else []) = L :: (partedBy L ss).flatMap (fun lot => if isBig lot = true then commonL k lot (ss.map fun st => cutDown st lot) else [])
    rw [ep]
    congr 1
    refine flatMap_same fun g hg => ?_
    by_cases b : isBig g = true
    · rw [if_pos b, if_pos b]
      have hb := big_iff.mp b
      have G := grp_of h hg
      have hl := grp_less h hg
      have hsg := cut_sts h G.seq hb
      have hkg : g.length ≤ k := by omega
      have e1 : cutDown C g = stemmaOf g (commonL k g (ss.map fun st => cutDown st g)) := by
        refine (cut_st hC hb).ext (cm_st hsg hkg) fun m => ?_
        rw [mem_cut hb, mem_cm hsg hkg]
        constructor
        · rintro (⟨l, hlC, rfl, hm⟩ | e)
          · rcases mem_common.mp ((hmC l).mp hlC) with e | ⟨g', hg', hb', q⟩
            · have e2 : inSeq g l = g := by
                rw [e]
                exact List.filter_eq_self.mpr fun c hc => memb_iff.mpr (G.sub hc)
              rw [e2]
              exact (cm_ok k hsg hkg).top
            · have hl' := grp_less h hg'
              have c' := cm_ok k (cut_sts h (grp_of h hg').seq hb') (by omega)
              have vl := c'.lv l q
              by_cases e : g' = g
              · subst e
                rw [← vl.seq]
                exact q
              · exfalso
                have ap := apart_of grp_apart hg' hg e
                have : inSeq g l = [] := List.filter_eq_nil_iff.mpr fun c hc z => ap c (vl.sub (memb_iff.mp z)) hc
                rw [this] at hm
                cases hm
          · rw [e]
            exact (cm_ok k hsg hkg).top
        · intro q
          have vm := (cm_ok k hsg hkg).lv m q
          exact .inl ⟨m, (hmC m).mpr (mem_common.mpr (.inr ⟨g, hg, hb, q⟩)), vm.seq.symm, vm.two⟩
      rw [List.map_append, List.map_cons, List.map_nil, e1]
      exact cm_again k hsg (by rw [List.length_map]; exact h8) hkg
    · rw [if_neg b, if_neg b]
section
variable {cs : List Nm} {ss : List (List Lot)}
theorem Sts.cmm (h : Sts cs ss) : CmmV cs ss := by
  have n8 := h.n8
  have c := cm_ok 12 h (by omega)
  exact ⟨h.mid, h.two, c.cmv, fun l hl => ⟨by have := (c.lv l hl).len; omega, fun d hd => (c.lv l hl).sub hd⟩⟩
theorem Sts.st_common (h : Sts cs ss) : St cs (commonOf cs ss) := cm_st h (by have := h.n8; omega)
theorem Sts.common_again (h : Sts cs ss) (h8 : ss.length ≤ 8) : commonOf cs (ss ++ [commonOf cs ss]) = commonOf cs ss := by
  unfold commonOf
  rw [cm_again 12 h h8 (by have := h.n8; omega)]
theorem Sts.strict_common (h : Sts cs ss) {l : Lot} (hl : l ∈ strictOf cs ss) : l ∈ commonOf cs ss := by
  have n8 := h.n8
  exact (mem_cm h (by omega)).mpr (strict_cm 12 h (by omega) (h.st_strict.lv l hl) (h.mem_strict.mp hl))
theorem plain : PlainK := fun cs ss nd h2 h8 hn1 hn8 hd => by
  have h : Sts cs ss := ⟨nd, h8, hn1, by omega, fun st hs => drawn_st nd h2 (hd st hs)⟩
  have hsf := h.st_strict.few nd h8
  have hmf := h.st_major.few nd h8
  have hlf := h.st_mild.few nd h8
  refine ⟨h.mid, fun s0 h0 => h.low h0, ⟨h.cmm, (h.snoc hn8 h.st_strict).mid, h.strict_again hn8, (h.snoc hn8 h.st_major).mid, h.major_again hn8, (h.snoc hn8 h.st_mild).mid, h.mild_again hn8, (h.snoc hn8 h.st_common).cmm, h.common_again hn8, fun st hs l hl => ?_, ?_, fun l hl => ?_, by omega⟩, h.strV, ⟨h.cmm, (h.snoc hn8 h.st_major).mid, h.least_major, h.st_strict.stemV nd h8, h.st_mild.stemV nd h8, h.st_common.stemV nd h8, h.st_major.stemV nd h8, fun one ho => ?_, h.far_major⟩⟩
  · rcases List.mem_append.mp hs with z | z
    · simp only [List.mem_cons, List.not_mem_nil, or_false] at z
      rcases z with e | e | e | e <;> rw [e]
      · exact hl
      · exact h.strict_major hl
      · exact h.strict_mild hl
      · exact h.strict_common hl
    · exact h.mem_strict.mp hl st z
  · refine ⟨⟨h.st_major.stemV nd h8, h.st_mild.stemV nd h8⟩, ⟨by omega, by omega⟩, fun a ha b hb => ?_⟩
    exact (h.clash_iff (h.major_flat ha) (h.mem_mild.mp hb).1).mpr ((h.mem_mild.mp hb).2 a (h.major_flat ha)).symm
  · unfold joinOf
    have v : LotV cs l := by
      rcases List.mem_append.mp hl with z | z
      · exact h.st_major.lv l z
      · exact h.st_mild.lv l z
    exact (mem_stem h2).mpr (.inl ⟨hl, v.two⟩)
  · refine h.far_low ?_
    rcases List.mem_append.mp ho with z | z
    · simp only [List.mem_cons, List.not_mem_nil, or_false] at z
      rcases z with e | e | e <;> rw [e]
      · exact h.st_strict.nd
      · exact h.st_mild.nd
      · exact h.st_common.nd
    · exact (h.all one z).nd
end
end Pg
theorem PySem.Challenge.cw_copiedfrom_k61_whole_what_several_have_p_holds : PySem.Challenge.rw_copiedfrom_k61_whole_what_several_have_p.Holds :=
  Pg.holds_of Pg.plain
