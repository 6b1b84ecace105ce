import PyProof.Rows.All
import Wide.All
import OpenK.AllK
import Wide.FinOn
import HandS.ForMost
import HandS.Deep
import HandS.TupAny
import HandS.TupSets
import HandS.EndBits
import KE.KDictKeyed
import KE.KDictLaw
import KE.KDictWalk
import KE.SortData
import KE.SortLaws
import HandS.Walk
import KE.KDictSum
import KE.KDictCopyH
import HandS.SetBool
import HandS.DictComp
import HandS.SetFor
import HandS.Iter
import KE.GoesMore
import KE.KDictDisplayH
import HandS.SetKeys
import HandS.Strs
import KE.KLam
import PySem.Challenge.RW_skewer_k33_whole_values_by_play
set_option Elab.async false
set_option linter.all false
set_option maxHeartbeats 4000000
set_option maxRecDepth 100000
/-! Sk: data made of tuples, as it stands on the tracked heap. -/
namespace Sk
open PySem L2 PySem.Spec PyProof.Rows

/-! ### what tuples stay -/
def TK (K : PySem.W.Frag) (H H' : Hp) : Prop := ∀ a xs, SqT K H a xs → SqT K H' a xs
section
variable {K : PySem.W.Frag} {H H1 H2 : Hp} {p : Addr} {o : HO}
theorem TK.rfl : TK K H H := fun _ _ h => h
theorem TK.trans (a : TK K H H1) (b : TK K H1 H2) : TK K H H2 := fun x xs h => b x xs (a x xs h)
theorem TK.same (e : Same H H1) : TK K H H1 := fun a xs h => by
  rcases h with (h | ⟨o, h⟩) | h
  · exact .inl (.inl (e _ _ h))
  · exact .inl (.inr ⟨o, e _ _ h⟩)
  · exact .inr h
/-- what is no tuple may be written -/
def NoT : Option HO → Prop
  | some (.tup _) => False
  | some (.frz _ _) => False
  | _ => True
theorem TK.wr (h : NoT (H p)) : TK K H (upd H p o) := fun a xs q => by
  rcases q with (q | ⟨u, q⟩) | q
  · by_cases e : a = p
    · subst e; rw [q] at h; exact h.elim
    · exact .inl (.inl (by rw [upd_ne e]; exact q))
  · by_cases e : a = p
    · subst e; rw [q] at h; exact h.elim
    · exact .inl (.inr ⟨u, by rw [upd_ne e]; exact q⟩)
  · exact .inr q
theorem TK.new (h : H p = none) : TK K H (upd H p o) := TK.wr (by rw [h]; trivial)
theorem Same.new (h : H p = none) : Same H (upd H p o) := fun b u q => by rw [upd_ne (ne_of_none q h)]; exact q
/-- what was not there may change -/
theorem Same.mut (e : Same H H1) (h : H p = none) : Same H (upd H1 p o) := fun b u q => by rw [upd_ne (ne_of_none q h)]; exact e b u q
end

/-! ### keys -/
mutual
inductive KR (K : PySem.W.Frag) (H : Hp) : V → NestedKey → Prop
  | non : KR K H .non .none
  | int (i : Int) : KR K H (.int i) (.num i)
  | str (x : Str) : KR K H (.str x) (.text x)
  | tup {a : Addr} {xs : List V} {ks : List NestedKey} : SqT K H a xs → KRs K H xs ks → KR K H (.ref a) (.tup ks)
inductive KRs (K : PySem.W.Frag) (H : Hp) : List V → List NestedKey → Prop
  | nil : KRs K H [] []
  | cons {v : V} {vs : List V} {k : NestedKey} {ks : List NestedKey} : KR K H v k → KRs K H vs ks → KRs K H (v :: vs) (k :: ks)
end
section
variable {K : PySem.W.Frag} {H H' : Hp}
mutual
theorem KR.fut (e : TK K H H') : ∀ (k : NestedKey) (v : V), KR K H v k → KR K H' v k
  | .none, _, h => by cases h; exact .non
  | .num _, _, h => by cases h; exact .int _
  | .text _, _, h => by cases h; exact .str _
  | .tup ks, _, h => by
    cases h with
    | tup h1 h2 => exact .tup (e _ _ h1) (KRs.fut e ks _ h2)
theorem KRs.fut (e : TK K H H') : ∀ (ks : List NestedKey) (vs : List V), KRs K H vs ks → KRs K H' vs ks
  | [], _, h => by cases h; exact .nil
  | k :: ks, _, h => by
    cases h with
    | cons h1 h2 => exact .cons (KR.fut e k _ h1) (KRs.fut e ks _ h2)
end
mutual
theorem KR.dp : ∀ (k : NestedKey) (v : V), KR K H v k → Dp K H v k.data
  | .none, _, h => by cases h; exact .non
  | .num _, _, h => by cases h; exact .int _
  | .text _, _, h => by cases h; exact .str _
  | .tup ks, _, h => by
    cases h with
    | tup h1 h2 => exact .tup h1 (KRs.dp ks _ h2)
theorem KRs.dp : ∀ (ks : List NestedKey) (vs : List V), KRs K H vs ks → DpAll K H vs (NestedKey.datas ks)
  | [], _, h => by cases h; exact .nil
  | k :: ks, _, h => by
    cases h with
    | cons h1 h2 => exact .cons (KR.dp k _ h1) (KRs.dp ks _ h2)
end
theorem KRs.length : ∀ {ks : List NestedKey} {vs : List V}, KRs K H vs ks → vs.length = ks.length
  | [], _, h => by cases h; rfl
  | _ :: ks, _, h => by
    cases h with
    | cons _ h2 => simp [KRs.length h2]
theorem KRs.ints : ∀ ns : List Int, KRs K H (ns.map V.int) (ns.map NestedKey.num)
  | [] => .nil
  | n :: ns => .cons (.int n) (KRs.ints ns)
theorem KRs.ints_inv : ∀ {ns : List Int} {vs : List V}, KRs K H vs (ns.map NestedKey.num) → vs = ns.map V.int
  | [], _, h => by cases h; rfl
  | n :: ns, _, h => by
    cases h with
    | cons h1 h2 => cases h1; rw [KRs.ints_inv h2]; rfl
end
section
variable {X : Cx} {pins : List (Addr × Obj)} {σ : L2.St} {H : Hp} {s : Shared}
mutual
theorem KR.nested (I : Inv X pins σ H s) : ∀ (k : NestedKey) (v : V) (u : Value), KR X.K H v k → RelV v u → NestedIs s.heap k u
  | .none, _, _, h, r => by cases h; cases r; exact .none
  | .num _, _, _, h, r => by cases h; obtain ⟨t, e⟩ := r; subst e; exact .int _ t
  | .text _, _, _, h, r => by cases h; obtain ⟨t, e⟩ := r; subst e; exact .text _ t
  | .tup ks, _, _, h, r => by
    cases h with
    | tup h1 h2 =>
      cases r
      obtain ⟨its, rv, ⟨o, ho, hc, n, hd⟩, _⟩ := I.tuple h1
      exact .tup ho hc hd (KRs.nested I ks _ _ h2 (by simpa using rv))
theorem KRs.nested (I : Inv X pins σ H s) : ∀ (ks : List NestedKey) (vs : List V) (us : List Value), KRs X.K H vs ks → Vals vs us → NestedAll s.heap ks us
  | [], _, _, h, r => by cases h; cases r; exact .nil
  | k :: ks, _, _, h, r => by
    cases h with
    | cons h1 h2 =>
      cases r with
      | cons r1 r2 => exact .cons (KR.nested I k _ _ h1 r1) (KRs.nested I ks _ _ h2 r2)
end
end

/-! ### equal data, equal keys -/
mutual
theorem eqv_data : ∀ k k' : NestedKey, PyData.eqv k.data k'.data = NestedKey.beq k k'
  | .none, .none => by simp [NestedKey.data, PyData.eqv, NestedKey.beq]
  | .none, .num _ => by simp [NestedKey.data, PyData.eqv, NestedKey.beq]
  | .none, .text _ => by simp [NestedKey.data, PyData.eqv, NestedKey.beq]
  | .none, .tup _ => by simp [NestedKey.data, PyData.eqv, NestedKey.beq]
  | .num _, .none => by simp [NestedKey.data, PyData.eqv, NestedKey.beq]
  | .num a, .num b => by simp only [NestedKey.data, PyData.eqv, NestedKey.beq, Bool.beq_eq_decide_eq]
  | .num _, .text _ => by simp [NestedKey.data, PyData.eqv, NestedKey.beq]
  | .num _, .tup _ => by simp [NestedKey.data, PyData.eqv, NestedKey.beq]
  | .text _, .none => by simp [NestedKey.data, PyData.eqv, NestedKey.beq]
  | .text _, .num _ => by simp [NestedKey.data, PyData.eqv, NestedKey.beq]
  | .text a, .text b => by simp only [NestedKey.data, PyData.eqv, NestedKey.beq, Bool.beq_eq_decide_eq]
  | .text _, .tup _ => by simp [NestedKey.data, PyData.eqv, NestedKey.beq]
  | .tup _, .none => by simp [NestedKey.data, PyData.eqv, NestedKey.beq]
  | .tup _, .num _ => by simp [NestedKey.data, PyData.eqv, NestedKey.beq]
  | .tup _, .text _ => by simp [NestedKey.data, PyData.eqv, NestedKey.beq]
  | .tup a, .tup b => by
    show PyData.eqvAll (NestedKey.datas a) (NestedKey.datas b) = NestedKey.beqAll a b
    exact eqv_datas a b
theorem eqv_datas : ∀ k k' : List NestedKey, PyData.eqvAll (NestedKey.datas k) (NestedKey.datas k') = NestedKey.beqAll k k'
  | [], [] => by simp [NestedKey.datas, PyData.eqvAll, NestedKey.beqAll]
  | [], _ :: _ => by simp [NestedKey.datas, PyData.eqvAll, NestedKey.beqAll]
  | _ :: _, [] => by simp [NestedKey.datas, PyData.eqvAll, NestedKey.beqAll]
  | a :: as, b :: bs => by
    show (PyData.eqv a.data b.data && PyData.eqvAll (NestedKey.datas as) (NestedKey.datas bs)) = (NestedKey.beq a b && NestedKey.beqAll as bs)
    rw [eqv_data a b, eqv_datas as bs]
end
theorem eqv_dec (k k' : NestedKey) : PyData.eqv k.data k'.data = decide (k = k') := by rw [eqv_data, NestedKey.decide_eq]

mutual
theorem depth_data : ∀ k : NestedKey, k.data.depth = k.depth
  | .none => by simp [NestedKey.data, PyData.depth, NestedKey.depth]
  | .num _ => by simp [NestedKey.data, PyData.depth, NestedKey.depth]
  | .text _ => by simp [NestedKey.data, PyData.depth, NestedKey.depth]
  | .tup ks => by
    have h := depth_datas ks
    simp only [NestedKey.data, PyData.depth, NestedKey.depth, h]
    try omega
theorem depth_datas : ∀ ks : List NestedKey, PyData.depthAll (NestedKey.datas ks) = NestedKey.depthAll ks
  | [] => by simp [NestedKey.datas, PyData.depthAll, NestedKey.depthAll]
  | k :: ks => by
    have h1 := depth_data k
    have h2 := depth_datas ks
    simp only [NestedKey.datas, PyData.depthAll, NestedKey.depthAll, h1, h2]
end

/-! ### types whose values are carried by keys -/
class Enc (β : Type) where
  enc : β → NestedKey
  inj : ∀ {a b : β}, enc a = enc b → a = b
  lay : ∀ b, (enc b).data.canLay0 = true
  dep : ∀ b, (enc b).depth ≤ 5
abbrev en {β : Type} [Enc β] (b : β) : NestedKey := Enc.enc b
instance (priority := low) decEnc {β : Type} [Enc β] : DecidableEq β := fun a b => if h : en a = en b then isTrue (Enc.inj h) else isFalse fun e => h (e ▸ rfl)
theorem enc_iff {β : Type} [Enc β] {a b : β} : en a = en b ↔ a = b := ⟨Enc.inj, fun e => e ▸ rfl⟩
/-- v stands for b -/
def R {β : Type} [Enc β] (K : PySem.W.Frag) (H : Hp) (v : V) (b : β) : Prop := KR K H v (en b)
inductive Rs {β : Type} [Enc β] (K : PySem.W.Frag) (H : Hp) : List V → List β → Prop
  | nil : Rs K H [] []
  | cons {v : V} {vs : List V} {b : β} {bs : List β} : R K H v b → Rs K H vs bs → Rs K H (v :: vs) (b :: bs)
section
variable {β : Type} [Enc β] {K : PySem.W.Frag} {H H' : Hp}
theorem R.fut {v : V} {b : β} (h : R K H v b) (e : TK K H H') : R K H' v b := KR.fut e _ _ h
theorem Rs.fut {vs : List V} {bs : List β} (h : Rs K H vs bs) (e : TK K H H') : Rs K H' vs bs := by
  induction h with
  | nil => exact .nil
  | cons h1 _ ih => exact .cons (h1.fut e) ih
theorem Rs.length {vs : List V} {bs : List β} (h : Rs K H vs bs) : vs.length = bs.length := by
  induction h with
  | nil => rfl
  | cons _ _ ih => simp [ih]
theorem Rs.get {vs : List V} {bs : List β} (h : Rs K H vs bs) : ∀ {i : Nat} {v : V}, vs[i]? = some v → ∃ b, bs[i]? = some b ∧ R K H v b := by
  induction h with
  | nil => intro i v e; simp at e
  | @cons v0 vs b bs h1 _ ih =>
    intro i v e
    cases i with
    | zero =>
      simp at e
      subst e
      exact ⟨b, rfl, h1⟩
    | succ i =>
      simp at e
      obtain ⟨b', e', r⟩ := ih e
      exact ⟨b', by simpa using e', r⟩
theorem Rs.get' {vs : List V} {bs : List β} (h : Rs K H vs bs) : ∀ {i : Nat} {b : β}, bs[i]? = some b → ∃ v, vs[i]? = some v ∧ R K H v b := by
  induction h with
  | nil => intro i v e; simp at e
  | @cons v0 vs b bs h1 _ ih =>
    intro i v e
    cases i with
    | zero =>
      simp at e
      subst e
      exact ⟨v0, rfl, h1⟩
    | succ i =>
      simp at e
      obtain ⟨b', e', r⟩ := ih e
      exact ⟨b', by simpa using e', r⟩
theorem Rs.append {vs ws : List V} {bs cs : List β} (h : Rs K H vs bs) (h' : Rs K H ws cs) : Rs K H (vs ++ ws) (bs ++ cs) := by
  induction h with
  | nil => exact h'
  | cons h1 _ ih => exact .cons h1 ih
theorem Rs.snoc {vs : List V} {v : V} {bs : List β} {b : β} (h : Rs K H vs bs) (h' : R K H v b) : Rs K H (vs ++ [v]) (bs ++ [b]) := h.append (.cons h' .nil)
theorem Rs.dropLast {vs : List V} {bs : List β} (h : Rs K H vs bs) : Rs K H vs.dropLast bs.dropLast := by
  induction h with
  | nil => exact .nil
  | @cons v vs b bs h1 h2 ih =>
    cases h2 with
    | nil => exact .nil
    | cons h3 h4 => exact .cons h1 ih
theorem Rs.dp {vs : List V} {bs : List β} (h : Rs K H vs bs) : DpAll K H vs (bs.map fun b => (en b).data) := by
  induction h with
  | nil => exact .nil
  | cons h1 _ ih => exact .cons (KR.dp _ _ h1) ih
theorem Rs.nilL {bs : List β} (h : Rs K H [] bs) : bs = [] := by cases h; rfl
theorem shaped_en (b : β) : SeqAt.shaped (en b).data = true := by
  have h : (en b).depth ≤ 5 := Enc.dep b
  show ((en b).data.canLay0 && decide ((en b).data.depth ≤ 64)) = true
  rw [Enc.lay, Bool.true_and, depth_data]
  exact decide_eq_true (by omega)
theorem lay_all : ∀ bs : List β, PyData.canLayAll0 (bs.map fun b => (en b).data) = true
  | [] => by simp [PyData.canLayAll0]
  | b :: bs => by
    show ((en b).data.canLay0 && PyData.canLayAll0 (bs.map fun b => (en b).data)) = true
    rw [Enc.lay, lay_all bs]
    rfl
theorem dep_all : ∀ bs : List β, PyData.depthAll (bs.map fun b => (en b).data) ≤ 5
  | [] => by simp [PyData.depthAll]
  | b :: bs => by
    have h1 := dep_all bs
    have h2 : (en b).depth ≤ 5 := Enc.dep b
    have h3 := depth_data (en b)
    simp only [List.map_cons, PyData.depthAll]
    omega
theorem shaped_list (bs : List β) : SeqAt.shaped (.list (bs.map fun b => (en b).data)) = true := by
  have h1 := dep_all bs
  have h2 : PyData.depth (.list (bs.map fun b => (en b).data)) ≤ 64 := by
    simp only [PyData.depth]
    omega
  show (PyData.canLay0 (.list (bs.map fun b => (en b).data)) && decide (PyData.depth (.list (bs.map fun b => (en b).data)) ≤ 64)) = true
  rw [Bool.and_eq_true]
  exact ⟨by simp only [PyData.canLay0]; exact lay_all bs, decide_eq_true h2⟩
theorem shaped_tup (bs : List β) : SeqAt.shaped (.tuple (bs.map fun b => (en b).data)) = true := by
  have h1 := dep_all bs
  have h2 : PyData.depth (.tuple (bs.map fun b => (en b).data)) ≤ 64 := by
    simp only [PyData.depth]
    omega
  show (PyData.canLay0 (.tuple (bs.map fun b => (en b).data)) && decide (PyData.depth (.tuple (bs.map fun b => (en b).data)) ≤ 64)) = true
  rw [Bool.and_eq_true]
  exact ⟨by simp only [PyData.canLay0]; exact lay_all bs, decide_eq_true h2⟩
theorem any_mem (b : β) (bs : List β) : ((bs.map fun b => (en b).data).any fun z => PyData.eqv z (en b).data) = decide (b ∈ bs) := by
  induction bs with
  | nil => simp
  | cons c cs ih =>
    rw [List.map_cons, List.any_cons, ih, eqv_dec]
    by_cases h : c = b
    · subst h; simp
    · have h1 : ¬ en c = en b := fun e => h (Enc.inj e)
      have h2 : ¬ b = c := fun e => h e.symm
      simp [h1, h2]
end

/-! ### ==, in -/
section
variable {X : Cx} (β : Type) [Enc β]
def rEqE (K : PySem.W.Frag) : R2 := fun x y H Q => ∃ b b' : β, R K H x b ∧ R K H y b' ∧ Q (.bl (decide (b = b'))) H
def rNeE (K : PySem.W.Frag) : R2 := fun x y H Q => ∃ b b' : β, R K H x b ∧ R K H y b' ∧ Q (.bl (!decide (b = b'))) H
theorem dec_en {β : Type} [Enc β] (b b' : β) : PyData.eqv (en b).data (en b').data = decide (b = b') := by
  rw [eqv_dec]
  exact decide_eq_decide.mpr enc_iff
theorem op_eqE (hu : X.A.units + 64 < cLine) : OpR X (compareOp .Eq) (rEqE β X.K) := by
  intro pins s σ H x y v u Q I rx ry h
  obtain ⟨b, b', h1, h2, q⟩ := h
  exact op_eqD hu pins s σ H x y v u Q I rx ry ⟨_, _, KR.dp _ _ h1, KR.dp _ _ h2, shaped_en b, shaped_en b', by rw [dec_en]; exact q⟩
theorem op_neE (hu : X.A.units + 64 < cLine) : OpR X (compareOp .NotEq) (rNeE β X.K) := by
  intro pins s σ H x y v u Q I rx ry h
  obtain ⟨b, b', h1, h2, q⟩ := h
  exact op_neD hu pins s σ H x y v u Q I rx ry ⟨_, _, KR.dp _ _ h1, KR.dp _ _ h2, shaped_en b, shaped_en b', by rw [dec_en]; exact q⟩
def rInE (K : PySem.W.Frag) : R2 := fun x y H Q => ∃ (b : β) (bs : List β) (a : Addr) (xs : List V), R K H x b ∧ y = .ref a ∧ SqL K H a xs ∧ Rs K H xs bs ∧ Q (.bl (decide (b ∈ bs))) H
def rNotInE (K : PySem.W.Frag) : R2 := fun x y H Q => ∃ (b : β) (bs : List β) (a : Addr) (xs : List V), R K H x b ∧ y = .ref a ∧ SqL K H a xs ∧ Rs K H xs bs ∧ Q (.bl (!decide (b ∈ bs))) H
theorem op_inE (hu : X.A.units + 65 < cLine) : OpR X (compareOp .In) (rInE β X.K) := by
  intro pins s σ H x y v u Q I rx ry h
  obtain ⟨b, bs, a, xs, h1, h2, h3, h4, q⟩ := h
  subst h2
  exact op_inD hu pins s σ H x (.ref a) v u Q I rx ry ⟨_, _, KR.dp _ _ h1, .lst h3 h4.dp, shaped_en b, shaped_list bs, by rw [any_mem]; exact q⟩
theorem op_notInE (hu : X.A.units + 65 < cLine) : OpR X (compareOp .NotIn) (rNotInE β X.K) := by
  intro pins s σ H x y v u Q I rx ry h
  obtain ⟨b, bs, a, xs, h1, h2, h3, h4, q⟩ := h
  subst h2
  exact op_notInD hu pins s σ H x (.ref a) v u Q I rx ry ⟨_, _, KR.dp _ _ h1, .lst h3 h4.dp, shaped_en b, shaped_list bs, by rw [any_mem]; exact q⟩
/-- xs == [], xs != [] (lists) -/
def rEqL (K : PySem.W.Frag) : R2 := fun x y H Q => ∃ (bs : List β) (a c : Addr) (xs : List V), x = .ref a ∧ SqL K H a xs ∧ Rs K H xs bs ∧ y = .ref c ∧ SqL K H c [] ∧ Q (.bl (decide (bs = []))) H
def rNeL (K : PySem.W.Frag) : R2 := fun x y H Q => ∃ (bs : List β) (a c : Addr) (xs : List V), x = .ref a ∧ SqL K H a xs ∧ Rs K H xs bs ∧ y = .ref c ∧ SqL K H c [] ∧ Q (.bl (!decide (bs = []))) H
theorem eqv_nil {β : Type} [Enc β] (bs : List β) : PyData.eqv (.list (bs.map fun b => (en b).data)) (.list []) = decide (bs = []) := by
  cases bs with
  | nil => simp [PyData.eqv, PyData.eqvAll]
  | cons b bs => simp [PyData.eqv, PyData.eqvAll]
theorem op_eqL (hu : X.A.units + 64 < cLine) : OpR X (compareOp .Eq) (rEqL β X.K) := by
  intro pins s σ H x y v u Q I rx ry h
  obtain ⟨bs, a, c, xs, e1, h1, h2, e2, h3, q⟩ := h
  subst e1 e2
  exact op_eqD hu pins s σ H _ _ v u Q I rx ry ⟨_, _, .lst h1 h2.dp, .lst h3 .nil, shaped_list bs, by decide, by rw [eqv_nil]; exact q⟩
theorem op_neL (hu : X.A.units + 64 < cLine) : OpR X (compareOp .NotEq) (rNeL β X.K) := by
  intro pins s σ H x y v u Q I rx ry h
  obtain ⟨bs, a, c, xs, e1, h1, h2, e2, h3, q⟩ := h
  subst e1 e2
  exact op_neD hu pins s σ H _ _ v u Q I rx ry ⟨_, _, .lst h1 h2.dp, .lst h3 .nil, shaped_list bs, by decide, by rw [eqv_nil]; exact q⟩
end
end Sk

/-! Sk: dicts whose keys are data made of tuples. -/
namespace Sk
open PySem L2 PySem.Spec PyProof.Rows

class EncT (β : Type) extends Enc β where
  tup : ∀ b : β, ∃ ks, enc b = .tup ks

/-- the dict object at d, by its entries -/
def DN (d : Addr) (es : Array DictEntry) (ep : Nat) : HO := .ext fun h => h.DictRaw d es ep
def entK (w : World) (x : NestedKey × Addr × Value) : DictEntry := ⟨x.1.hash w, .ref x.2.1, x.2.2⟩
inductive Tr {β : Type} [Enc β] (K : PySem.W.Frag) (H : Hp) : List (NestedKey × Addr × Value) → List (β × V) → Prop
  | nil : Tr K H [] []
  | cons {a : Addr} {u : Value} {b : β} {v : V} {xs : List (NestedKey × Addr × Value)} {kvs : List (β × V)} : R K H (.ref a) b → RelV v u → Tr K H xs kvs → Tr K H ((en b, a, u) :: xs) ((b, v) :: kvs)
/-- a dict stands at d: its entries are es -/
structure DictOn {β : Type} [Enc β] (w : World) (K : PySem.W.Frag) (H : Hp) (d : Addr) (es : Array DictEntry) (ep : Nat) (kvs : List (β × V)) : Prop where
  ob : H d = some (DN d es ep)
  sys : (d == sysModules) = false
  tr : ∃ xs, es.toList = xs.map (entK w) ∧ Tr K H xs kvs
  nd : (kvs.map (·.1)).Nodup
  sz : kvs.length ≤ sizeLine
def DictAt {β : Type} [Enc β] (w : World) (K : PySem.W.Frag) (H : Hp) (d : Addr) (kvs : List (β × V)) : Prop := ∃ es ep, DictOn w K H d es ep kvs

section
variable {β : Type} [Enc β] {w : World} {K : PySem.W.Frag} {H H' : Hp} {d : Addr} {es : Array DictEntry} {ep : Nat} {kvs : List (β × V)} {xs : List (NestedKey × Addr × Value)}
theorem Tr.fut (h : Tr K H xs kvs) (e : TK K H H') : Tr K H' xs kvs := by
  induction h with
  | nil => exact .nil
  | cons h1 h2 _ ih => exact .cons (h1.fut e) h2 ih
theorem DictOn.fut (h : DictOn w K H d es ep kvs) (e : TK K H H') (hd : H' d = H d) : DictOn w K H' d es ep kvs :=
  ⟨hd.trans h.ob, h.sys, let ⟨xs, h1, h2⟩ := h.tr; ⟨xs, h1, h2.fut e⟩, h.nd, h.sz⟩
theorem DictAt.fut (h : DictAt w K H d kvs) (e : TK K H H') (hd : H' d = H d) : DictAt w K H' d kvs := let ⟨es, ep, h⟩ := h; ⟨es, ep, h.fut e hd⟩
theorem DictAt.same (h : DictAt w K H d kvs) (e : Same H H') : DictAt w K H' d kvs := by
  obtain ⟨es, ep, h⟩ := h
  exact ⟨es, ep, h.fut (TK.same e) ((e _ _ h.ob).trans h.ob.symm)⟩
theorem DictOn.same (h : DictOn w K H d es ep kvs) (e : Same H H') : DictOn w K H' d es ep kvs := h.fut (TK.same e) ((e _ _ h.ob).trans h.ob.symm)
theorem DictAt.some (h : DictAt w K H d kvs) : ∃ φ, H d = some (.ext φ) := let ⟨_, _, h⟩ := h; ⟨_, h.ob⟩
theorem DictAt.noT (h : DictAt w K H d kvs) : NoT (H d) := by
  obtain ⟨φ, e⟩ := h.some
  rw [e]
  trivial
theorem DictAt.ne (h : DictAt w K H d kvs) {p : Addr} (hp : H p = none) : d ≠ p := by
  obtain ⟨φ, e⟩ := h.some
  exact ne_of_none e hp
theorem DictAt.sz (h : DictAt w K H d kvs) : kvs.length ≤ sizeLine := let ⟨_, _, h⟩ := h; h.sz
theorem DictAt.nd (h : DictAt w K H d kvs) : (kvs.map (·.1)).Nodup := let ⟨_, _, h⟩ := h; h.nd
theorem Tr.length (h : Tr K H xs kvs) : xs.length = kvs.length := by
  induction h with
  | nil => rfl
  | cons _ _ _ ih => simp [ih]
theorem Tr.get (h : Tr K H xs kvs) : ∀ {i : Nat} {b : β} {v : V}, kvs[i]? = some (b, v) → ∃ a u, xs[i]? = some (en b, a, u) ∧ R K H (.ref a) b ∧ RelV v u := by
  induction h with
  | nil => intro i b v e; simp at e
  | @cons a u b v xs kvs h1 h2 _ ih =>
    intro i b' v' e
    cases i with
    | zero =>
      simp at e
      obtain ⟨e1, e2⟩ := e
      subst e1 e2
      exact ⟨a, u, rfl, h1, h2⟩
    | succ i =>
      simp at e
      obtain ⟨a', u', e', r⟩ := ih e
      exact ⟨a', u', by simpa using e', r⟩
theorem Tr.keys (h : Tr K H xs kvs) : xs.map (·.1) = kvs.map fun p => en p.1 := by
  induction h with
  | nil => rfl
  | cons _ _ _ ih => simp [ih]
theorem Tr.nodup (h : Tr K H xs kvs) (nd : (kvs.map (·.1)).Nodup) : (xs.map (·.1)).Nodup := by
  rw [h.keys]
  have e : (kvs.map fun p => en p.1) = (kvs.map (·.1)).map en := by simp
  rw [e]
  exact List.Pairwise.map en (fun a b hne he => hne (Enc.inj he)) nd
theorem Tr.val (h : Tr K H xs kvs) (b : β) : RelO (valV kvs b) ((atKey xs (en b)).map (·.2)) := by
  induction h with
  | nil => trivial
  | @cons a u c v xs kvs h1 h2 _ ih =>
    by_cases e : c = b
    · subst e
      rw [valV_pos rfl]
      have q : atKey ((en c, a, u) :: xs) (en c) = some (a, u) := by simp [atKey]
      rw [q]
      exact h2
    · have e' : ¬ en c = en b := fun z => e (Enc.inj z)
      rw [valV_neg e]
      have q : atKey ((en c, a, u) :: xs) (en b) = atKey xs (en b) := by simp [atKey, e']
      rw [q]
      exact ih
theorem Tr.repl (h : Tr K H xs kvs) (b : β) {v : V} {u : Value} (r : RelV v u) : Tr K H (xs.map (putAt (en b) u)) (kvs.map fun kv => if kv.1 = b then (kv.1, v) else kv) := by
  induction h with
  | nil => exact .nil
  | @cons a u' c v' xs kvs h1 h2 _ ih =>
    by_cases e : c = b
    · subst e
      rw [List.map_cons, List.map_cons, if_pos rfl]
      have q : putAt (en c) u (en c, a, u') = (en c, a, u) := by simp [putAt]
      rw [q]
      exact .cons h1 r ih
    · have e' : ¬ en c = en b := fun z => e (Enc.inj z)
      rw [List.map_cons, List.map_cons, if_neg e]
      have q : putAt (en b) u (en c, a, u') = (en c, a, u') := by simp [putAt, e']
      rw [q]
      exact .cons h1 h2 ih
theorem Tr.append {xs' : List (NestedKey × Addr × Value)} {kvs' : List (β × V)} (h : Tr K H xs kvs) (h' : Tr K H xs' kvs') : Tr K H (xs ++ xs') (kvs ++ kvs') := by
  induction h with
  | nil => exact h'
  | cons h1 h2 _ ih => exact .cons h1 h2 ih
theorem Tr.put (h : Tr K H xs kvs) (b : β) {a : Addr} {v : V} {u : Value} (hb : R K H (.ref a) b) (r : RelV v u) : Tr K H (storedH xs (en b) a u) (putK kvs b v) := by
  have q := h.val b
  unfold storedH putK
  rw [valV_any]
  have e : ((valV kvs b).isSome) = (atKey xs (en b)).isSome := by
    have z := q.isSome_eq
    rw [Option.isSome_map] at z
    exact z
  rw [e]
  cases z : (atKey xs (en b)).isSome with
  | true =>
    simp only [if_true]
    exact h.repl b r
  | false =>
    simp only [Bool.false_eq_true, if_false]
    exact h.append (.cons hb r .nil)
theorem nd_map {kvs : List (β × V)} {b : β} {v : V} : (kvs.map fun kv => if kv.1 = b then (kv.1, v) else kv).map (·.1) = kvs.map (·.1) := by
  rw [List.map_map]
  refine List.map_congr_left fun kv _ => ?_
  show (if kv.1 = b then (kv.1, v) else kv).1 = kv.1
  split <;> rfl
theorem nd_put {kvs : List (β × V)} (b : β) (v : V) (nd : (kvs.map (·.1)).Nodup) : ((putK kvs b v).map (·.1)).Nodup := by
  cases z : valV kvs b with
  | none => exact nd_putK v nd z
  | some y =>
    have e : (kvs.any fun kv => decide (kv.1 = b)) = true := by rw [valV_any, z]; rfl
    unfold putK
    rw [e]
    simp only [if_true]
    rw [nd_map]
    exact nd
end

section
variable {β : Type} [EncT β] {X : Cx} {pins : List (Addr × Obj)} {σ : L2.St} {H : Hp} {s : Shared} {d a : Addr} {es : Array DictEntry} {ep : Nat} {kvs : List (β × V)} {b : β} {A : Around} {E : Value → Shared → Prop}
abbrev NK (X : Cx) : HeapKind X.prog X.w NestedKey := nestedKind X.prog X.w
theorem ref_of {K : PySem.W.Frag} {H : Hp} {v : V} {b : β} (h : R K H v b) : ∃ a, v = .ref a := by
  obtain ⟨ks, e⟩ := EncT.tup b
  unfold R at h
  have h' : KR K H v (.tup ks) := by rw [← e]; exact h
  cases h' with
  | tup _ _ => exact ⟨_, rfl⟩
theorem R.is (I : Inv X pins σ H s) (h : R X.K H (.ref a) b) : (NK X).is s.heap (en b) a := ⟨KR.nested I _ _ _ h rfl, Nat.le_trans (Enc.dep b) (by decide)⟩
theorem Tr.is (I : Inv X pins σ H s) {xs : List (NestedKey × Addr × Value)} (h : Tr X.K H xs kvs) : ∀ x ∈ xs, (NK X).is s.heap x.1 x.2.1 := by
  induction h with
  | nil => intro x hx; cases hx
  | cons h1 _ _ ih =>
    intro x hx
    rcases List.mem_cons.mp hx with e | e
    · subst e; exact R.is I h1
    · exact ih x e
theorem DictOn.raw (I : Inv X pins σ H s) (D : DictOn X.w X.K H d es ep kvs) : s.heap.DictRaw d es ep := (I.hok d _ D.ob).1
theorem DictOn.of (I : Inv X pins σ H s) (D : DictOn X.w X.K H d es ep kvs) : ∃ xs, es.toList = xs.map (entK X.w) ∧ Tr X.K H xs kvs ∧ s.heap.DictOfH (NK X) d xs := by
  obtain ⟨xs, e, t⟩ := D.tr
  obtain ⟨o, ho, hx, hd⟩ := D.raw I
  exact ⟨xs, e, t, o, es, ep, ho, hx, hd, e, t.is I, t.nodup D.nd⟩
theorem dn_ok {P : Program} {w : World} {H : Hp} {h : Heap} {d : Addr} {es : Array DictEntry} {ep : Nat} (r : h.DictRaw d es ep) : ObjOk P w H h d (DN d es ep) :=
  ⟨r, let ⟨o, ho, _⟩ := r; ⟨o, ho⟩, fun _ _ x k => x.at k⟩
/-- behind a store -/
theorem dn_after {h' : Heap} {t' : Nat} {xs : List (NestedKey × Addr × Value)} {kvs' : List (β × V)} (I : Inv X pins σ H s) (D : DictOn X.w X.K H d es ep kvs) (hd : h'.DictOfH (NK X) d xs) (hs : Heap.SameBut d s.heap h')
    (tr : Tr X.K H xs kvs') (nd : (kvs'.map (·.1)).Nodup) (sz : kvs'.length ≤ sizeLine) :
    ∃ ob, Inv X pins σ (upd H d ob) { s with heap := h', toks := t' } ∧ DictAt X.w X.K (upd H d ob) d kvs' := by
  obtain ⟨o, es', ep', ho, hx, hdat, e, _, _⟩ := hd
  have nt : NoT (H d) := by rw [D.ob]; trivial
  refine ⟨DN d es' ep', d_write I (by rw [D.ob]; trivial) hs ⟨o, ho⟩ (dn_ok ⟨o, ho, hx, hdat⟩), es', ep', upd_same, D.sys, ⟨xs, e, tr.fut (TK.wr nt)⟩, nd, sz⟩
theorem room_n (hu : A.units + 64 < cLine) : (NK X).room A.in1 := by
  show A.in1.units + 8 < cLine
  rw [Around.in1_units]
  omega

/-- d[k] -/
theorem n_get {v : V} {y : V} {u : Value} {Q : Value → Shared → Prop} (hu : A.units + 64 < cLine) (I : Inv X pins σ H s) (D : DictAt X.w X.K H d kvs) (hb : R X.K H y b) (ry : RelV y u) (hv : valV kvs b = some v) (h : ∀ w' s', Inv X pins σ H s' → RelV v w' → Q w' s') :
    wpAny (model X.prog X.w) A (getItem (.ref d) u) Q E s := by
  obtain ⟨es, ep, D⟩ := D
  obtain ⟨a, e⟩ := ref_of hb
  subst e
  cases ry
  obtain ⟨xs, e, t, hd⟩ := D.of I
  obtain ⟨w', hw, rw'⟩ := RelO.some_of (v := v) (o := (atKey xs (en b)).map (·.2)) (by rw [← hv]; exact t.val b)
  obtain ⟨p, hp, hp2⟩ := Option.map_eq_some_iff.mp hw
  refine wpAny_getItem_heap (room_n hu) (R.is I hb) hd hp ?_
  rw [hp2]
  exact h w' _ (I.tok _) rw'
theorem n_in {y : V} {u : Value} {Q : Value → Shared → Prop} (hu : A.units + 64 < cLine) (I : Inv X pins σ H s) (D : DictAt X.w X.K H d kvs) (hb : R X.K H y b) (ry : RelV y u) (h : ∀ s', Inv X pins σ H s' → Q (.bool (valV kvs b).isSome) s') :
    wpAny (model X.prog X.w) A (compareOp .In u (.ref d)) Q E s := by
  obtain ⟨es, ep, D⟩ := D
  obtain ⟨a, e⟩ := ref_of hb
  subst e
  cases ry
  obtain ⟨xs, e, t, hd⟩ := D.of I
  have z := (t.val b).isSome_eq
  rw [Option.isSome_map] at z
  refine wpAny_in_heap (room_n hu) (R.is I hb) D.sys hd ?_
  rw [← z]
  exact h _ (I.tok _)
theorem n_notIn {y : V} {u : Value} {Q : Value → Shared → Prop} (hu : A.units + 64 < cLine) (I : Inv X pins σ H s) (D : DictAt X.w X.K H d kvs) (hb : R X.K H y b) (ry : RelV y u) (h : ∀ s', Inv X pins σ H s' → Q (.bool (!(valV kvs b).isSome)) s') :
    wpAny (model X.prog X.w) A (compareOp .NotIn u (.ref d)) Q E s := by
  obtain ⟨es, ep, D⟩ := D
  obtain ⟨a, e⟩ := ref_of hb
  subst e
  cases ry
  obtain ⟨xs, e, t, hd⟩ := D.of I
  have z := (t.val b).isSome_eq
  rw [Option.isSome_map] at z
  show wpAny _ _ (do return .bool (!(← contains (.ref d) (.ref a)))) Q E s
  refine wpAny_bind (wpAny_contains_heap (room_n hu) (R.is I hb) D.sys hd (wpAny_pure ?_))
  rw [← z]
  exact h _ (I.tok _)
theorem n_set {v y : V} {u r : Value} {Q : Unit → Shared → Prop} (hu : A.units + 64 < cLine) (I : Inv X pins σ H s) (D : DictAt X.w X.K H d kvs) (hb : R X.K H y b) (ry : RelV y u) (rv : RelV v r) (hz : kvs.length < sizeLine)
    (h : ∀ ob s', DictAt X.w X.K (upd H d ob) d (putK kvs b v) → Inv X pins σ (upd H d ob) s' → Q () s') :
    wpAny (model X.prog X.w) A (setItem (.ref d) u r) Q E s := by
  obtain ⟨es, ep, D⟩ := D
  obtain ⟨a, e⟩ := ref_of hb
  subst e
  cases ry
  obtain ⟨xs, e, t, hd⟩ := D.of I
  have hl := length_putK kvs b v
  refine wpAny_setItem_heap (hsz := by rw [t.length]; exact D.sz) (room_n hu) (R.is I hb) hd fun h' hd' hs => ?_
  obtain ⟨ob, I', D'⟩ := dn_after (t' := s.toks + (NK X).draws (en b)) I D hd' hs (t.put b hb rv) (nd_put b v D.nd) (by omega)
  exact h ob _ D' I'
theorem n_len {Q : Value → Shared → Prop} (I : Inv X pins σ H s) (D : DictAt X.w X.K H d kvs) (h : ∀ t s', Inv X pins σ H s' → Q (.int kvs.length t) s') : wpAny (model X.prog X.w) A (call (.builtin "len") [.ref d]) Q E s := by
  obtain ⟨es, ep, D⟩ := D
  obtain ⟨xs, e, t, hd⟩ := D.of I
  have hk : s.heap.DictKeyed (NK X) d (pairsH xs) := ⟨xs, hd, rfl⟩
  have e1 : (pairsH xs).length = kvs.length := by unfold pairsH; rw [List.length_map, t.length]
  have hz := D.sz
  rw [sizeLine_eq] at hz
  refine PyProof.Rows.call_len_slot (n := (pairsH xs).length) hk.typeIs F.slot_dict_len (fun Q' hq => len_keyed D.sys hk hq) (by omega) (by omega) ?_
  rw [e1]
  exact h _ _ (I.tok _)
end

/-! ### readings -/
section
variable {X : Cx} (β : Type) [EncT β] {o i e value : Expr} {pos pos' tpos apos cpos : Pos} {td ty tv tx : TE}
def tNGet (w : World) (K : PySem.W.Frag) (td ty : TE) : TE := fun σ H Q => td σ H fun x H1 => ty σ H1 fun y H2 => ∃ (d : Addr) (kvs : List (β × V)) (b : β) (v : V), x = .ref d ∧ DictAt w K H2 d kvs ∧ R K H2 y b ∧ valV kvs b = some v ∧ Q v H2
def rNIn (w : World) (K : PySem.W.Frag) : R2 := fun y x H Q => ∃ (d : Addr) (kvs : List (β × V)) (b : β), x = .ref d ∧ DictAt w K H d kvs ∧ R K H y b ∧ Q (.bl (valV kvs b).isSome) H
def rNNotIn (w : World) (K : PySem.W.Frag) : R2 := fun y x H Q => ∃ (d : Addr) (kvs : List (β × V)) (b : β), x = .ref d ∧ DictAt w K H d kvs ∧ R K H y b ∧ Q (.bl (!(valV kvs b).isSome)) H
def rNSet (w : World) (K : PySem.W.Frag) : TSet := fun x y v H Q => ∃ (d : Addr) (kvs : List (β × V)) (b : β), x = .ref d ∧ DictAt w K H d kvs ∧ R K H y b ∧ kvs.length < sizeLine ∧ ∀ ob, DictAt w K (upd H d ob) d (putK kvs b v) → Q (upd H d ob)
def rNGetV (w : World) (K : PySem.W.Frag) : V → V → Hp → VK → Prop := fun x y H Q => ∃ (d : Addr) (kvs : List (β × V)) (b : β) (v : V), x = .ref d ∧ DictAt w K H d kvs ∧ R K H y b ∧ valV kvs b = some v ∧ Q v H
theorem op_nIn (hu : X.A.units + 64 < cLine) : OpR X (compareOp .In) (rNIn β X.w X.K) := by
  intro pins s σ H y x u v Q I ry rx h
  obtain ⟨d, kvs, b, e, D, hb, q⟩ := h
  subst e
  cases rx
  exact n_in hu I D hb ry fun s' I' => ⟨.bl _, H, I', rfl, q⟩
theorem op_nNotIn (hu : X.A.units + 64 < cLine) : OpR X (compareOp .NotIn) (rNNotIn β X.w X.K) := by
  intro pins s σ H y x u v Q I ry rx h
  obtain ⟨d, kvs, b, e, D, hb, q⟩ := h
  subst e
  cases rx
  exact n_notIn hu I D hb ry fun s' I' => ⟨.bl _, H, I', rfl, q⟩
theorem set_n (hu : X.A.units + 64 < cLine) : PSet X (rNSet β X.w X.K) := by
  intro pins s σ H x y v ov iv u Q I rx ry rv h
  obtain ⟨d, kvs, b, e, D, hb, hz, q⟩ := h
  subst e
  cases rx
  exact n_set hu I D hb ry rv hz fun ob s' D' I' => ⟨_, I', q ob D'⟩
theorem get_n (hu : X.A.units + 64 < cLine) : PGet X (rNGetV β X.w X.K) := by
  intro pins s σ H x y ov iv Q I rx ry h
  obtain ⟨d, kvs, b, v, e, D, hb, hv, q⟩ := h
  subst e
  cases rx
  exact n_get hu I D hb ry hv fun w' s' I' r' => ⟨v, H, I', r', q⟩
theorem pe_nget (hu : X.A.units + 64 < cLine) (ho : PE X o td) (hi : PE X i ty) (hs : NoSl i) : PE X (.Subscript o i pos) (tNGet β X.w X.K td ty) := by
  refine ⟨fun pins s σ H Q I h => ?_⟩
  refine subD_of PySem.F.slot_dict_getitem.lookup hs (thn (ho.run pins s σ H _ I h) fun u s1 ⟨x, H1, I1, rx, q1⟩ => thn (hi.run pins s1 σ H1 _ I1 q1) fun iv s2 ⟨y, H2, I2, ry, d, kvs, b, v, ex, D, hb, hv, q2⟩ => ?_)
  subst ex
  cases rx
  refine ⟨?_, n_get hu I2 D hb ry hv fun w' s3 I3 rw' => ⟨v, H2, I3, rw', q2⟩⟩
  obtain ⟨es, ep, D⟩ := D
  exact (D.raw I2).typeIs
theorem call_lenN : CallR X (.builtin "len") (fun xs H Q => ∃ (d : Addr) (kvs : List (β × V)), xs = [V.ref d] ∧ DictAt X.w X.K H d kvs ∧ Q (.int kvs.length) H) := by
  intro pins s σ H xs us Q I r h
  obtain ⟨d, kvs, e, D, q⟩ := h
  subst e
  obtain ⟨u, rfl, ru⟩ := vals1 r
  cases ru
  exact n_len I D fun t s' I' => ⟨.int kvs.length, H, I', ⟨t, rfl⟩, q⟩
/-- {} -/
def tNNew (w : World) (K : PySem.W.Frag) : TE := fun _ H Q => ∀ d, H d = none → ∀ ob, DictAt w K (upd H d ob) d ([] : List (β × V)) → Q (.ref d) (upd H d ob)
theorem dn_new {pins : List (Addr × Obj)} {σ : L2.St} {H : Hp} {s : Shared} (I : Inv X pins σ H s) : ∃ ob, Inv X pins σ (upd H s.heap.objs.size ob) { s with heap := s.heap.push { cls := .type "dict", data := .dict #[] } } ∧ DictAt X.w X.K (upd H s.heap.objs.size ob) s.heap.objs.size ([] : List (β × V)) := by
  refine ⟨DN s.heap.objs.size #[] 0, I.laid (t' := s.toks) (fun _ _ q => Heap.get?_push_of_some _ q) (Nat.le_refl _) (dn_ok ⟨_, Heap.get?_push_size _ rfl, ⟨rfl, rfl, rfl⟩, rfl⟩), #[], 0, upd_same, ?_, ⟨[], rfl, .nil⟩, List.nodup_nil, Nat.zero_le _⟩
  exact beq_false_of_ne (Nat.ne_of_gt I.big)
theorem pe_nnew : PE X (.Dict [] [] pos) (tNNew β X.w X.K) := ⟨fun pins s σ H Q I h => by
  obtain ⟨ob, I', D⟩ := dn_new β I
  exact wpAny_Dict_empty ⟨.ref s.heap.objs.size, _, I', rfl, h _ (I.hok.fresh (Nat.le_refl _)) ob D⟩⟩
end
end Sk

/-! Sk: a dict walked, update, get. -/
namespace Sk
open PySem L2 PySem.Spec PyProof.Rows

/-- the keys of the dict at d -/
def Itn (d : Addr) (es : Array DictEntry) (ep : Nat) : It :=
  ⟨fun i H => H d = some (DN d es ep) ∧ ∃ e a, es[i]? = some e ∧ e.key = .ref a, fun i H x H' => H' = H ∧ ∃ e a, es[i]? = some e ∧ e.key = .ref a ∧ x = .ref a, fun i H => H d = some (DN d es ep) ∧ es.size ≤ i⟩
theorem turn_n {P : Program} {w : World} {K : PySem.W.Frag} {tg : Expr} (d it : Addr) (es : Array DictEntry) (ep : Nat) : Turn P w K tg (Itn d es ep) [it] it (fun i h => h.IsKeyIter it d i es.size ep) where
  mem := by simp
  obj := fun i h st b hb => by
    have e : b = it := by simpa using hb
    subst e
    obtain ⟨o, e, c, dd⟩ := st
    exact ⟨o, e, fun v z => by rw [dd] at z; cases z⟩
  keep := fun i h h' st k => st.at fun o e => k it (by simp) o e
  item := by
    intro X hP hw hK hc i pins s σ H E I hf st hg
    subst hP hw hK
    obtain ⟨hd, e, a, he, hk⟩ := hg
    obtain ⟨f0, f1, f2, f3, f4, f5⟩ := hf it (by simp)
    have hr : s.heap.DictRaw d es ep := (I.hok d _ hd).1
    obtain ⟨hi, hei⟩ := Array.getElem?_eq_some_iff.mp he
    refine wpAny_pyNext_keys_item_raw st hr hi fun h' st' sb => ?_
    rw [hei, hk]
    have I1 : Inv X pins σ H { s with heap := h' } := I.turned (t' := s.toks) (fun b ob hb q => (sb.2 b hb).trans q) f0 f1 f3 f4 f5
    obtain ⟨oi, e1, c1, d1⟩ := id st'
    exact ⟨_, rfl, go_of (s := { s with heap := h' }) e1 c1 d1 (by decide) ⟨.ref a, H, I1, rfl, ⟨rfl, e, a, he, hk, rfl⟩, st', fun b hb => (hf b hb).1⟩⟩
  done := by
    intro X hP hw hK hc i pins s σ H E I hf st hg
    subst hP hw hK
    obtain ⟨hd, hi⟩ := hg
    obtain ⟨f0, f1, f2, f3, f4, f5⟩ := hf it (by simp)
    have hr : s.heap.DictRaw d es ep := (I.hok d _ hd).1
    exact wpAny_pyNext_keys_end_raw (I.ok.hd hc) st hr hi fun h' eb => ⟨rfl, I.turned (t' := s.toks) (fun b o hb q => eb b o hb q) f0 f1 f3 f4 f5⟩
  self := fun _ _ _ _ _ st h => wpAny_pyIter_keyiter st h
/-- for k in d -/
def iN (te : TE) : TI := fun σ H R => te σ H fun x H1 => ∃ d es ep, x = .ref d ∧ H1 d = some (DN d es ep) ∧ (d == sysModules) = false ∧ R (Itn d es ep) H1
theorem pi_n {X : Cx} {tg e : Expr} {te : TE} (he : PE X e te) : PI X tg e (iN te) := by
  refine ⟨fun pins s σ H R I h => ?_⟩
  refine thn (he.run pins s σ H _ I h) fun u s1 ⟨x, H1, I1, rx, d, es, ep, ex, hd, hs, q⟩ => ?_
  subst ex
  cases rx
  have hr : s1.heap.DictRaw d es ep := (I1.hok d _ hd).1
  exact wpAny_pyIter_dict_raw hs hr (pi_one (tk := s1.toks) I1 _ (turn_n d _ es ep) ⟨_, Heap.get?_push_size _ rfl, rfl, rfl⟩ q)
/-- the walk -/
theorem walk_n {β : Type} [Enc β] {w : World} {K : PySem.W.Frag} {d : Addr} {es : Array DictEntry} {ep : Nat} {kvs : List (β × V)} :
    Walk (Itn d es ep) kvs.length (fun H => DictOn w K H d es ep kvs) (fun i H x H' => H' = H ∧ ∃ b v, kvs[i]? = some (b, v) ∧ R K H x b) where
  goes := fun i H hi D => by
    obtain ⟨xs, e, t⟩ := D.tr
    obtain ⟨a, u, hx, _, _⟩ := t.get (i := i) (b := kvs[i].1) (v := kvs[i].2) (by simp [hi])
    refine ⟨D.ob, entK w (en kvs[i].1, a, u), a, ?_, rfl⟩
    rw [← Array.getElem?_toList, e, List.getElem?_map, hx]
    rfl
  stops := fun H D => by
    obtain ⟨xs, e, t⟩ := D.tr
    refine ⟨D.ob, ?_⟩
    rw [← Array.length_toList, e, List.length_map, t.length]
    exact Nat.le_refl _
  yields := fun i H x H' hi D y => by
    obtain ⟨e1, en', a, he, hk, ex⟩ := y
    subst e1 ex
    obtain ⟨xs, e, t⟩ := D.tr
    obtain ⟨a', u, hx, r, _⟩ := t.get (i := i) (b := kvs[i].1) (v := kvs[i].2) (by simp [hi])
    refine ⟨rfl, kvs[i].1, kvs[i].2, by simp [hi], ?_⟩
    rw [← Array.getElem?_toList, e, List.getElem?_map, hx] at he
    have he' : entK w (en kvs[i].1, a', u) = en' := Option.some.inj he
    rw [← he'] at hk
    have hk' : Value.ref a' = Value.ref a := hk
    injection hk' with hk'
    subst hk'
    exact r

section
variable {X : Cx} (β : Type) [EncT β]
/-- a method of a dict -/
def tNM (r : V → List V → Hp → VK → Prop) (to : TE) (t : TA) : TE := fun σ H Q => to σ H fun x H1 => (∃ d es ep, x = .ref d ∧ H1 d = some (DN d es ep)) ∧ t σ H1 fun xs H2 => r x xs H2 Q
theorem pe_nm {o e : Expr} {es : List Expr} {name : Str} {id : String} {apos cpos : Pos} {to : TE} {t : TA} {r : V → List V → Hp → VK → Prop} (slot : Slot "dict" name id) (hty : typeOf (.builtin id) = pure (.type "method_descriptor")) (hm : MtR X id r) (ho : PE X o to) (ha : PA X (e :: es) t)
    (hbase : attributeBase o name X.env (eval o X.env) = eval o X.env := by rfl)
    (hfew : ((backTo cpos (starEach (e :: es) X.env)).all (fun x => !x.1) && (backToKw cpos (keywordEach [] X.env)).all (fun x => x.1.isSome)
      && decide ((e :: es).length + ([] : List Keyword).length + (if ([] : List Keyword).isEmpty then 0 else 1) < 30)) = true := by rfl)
    (hline : (apos.endLine == cpos.line) = true := by rfl) (hs : starEach (e :: es) X.env = (false, eval e X.env) :: starEach es X.env := by rfl) (hplain : (backTo cpos (starEach es X.env)).any (·.1) = false := by rfl) :
    PE X (.Call (.Attribute o name apos) (e :: es) [] cpos) (tNM r to t) := by
  refine ⟨fun pins s σ H Q I h => ?_⟩
  refine wpAny_Call_method_late hbase hfew hline rfl (thn (ho.run pins s σ H _ I h) fun v s1 ⟨x, H1, I1, r1, hd, q1⟩ => ?_)
  obtain ⟨d, es', ep, ex, hd⟩ := hd
  subst ex
  cases r1
  have hr : s1.heap.DictRaw d es' ep := (I1.hok d _ hd).1
  refine ⟨"dict", id, PySem.F.plainAttrs_dict, slot, hty, hr.typeIs, (fun b q => ?_), ?_⟩
  · cases q
    obtain ⟨ob, h1, h2, _⟩ := hr
    exact ⟨ob, h1, h2.2.1⟩
  have hA := ha.run cpos pins s1 σ H1 _ I1 q1
  rw [hs] at hA ⊢
  refine Calls.callWith_builtin (by show (false || (backTo cpos (starEach es X.env)).any (·.1)) = false; rw [hplain] <;> rfl) (Calls.evalArgs_plain ?_)
  exact thn hA fun us s2 ⟨vs, H2, I2, r2, q2⟩ => hm pins s2 σ H2 (.ref d) vs _ us Q I2 rfl r2 q2

/-- d.get(k, x) -/
def rNGet2 (w : World) (K : PySem.W.Frag) : V → List V → Hp → VK → Prop := fun x vs H Q => ∃ (d : Addr) (kvs : List (β × V)) (b : β) (y z : V), x = .ref d ∧ vs = [y, z] ∧ DictAt w K H d kvs ∧ R K H y b ∧ Q ((valV kvs b).getD z) H
theorem mt_nget (hu : X.A.units + 64 < cLine) : MtR X "dict.get" (rNGet2 β X.w X.K) := by
  intro pins s σ H x xs v us Q I rx rxs h
  obtain ⟨d, kvs, b, y, z, e1, e2, D, hb, q⟩ := h
  subst e1 e2
  cases rx
  obtain ⟨uy, uz, rfl, ry, rz⟩ := vals2 rxs
  obtain ⟨es, ep, D⟩ := D
  obtain ⟨a, e⟩ := ref_of hb
  subst e
  cases ry
  obtain ⟨xs, e, t, hd⟩ := D.of I
  have hk : s.heap.DictKeyed (NK X) d (pairsH xs) := ⟨xs, hd, rfl⟩
  have rv := t.val b
  refine getOr_keyed (room_n hu) (R.is I hb) D.sys hk ?_
  have e2 : valueAt (pairsH xs) (en b) = (atKey xs (en b)).map (·.2) := valueAt_pairsH xs (en b)
  rw [e2]
  exact ⟨(valV kvs b).getD z, H, I.tok _, rv.getD rz, q⟩
end

/-! ### d.update(d2) -/
section
variable {β : Type} [EncT β]
/-- all of more stored, one after the other -/
def putAll (kvs more : List (β × V)) : List (β × V) := more.foldl (fun acc p => putK acc p.1 p.2) kvs
theorem Tr.putAll {K : PySem.W.Frag} {H : Hp} {ys : List (NestedKey × Addr × Value)} {more : List (β × V)} (h' : Tr K H ys more) : ∀ {xs : List (NestedKey × Addr × Value)} {kvs : List (β × V)}, Tr K H xs kvs → Tr K H (storedAllH xs ys) (Sk.putAll kvs more) := by
  induction h' with
  | nil => intro xs kvs h; exact h
  | @cons a u b v ys more h1 h2 _ ih =>
    intro xs kvs h
    exact ih (h.put b h1 h2)
theorem nd_putAll : ∀ (more : List (β × V)) {kvs : List (β × V)}, (kvs.map (·.1)).Nodup → ((putAll kvs more).map (·.1)).Nodup
  | [], _, h => h
  | p :: r, _, h => nd_putAll r (nd_put p.1 p.2 h)
theorem len_putAll : ∀ (more kvs : List (β × V)), (putAll kvs more).length ≤ kvs.length + more.length
  | [], kvs => Nat.le_refl _
  | p :: r, kvs => by
    have h1 := len_putAll r (putK kvs p.1 p.2)
    have h2 := length_putK kvs p.1 p.2
    show (putAll (putK kvs p.1 p.2) r).length ≤ kvs.length + (r.length + 1)
    omega
/-- the keys of a dict hash each otherwise -/
def Apart (w : World) (kvs : List (β × V)) : Prop := (kvs.map fun p => (en p.1).hash w).Nodup
end
section
variable {X : Cx} (β : Type) [EncT β]
def rNUpd (w : World) (K : PySem.W.Frag) : V → List V → Hp → VK → Prop := fun x vs H Q => ∃ (d o : Addr) (kvs more : List (β × V)), x = .ref d ∧ vs = [.ref o] ∧ DictAt w K H d kvs ∧ DictAt w K H o more ∧ d ≠ o ∧ Apart w more ∧ kvs.length + more.length ≤ sizeLine ∧
  ∀ ob, DictAt w K (upd H d ob) d (putAll kvs more) → Q .non (upd H d ob)
theorem mt_nupd (hu : X.A.units + 64 < cLine) : MtR X "dict.update" (rNUpd β X.w X.K) := by
  intro pins s σ H x xs v us Q I rx rxs h
  obtain ⟨d, o, kvs, more, e1, e2, D, D2, hne, hap, hz, q⟩ := h
  subst e1 e2
  cases rx
  obtain ⟨uy, rfl, ry⟩ := vals1 rxs
  cases ry
  obtain ⟨es, ep, D⟩ := D
  obtain ⟨es2, ep2, D2⟩ := D2
  obtain ⟨xs, e, t, hd⟩ := D.of I
  obtain ⟨ys, e2, t2, hd2⟩ := D2.of I
  have hks : ys.map (fun x => (NK X).hash x.1) = more.map fun p => (en p.1).hash X.w := by
    have k := t2.keys
    have z : (ys.map (·.1)).map (fun k => k.hash X.w) = (more.map fun p => en p.1).map (fun k => k.hash X.w) := by rw [k]
    rw [List.map_map, List.map_map] at z
    exact z
  refine call_update_dictH (room_n hu) hne D2.sys hd hd2 (.inr ⟨fun x hx => ?_, by rw [hks]; exact hap⟩) (by rw [t.length, t2.length]; exact hz) fun h' hd' _ hs => ?_
  · exact nestedKind_stays.tuple (t2.is I x hx)
  · have hl := len_putAll more kvs
    obtain ⟨ob, I', D'⟩ := dn_after (t' := s.toks) I D hd' hs (t2.putAll t) (nd_putAll more D.nd) (by omega)
    exact ⟨.non, _, I', rfl, q ob D'⟩
end
end Sk

/-! Sk: sorted. -/
namespace Sk
open PySem L2 PySem.Spec PyProof.Rows

class EncS (β : Type) extends EncT β where
  alike : ∀ b b' : β, PySem.W.alike (enc b).data (enc b').data = true
  ne : ∀ b : β, ∃ x r, (enc b).data = .tuple (x :: r)
section
variable {β : Type} [EncS β]
abbrev leS (β : Type) [EncS β] : β → β → Bool := PySem.W.dataLe false fun b : β => (en b).data
theorem leS_total : PySem.W.TotalLe (leS β) := PySem.W.sortLe_total _ _ _
theorem toks_inj {x y : PyData} (h : PySem.W.alike x y = true) (e : PySem.W.keyToks x = PySem.W.keyToks y) : PyData.eqv x y = true := by
  cases q : PyData.eqv x y with
  | true => rfl
  | false =>
    have z := (PySem.W.toks_eqv x y h).2 q [] [Sum.inl 0]
    rw [e, lex_irrefl, PySem.W.lex_pre] at z
    exact absurd z (by decide)
theorem leS_anti {a b : β} (h1 : leS β a b = true) (h2 : leS β b a = true) : a = b := by
  have h1 : (!(PyProof.Rows.listOrd itemOrd).blt (PySem.W.keyToks (en b).data) (PySem.W.keyToks (en a).data)) = true := h1
  have h2 : (!(PyProof.Rows.listOrd itemOrd).blt (PySem.W.keyToks (en a).data) (PySem.W.keyToks (en b).data)) = true := h2
  have e := (PyProof.Rows.listOrd itemOrd).total _ _ (by simpa using h2) (by simpa using h1)
  have q := toks_inj (EncS.alike a b) e
  rw [eqv_dec] at q
  exact Enc.inj (of_decide_eq_true q)
def srt (bs : List β) : List β := bs.mergeSort (leS β)
theorem srt_perm (bs : List β) : (srt bs).Perm bs := List.mergeSort_perm bs (leS β)
theorem srt_mem {bs : List β} {b : β} : b ∈ srt bs ↔ b ∈ bs := (srt_perm bs).mem_iff
theorem srt_len (bs : List β) : (srt bs).length = bs.length := (srt_perm bs).length_eq
theorem srt_nd {bs : List β} (h : bs.Nodup) : (srt bs).Nodup := (srt_perm bs).nodup_iff.mpr h
theorem srt_pw (bs : List β) : (srt bs).Pairwise fun a b => leS β a b = true := PySem.W.sort_pairwise leS_total bs
theorem srt_of_perm {bs cs : List β} (h : bs.Perm cs) : srt bs = srt cs := by
  refine PySem.W.sort_unique leS_total (srt_pw bs) fun c => ?_
  have p : (srt bs).Perm cs := (srt_perm bs).trans h
  have q := p.filter (PySem.W.sameRank (leS β) c)
  have all : ∀ l : List β, ∀ x ∈ l.filter (PySem.W.sameRank (leS β) c), x = c := fun l x hx => by
    have z := (List.mem_filter.mp hx).2
    unfold PySem.W.sameRank at z
    rw [Bool.and_eq_true] at z
    exact (leS_anti z.1 z.2).symm
  rw [List.eq_replicate_of_mem (all (srt bs)), List.eq_replicate_of_mem (all cs), q.length_eq]
theorem srt_ext {bs cs : List β} (h1 : bs.Nodup) (h2 : cs.Nodup) (h : ∀ b, b ∈ bs ↔ b ∈ cs) : srt bs = srt cs :=
  srt_of_perm ((List.perm_ext_iff_of_nodup h1 h2).mpr h)
end

mutual
theorem KR.reads {K : PySem.W.Frag} {H : Hp} {X : Cx} {pins : List (Addr × Obj)} {σ : L2.St} {s : Shared} (I : Inv X pins σ H s) : ∀ (k : NestedKey) (v : V) (u : Value), KR X.K H v k → RelV v u → Reads s.heap u k.data []
  | .none, _, _, h, r => by cases h; cases r; exact .none
  | .num _, _, _, h, r => by cases h; obtain ⟨t, e⟩ := r; subst e; exact .int _ t
  | .text _, _, _, h, r => by cases h; obtain ⟨t, e⟩ := r; subst e; exact .str _ t
  | .tup ks, _, _, h, r => by
    cases h with
    | tup h1 h2 =>
      cases r
      obtain ⟨its, rv, ⟨o, ho, hc, n, hd⟩, _⟩ := I.tuple h1
      exact .tuple ho hc hd (KRs.reads (K := K) I ks _ _ h2 (by simpa using rv))
theorem KRs.reads {K : PySem.W.Frag} {H : Hp} {X : Cx} {pins : List (Addr × Obj)} {σ : L2.St} {s : Shared} (I : Inv X pins σ H s) : ∀ (ks : List NestedKey) (vs : List V) (us : List Value), KRs X.K H vs ks → Vals vs us → ReadsAll s.heap us (NestedKey.datas ks) []
  | [], _, _, h, r => by cases h; cases r; exact .nil
  | k :: ks, _, _, h, r => by
    cases h with
    | cons h1 h2 =>
      cases r with
      | cons r1 r2 =>
        have z := ReadsAll.cons (KR.reads (K := K) I k _ _ h1 r1) (KRs.reads (K := K) I ks _ _ h2 r2)
        exact z
end

section
variable {β : Type} [EncS β] {X : Cx} {pins : List (Addr × Obj)} {σ : L2.St} {H : Hp} {s : Shared} {A : Around} {E : Value → Shared → Prop}
/-- a value that stands for b -/
def VB (K : PySem.W.Frag) (H : Hp) (v : Value) (b : β) : Prop := ∃ a : Addr, v = .ref a ∧ R K H (.ref a) b
abbrev EachB (K : PySem.W.Frag) (H : Hp) (vs : List Value) (bs : List β) : Prop := PySem.W.EachIs (VB K H) vs bs
theorem each_of {K : PySem.W.Frag} {H : Hp} {xs : List V} {bs : List β} (h : Rs K H xs bs) : ∀ {us : List Value}, Vals xs us → EachB K H us bs := by
  induction h with
  | nil => intro us r; cases r; exact .nil
  | cons h1 _ ih =>
    intro us r
    cases r with
    | cons r1 r2 =>
      obtain ⟨a, e⟩ := ref_of h1
      subst e
      cases r1
      exact .cons ⟨a, rfl, h1⟩ (ih r2)
theorem each_back {K : PySem.W.Frag} {H : Hp} {us : List Value} {bs : List β} (h : EachB K H us bs) : ∃ xs, Vals xs us ∧ Rs K H xs bs := by
  induction h with
  | nil => exact ⟨[], .nil, .nil⟩
  | cons h1 _ ih =>
    obtain ⟨xs, r, q⟩ := ih
    obtain ⟨a, e, h1⟩ := h1
    subst e
    exact ⟨.ref a :: xs, .cons rfl r, .cons h1 q⟩
/-- what sorted does behind the collecting -/
theorem sort_tail {bs : List β} {Q : Value → Shared → Prop} {s1 : Shared} {vs : List Value} (hu : A.units + 64 < cLine) (I : Inv X pins σ H s) (hL : bs.length ≤ sizeLine) (k1 : ∀ b o, s.heap.get? b = some o → s1.heap.get? b = some o) (g1 : s1.gens = s.gens) (o1 : s1.os = s.os) (hv : EachB X.K H vs bs)
    (hQ : ∀ p s' out, H p = none → Inv X pins σ (upd H p (.lst out)) s' → Rs X.K H out (srt bs) → Q (.ref p) s') :
    wpAny (model X.prog X.w) A.in1 (do let l ← newList vs; let _ ← holding [l] (call (.builtin "list.sort") [l] []); ret l) (fun fin s' => ∃ v, fin = Fin.done (.ret v) ∧ Q v s') E s1 := by
  have I1 : Inv X pins σ H s1 := I.call' (ch := []) o1 (Un.kept k1) (I.hok.kept k1) (by rw [g1]; exact I.bare) (fun _ z => nomatch z)
  have hl : vs.length = bs.length := hv.length
  refine wpAny_bind (wpAny_newList ?_ (by rw [hl]; exact hL))
  generalize hp : s1.heap.objs.size = p
  have hn : H p = none := I1.hok.fresh (Nat.le_of_eq hp)
  have hoL : (s1.heap.push (seqObj "list" vs.toArray 0)).get? p = some (seqObj "list" vs.toArray 0) := by rw [← hp]; exact Heap.get?_push_size _ rfl
  have I2 : Inv X pins σ H { s1 with heap := s1.heap.push (seqObj "list" vs.toArray 0) } := I1.kept (t' := s1.toks) fun b o e => Heap.get?_push_of_some _ e
  have er : PySem.W.EachIs (fun v (b : β) => ∃ as, Reads (s1.heap.push (seqObj "list" vs.toArray 0)) v (en b).data as ∧ p ∉ as) vs bs := hv.mono fun v b hb => by
    obtain ⟨x, ex, hx⟩ := hb
    subst ex
    exact ⟨[], KR.reads (K := X.K) I2 _ _ _ hx rfl, by simp⟩
  refine wpAny_bind (wpAny_holding (PySem.W.list_sort_data (s := { s1 with heap := s1.heap.push (seqObj "list" vs.toArray 0) }) (enc := fun b : β => (en b).data) hoL hv er (PySem.W.AllAlike.of fun b b' => EncS.alike b b') (PySem.W.Sortable.tuples fun b => EncS.ne b) hL (fun b _ => ?_) fun out ho eo => ?_))
  · have h1 : (en b).depth ≤ 5 := Enc.dep b
    rw [depth_data]
    rw [Around.in1_units]
    omega
  · obtain ⟨e', he'⟩ := PyProof.Rows.sortedHeap_at (vs := vs) (out := out.toArray) hoL
    obtain ⟨xs, rv, hR⟩ := each_back eo
    have hxl : xs.length ≤ sizeLine := by rw [rv.length, ho]; exact hL
    refine wpAny_pure ⟨_, rfl, hQ p _ xs hn ?_ hR⟩
    refine I1.laid (t' := s1.toks) (fun b u e => ?_) (Nat.le_of_eq hp) (show ObjOk X.prog X.w _ _ _ (.lst xs) from ⟨hxl, out, e', rv, he'⟩)
    have hb : b < p := by rw [← hp]; exact Heap.lt_size e
    rw [PyProof.Rows.sortedHeap_old (Nat.ne_of_lt hb) (by rw [size_push']; rw [hp]; exact Nat.lt_succ_of_lt hb)]
    exact Heap.get?_push_of_some _ e
theorem sorted_by {a : Addr} {bs : List β} {Q : Value → Shared → Prop} (hu : A.units + 64 < cLine) (I : Inv X pins σ H s) (hL : bs.length ≤ sizeLine)
    (hc : ∀ (E' : Value → Shared → Prop) (Q' : List Value → Shared → Prop), (∀ s' vs, (∀ b o, s.heap.get? b = some o → s'.heap.get? b = some o) → s'.gens = s.gens → s'.os = s.os → EachB X.K H vs bs → Q' vs s') → wpAny (model X.prog X.w) A.in1 (collect (.ref a)) Q' E' s)
    (hQ : ∀ p s' out, H p = none → Inv X pins σ (upd H p (.lst out)) s' → Rs X.K H out (srt bs) → Q (.ref p) s') :
    wpAny (model X.prog X.w) A (call (.builtin "sorted") [.ref a]) Q E s := by
  refine Calls.call_function_entry PyProof.Rows.kind_sorted PyProof.Rows.plain_sorted PyProof.Rows.entry_sorted (PyProof.Rows.args_sorted1 _) ?_
  unfold Builtin.«sorted»
  refine wpAny_bind (m := checkCount "sorted" 1 1 _) (wpAny_pure ?_)
  refine wpAny_bind (hc _ _ fun s1 vs k1 g1 o1 hv => ?_)
  exact sort_tail hu I hL k1 g1 o1 hv hQ
end

section
variable {X : Cx} (β : Type) [EncS β]
/-- sorted(xs), a list -/
def rSortL (K : PySem.W.Frag) : List V → Hp → VK → Prop := fun vs H Q => ∃ (a : Addr) (xs : List V) (bs : List β), vs = [.ref a] ∧ SqL K H a xs ∧ Rs K H xs bs ∧ ∀ p out, H p = none → Rs K (upd H p (.lst out)) out (srt bs) → Q (.ref p) (upd H p (.lst out))
theorem cr_sortL (hu : X.A.units + 64 < cLine) : CallR X (.builtin "sorted") (rSortL β X.K) := by
  intro pins s σ H xs us Q I r h
  obtain ⟨a, xs, bs, e, hs, hb, q⟩ := h
  subst e
  obtain ⟨u, rfl, ru⟩ := vals1 r
  cases ru
  obtain ⟨its, rv, pl, hz⟩ := I.list hs
  have hl : its.length = bs.length := by rw [← rv.length, hb.length]
  refine sorted_by hu I (by rw [← hb.length]; exact hz) (fun E' Q' hq => ?_) fun p s' out hn I' hR => ⟨.ref p, _, I', rfl, q p out hn (hR.fut (TK.new hn))⟩
  refine collect_list (vs := its) pl.isList (hq _ _ (fun b o e => ?_) rfl rfl (each_of hb rv)) (by rw [← rv.length]; exact hz)
  have hlt := Heap.lt_size e
  show ((s.heap.push (seqObj "list" #[] 0)).update s.heap.objs.size _).get? b = some o
  rw [Heap.get?_update_ne _ _ _ _ (Nat.ne_of_lt hlt)]
  exact Heap.get?_push_of_some _ e
/-- sorted(d), a dict -/
def rSortD (w : World) (K : PySem.W.Frag) : List V → Hp → VK → Prop := fun vs H Q => ∃ (d : Addr) (kvs : List (β × V)), vs = [.ref d] ∧ DictAt w K H d kvs ∧ ∀ p out, H p = none → Rs K (upd H p (.lst out)) out (srt (kvs.map (·.1))) → Q (.ref p) (upd H p (.lst out))
theorem keys_each {K : PySem.W.Frag} {H : Hp} {xs : List (NestedKey × Addr × Value)} {kvs : List (β × V)} (t : Tr K H xs kvs) : ∀ {us : List Value}, us.length = xs.length → (∀ (j : Nat) (v : Value), us[j]? = some v → ∃ x, xs[j]? = some x ∧ v = .ref x.2.1) → EachB K H us (kvs.map (·.1)) := by
  induction t with
  | nil =>
    intro us hl _
    cases us with
    | nil => exact .nil
    | cons _ _ => simp at hl
  | @cons a u b v xs kvs h1 _ _ ih =>
    intro us hl hj
    cases us with
    | nil => simp at hl
    | cons y ys =>
      obtain ⟨x, e1, e2⟩ := hj 0 y rfl
      have e1 : (en b, a, u) = x := Option.some.inj e1
      subst e1 e2
      exact .cons ⟨a, rfl, h1⟩ (ih (by simpa using hl) fun j v e => hj (j + 1) v (by simpa using e))
theorem collect_n {pins : List (Addr × Obj)} {σ : L2.St} {H : Hp} {s : Shared} {A : Around} {d : Addr} {kvs : List (β × V)} (hh : A.handled = none) (I : Inv X pins σ H s) (D : DictAt X.w X.K H d kvs) (E' : Value → Shared → Prop) (Q' : List Value → Shared → Prop)
    (hq : ∀ s' vs, (∀ b o, s.heap.get? b = some o → s'.heap.get? b = some o) → s'.gens = s.gens → s'.os = s.os → EachB X.K H vs (kvs.map (·.1)) → Q' vs s') : wpAny (model X.prog X.w) A (collect (.ref d)) Q' E' s := by
  obtain ⟨es, ep, D⟩ := D
  obtain ⟨xs, e, t⟩ := D.tr
  have hsz : es.size = xs.length := by rw [← Array.length_toList, e, List.length_map]
  refine PySem.W.kdu_collect (KdlSrc.rawDict (es := es) (ep := ep) D.sys) hh (D.raw I) (by rw [hsz, t.length]; exact D.sz) fun h' tk acc hk hacc => ?_
  refine hq _ _ hk rfl rfl (keys_each β t (by rw [Array.length_toList, hacc.1, hsz]) fun j v ev => ?_)
  obtain ⟨hi, ev⟩ := hacc.2 j v (by rw [← Array.getElem?_toList]; exact ev)
  have h2 : es[j]? = some es[j] := Array.getElem?_eq_getElem hi
  rw [← Array.getElem?_toList, e, List.getElem?_map] at h2
  cases h3 : xs[j]? with
  | none => rw [h3] at h2; simp at h2
  | some x =>
    rw [h3] at h2
    have h4 : entK X.w x = es[j] := Option.some.inj h2
    exact ⟨x, rfl, by rw [ev, ← h4]; rfl⟩
theorem cr_sortD (hc : X.calm = true) (hu : X.A.units + 64 < cLine) : CallR X (.builtin "sorted") (rSortD β X.w X.K) := by
  intro pins s σ H xs us Q I r h
  obtain ⟨d, kvs, e, D, q⟩ := h
  subst e
  obtain ⟨u, rfl, ru⟩ := vals1 r
  cases ru
  exact sorted_by hu I (by rw [List.length_map]; exact D.sz) (fun E' Q' hq => collect_n β (A := X.A.in1) (I.ok.hd hc) I D E' Q' hq) fun p s' out hn I' hR => ⟨.ref p, _, I', rfl, q p out hn (hR.fut (TK.new hn))⟩
/-- list(d) -/
def rListD (w : World) (K : PySem.W.Frag) : List V → Hp → VK → Prop := fun vs H Q => ∃ (d : Addr) (kvs : List (β × V)), vs = [.ref d] ∧ DictAt w K H d kvs ∧ ∀ p out, H p = none → Rs K (upd H p (.lst out)) out (kvs.map (·.1)) → Q (.ref p) (upd H p (.lst out))
theorem cr_listD (hc : X.calm = true) : CallR X (.type "list") (rListD β X.w X.K) := by
  intro pins s σ H xs us Q I r h
  obtain ⟨d, kvs, e, D, q⟩ := h
  subst e
  obtain ⟨u, rfl, ru⟩ := vals1 r
  cases ru
  obtain ⟨es, ep, D⟩ := D
  obtain ⟨xs, e, t⟩ := D.tr
  have hsz : es.size = xs.length := by rw [← Array.length_toList, e, List.length_map]
  refine PySem.W.kdl_call (KdlSrc.rawDict (es := es) (ep := ep) D.sys) (I.ok.hd hc) (D.raw I) (by rw [hsz, t.length]; exact D.sz) fun h' tk acc c' hk hS hacc => ?_
  have hE : EachB X.K H acc.toList (kvs.map (·.1)) := by
    refine keys_each β t (by rw [Array.length_toList, hacc.1, hsz]) fun j v ev => ?_
    obtain ⟨hi, ev⟩ := hacc.2 j v (by rw [← Array.getElem?_toList]; exact ev)
    have h2 : es[j]? = some es[j] := Array.getElem?_eq_getElem hi
    rw [← Array.getElem?_toList, e, List.getElem?_map] at h2
    cases h3 : xs[j]? with
    | none => rw [h3] at h2; simp at h2
    | some x =>
      rw [h3] at h2
      have h4 : entK X.w x = es[j] := Option.some.inj h2
      exact ⟨x, rfl, by rw [ev, ← h4]; rfl⟩
  obtain ⟨out, rv, hR⟩ := each_back hE
  have hn : H s.heap.objs.size = none := I.hok.fresh (Nat.le_refl _)
  have hl : out.length ≤ sizeLine := by rw [hR.length, List.length_map]; exact D.sz
  exact ⟨.ref s.heap.objs.size, upd H s.heap.objs.size (.lst out), I.laid (t' := tk) hk (Nat.le_refl _) (show ObjOk X.prog X.w _ _ _ (.lst out) from ⟨hl, acc.toList, c', rv, by rw [Array.toArray_toList]; exact hS⟩), rfl, q _ out hn (hR.fut (TK.new hn))⟩
end
end Sk

/-! Sk: sets of nested tuples of ints (fewer than 64). The table's laws (TabOk, way, relaid_ok) are HandS.TupSets'. -/
namespace Sk
open PySem L2 PySem.Spec PyProof.Rows

/-! ### keys made of ints alone -/
mutual
def NumK : NestedKey → Bool
  | .num _ => true
  | .tup ks => NumKs ks
  | _ => false
def NumKs : List NestedKey → Bool
  | [] => true
  | k :: ks => NumK k && NumKs ks
end
section
variable {P : Program} {w : World}
/-- the value's small questions are answered without a step -/
def Tells (P : Program) (w : World) (s : Shared) (n : Nat) (v : Value) : Prop :=
  (∀ (A : Around) (E : Value → Shared → Prop) (Q : Bool → Shared → Prop), Q false s → wpAny (model P w) A (ofAClassStatement n v) Q E s) ∧
  (∀ (A : Around) (E : Value → Shared → Prop) (Q : Bool → Shared → Prop), Q true s → wpAny (model P w) A (hashByValue n v) Q E s)
theorem tells_tup {s : Shared} {n : Nat} {a : Addr} {o : Obj} {vs : Array Value} {m : Nat} (ho : s.heap.get? a = some o) (hc : o.cls = .type "tuple") (hd : o.data = .seq vs m) (h : ∀ v ∈ vs.toList, Tells P w s n v) : Tells P w s (n + 1) (.ref a) := by
  have hT : s.TypeIs (.ref a) "tuple" := ⟨o, ho, hc⟩
  constructor
  · intro A E Q q
    unfold ofAClassStatement
    refine wpAny_bind (wpAny_typeOf hT ?_)
    dsimp only
    have e : (("tuple" : String) == "tuple") = true := by decide
    simp only [e, if_true]
    refine wpAny_bind (wpAny_pure ?_)
    simp only [Bool.not_true, Bool.false_eq_true, if_false]
    refine wpAny_bind (wpAny_seqItems ho hd ?_)
    dsimp only
    refine wpAny_bind ?_
    rw [← Array.forIn_toList]
    refine wpAny_forIn_list _ (fun rest r s' => r.1 = none ∧ s' = s ∧ ∀ v ∈ rest, Tells P w s n v) _ ?_ ?_ _ _ ⟨rfl, rfl, h⟩
    · rintro v rest r s' ⟨_, rfl, hall⟩
      refine wpAny_bind ((hall v List.mem_cons_self).1 _ _ _ ?_)
      simp only [Bool.false_eq_true, if_false]
      exact wpAny_pure ⟨rfl, rfl, fun u hu => hall u (List.mem_cons_of_mem _ hu)⟩
    · rintro ⟨r1, r2⟩ s' ⟨hr, rfl, _⟩
      simp only at hr
      subst hr
      exact wpAny_pure q
  · intro A E Q q
    unfold hashByValue
    refine wpAny_bind (wpAny_specialOf hT F.slot_tuple_hash.lookup ?_)
    show wpAny _ _ (seqItems? (.ref a) >>= _) _ _ s
    refine wpAny_bind (wpAny_seqItems ho hd ?_)
    refine wpAny_bind ?_
    show wpAny _ _ (forIn vs _ _) _ _ s
    rw [← Array.forIn_toList]
    refine wpAny_forIn_list _ (fun rest r s' => r.1 = none ∧ s' = s ∧ ∀ v ∈ rest, Tells P w s n v) _ ?_ ?_ _ _ ⟨rfl, rfl, h⟩
    · rintro v rest r s' ⟨_, rfl, hall⟩
      refine wpAny_bind ((hall v List.mem_cons_self).2 _ _ _ ?_)
      simp only [Bool.not_true, Bool.false_eq_true, if_false]
      exact wpAny_pure ⟨rfl, rfl, fun u hu => hall u (List.mem_cons_of_mem _ hu)⟩
    · rintro ⟨r1, r2⟩ s' ⟨hr, rfl, _⟩
      simp only at hr
      subst hr
      exact wpAny_pure q
mutual
theorem tells_key {s : Shared} : ∀ (k : NestedKey) (n : Nat) (v : Value), NumK k = true → NestedIs s.heap k v → k.depth ≤ n → Tells P w s n v
  | .none, _, _, h, _, _ => by simp [NumK] at h
  | .text _, _, _, h, _, _ => by simp [NumK] at h
  | .num i, n, _, _, x, _ => by
    cases x with
    | bool _ =>
      constructor
      · intro A E Q q; cases n <;> exact wpAny_pure q
      · intro A E Q q; cases n <;> exact wpAny_pure q
    | int _ _ =>
      constructor
      · intro A E Q q; cases n <;> exact wpAny_pure q
      · intro A E Q q; cases n <;> exact wpAny_pure q
  | .tup ks, n, _, h, x, hn => by
    cases x with
    | tup h1 h2 h3 h4 =>
      simp only [NestedKey.depth] at hn
      cases n with
      | zero => omega
      | succ n => exact tells_tup h1 h2 h3 (tells_keys ks n _ (by simpa [NumK] using h) h4 (by omega))
theorem tells_keys {s : Shared} : ∀ (ks : List NestedKey) (n : Nat) (vs : List Value), NumKs ks = true → NestedAll s.heap ks vs → NestedKey.depthAll ks ≤ n → ∀ v ∈ vs, Tells P w s n v
  | [], _, _, _, x, _, v, hv => by cases x; cases hv
  | k :: ks, n, _, h, x, hn, v, hv => by
    cases x with
    | cons x1 x2 =>
      simp only [NestedKey.depthAll] at hn
      simp only [NumKs, Bool.and_eq_true] at h
      rcases List.mem_cons.mp hv with e | hv
      · rw [e]; exact tells_key k n _ h.1 x1 (by omega)
      · exact tells_keys ks n _ h.2 x2 (by omega) v hv
end
end

/-- the tuple at a is the key k, made of ints -/
structure IsN (h : Heap) (k : NestedKey) (a : Addr) : Prop where
  is : NestedIs h k (.ref a)
  dep : k.depth ≤ 8
  num : NumK k = true
section
variable {P : Program} {w : World} {A : Around} {E : Value → Shared → Prop} {s : Shared}
theorem IsN.nk {h : Heap} {k : NestedKey} {a : Addr} (x : IsN h k a) : (nestedKind P w).is h k a := ⟨x.is, x.dep⟩
theorem IsN.inj {h : Heap} {k k' : NestedKey} {a : Addr} (x : IsN h k a) (y : IsN h k' a) : k = k' := NestedIs.inj _ _ _ x.is y.is
theorem IsN.keep {h h' : Heap} {k : NestedKey} {a : Addr} (x : IsN h k a) (e : ∀ c o, h.get? c = some o → h'.get? c = some o) : IsN h' k a := ⟨NestedIs.at (fun c o _ _ q _ => e c o q) _ _ x.is, x.dep, x.num⟩
theorem IsN.but {h h' : Heap} {k : NestedKey} {a b : Addr} {o : Obj} {es : Array (Int × Value)} {ep : Nat} {t : SetTable} (x : IsN h k b) (ho : h.get? a = some o) (hd : o.data = .set es ep t) (hs : Heap.SameBut a h h') : IsN h' k b :=
  ⟨NestedIs.at (fun c oc vs n q qd => (hs.2 c fun e => by subst e; rw [ho] at q; cases q; rw [hd] at qd; cases qd).trans q) _ _ x.is, x.dep, x.num⟩
/-- asked among keys, nothing is seen -/
theorem seen_n {k : NestedKey} {b : Addr} {Q : Bool → Shared → Prop} (hk : IsN s.heap k b) {ys : List Value} (hy : ∀ y ∈ ys, ∃ k' c, y = Value.ref c ∧ IsN s.heap k' c) (h : Q false s) :
    wpAny (model P w) A (searchCouldBeSeen (.ref b) ys) Q E s := by
  unfold searchCouldBeSeen
  refine wpAny_bind ?_
  refine wpAny_forIn_list _ (fun rest r s' => r.1 = none ∧ s' = s ∧ ∀ y ∈ rest, ∃ k' c, y = Value.ref c ∧ IsN s.heap k' c) _ ?_ ?_ _ _ ⟨rfl, rfl, hy⟩
  · rintro v rest r s' ⟨_, rfl, hall⟩
    obtain ⟨k', c, rfl, hc⟩ := hall v List.mem_cons_self
    have more : ∀ y ∈ rest, ∃ k' c, y = Value.ref c ∧ IsN s'.heap k' c := fun u hu => hall u (List.mem_cons_of_mem _ hu)
    dsimp only
    by_cases hv : (b == c || (carriedByValue (.ref b) && carriedByValue (.ref c))) = true
    · exact wp_if_pos hv (wpAny_pure ⟨rfl, rfl, more⟩)
    · refine wp_if_neg hv ?_
      refine wpAny_bind ((nestedKind P w).quiet hk.nk ?_)
      simp only [Bool.not_true, Bool.false_eq_true, if_false]
      refine wpAny_bind ((nestedKind P w).quiet hc.nk ?_)
      simp only [Bool.not_true, Bool.false_eq_true, if_false]
      refine wpAny_bind ((tells_key _ 8 _ hk.num hk.is hk.dep).1 _ _ _ ?_)
      simp only [Bool.false_eq_true, if_false]
      refine wpAny_bind ((tells_key _ 8 _ hc.num hc.is hc.dep).1 _ _ _ ?_)
      simp only [Bool.false_eq_true, if_false]
      exact wpAny_pure ⟨rfl, rfl, more⟩
  · rintro ⟨r1, r2⟩ s' ⟨hr, rfl, _⟩
    simp only at hr
    subst hr
    exact wpAny_pure h
end

/-! ### the set -/
abbrev KA := Addr × NestedKey
def rowN (w : World) (p : KA) : Int × Value := (p.2.hash w, Value.ref p.1)
/-- its own object: the entries, the table -/
structure NSet0 (w : World) (h : Heap) (a : Addr) (L : List KA) (es : Array (Int × Value)) (ep : Nat) (t : SetTable) : Prop where
  ob : ∃ o, h.get? a = some o ∧ o.ExactSet ∧ o.data = .set es ep t
  rows : es.toList = L.map (rowN w)
  tab : TabOk t (L.map fun p => p.2.hash w)
  nd : (L.map (·.2)).Nodup
  plain : t.plain = true
  led : w.params.followText "set-order" = true ∨ t.led = true
  room : L.length * 5 < t.mask * 3
  few : L.length < 64
section
variable {P : Program} {w : World} {A : Around} {E : Value → Shared → Prop} {s : Shared} {a : Addr} {L : List KA} {es : Array (Int × Value)} {ep : Nat} {t : SetTable}
theorem rows_size (h : es.toList = L.map (rowN w)) : es.size = L.length := by rw [← Array.length_toList, h, List.length_map]
theorem rows_at (h : es.toList = L.map (rowN w)) {i : Nat} {p : KA} (e : L[i]? = some p) : es[i]? = some (rowN w p) := by
  rw [← Array.getElem?_toList, h, List.getElem?_map, e]
  rfl
theorem fits_of {t : SetTable} {n : Nat} (h1 : t.place.size = n) (h2 : t.dummies = #[]) (h3 : n ≤ t.mask) : t.fits n = true := by
  unfold SetTable.fits SetTable.fill
  rw [h2, Bool.and_eq_true, beq_iff_eq, decide_eq_true_eq]
  exact ⟨h1, by show t.place.size + 0 ≤ t.mask; omega⟩
theorem NSet0.placed (R : NSet0 w s.heap a L es ep t) : t.place.size = L.length := by
  have h := R.tab.sz
  rw [List.length_map] at h
  exact h
theorem NSet0.fits (R : NSet0 w s.heap a L es ep t) : t.fits es.size = true := by
  have h := R.room
  exact fits_of (by rw [R.placed, rows_size R.rows]) R.tab.dm (by rw [rows_size R.rows]; omega)
theorem nth_dummy (m : Nat) : ∀ (n : Nat) (p : SetTable.Probe), p.dummy = none → (nth m p n).dummy = none
  | 0, _, h => h
  | n + 1, p, h => nth_dummy m n (adv m p) (by unfold adv; split <;> exact h)

/-- where a search for the hash hv stands at its c-th step -/
abbrev stp (t : SetTable) (hv : Int) (c : Nat) : SetTable.Probe := nth t.mask (runAt t.mask (SetTable.bits hv % (t.mask + 1)) (SetTable.bits hv)) c
/-- THE SEARCH from the c-th step on: K is the first empty slot's step; every entry of the key lies at or behind c -/
theorem scan_n (R : NSet0 w s.heap a L es ep t) (hL : ∀ p ∈ L, IsN s.heap p.2 p.1) {x : Addr} {k : NestedKey} (hx : IsN s.heap k x) (hu : A.units + 8 < cLine) {K : Nat} (hKf : K < 10 * SetTable.turns t.mask)
    (hK : way t.mask (k.hash w) K ∉ t.place.toList) (hKb : ∀ c, c < K → way t.mask (k.hash w) c ∈ t.place.toList) {Q : SetFound → Shared → Prop}
    (hin : k ∈ L.map (·.2) → Q (.there none) s) (hout : k ∉ L.map (·.2) → Q (.free (way t.mask (k.hash w) K) false) s) :
    ∀ (f c : Nat) (stand : Option SetTable.Probe), stand.getD (t.probeStart (k.hash w)) = stp t (k.hash w) c → c ≤ K → K - c < f →
      (∀ (i : Nat) p, L[i]? = some p → p.2 = k → ∃ c', c ≤ c' ∧ c' < K ∧ t.place.toList[i]? = some (way t.mask (k.hash w) c')) →
      wpAny (model P w) A (setSearchFrom a (.ref x) (k.hash w) true f stand) Q E s := by
  intro f
  induction f with
  | zero => intro c _ _ _ hf; exact absurd hf (Nat.not_lt_zero _)
  | succ f ih =>
    intro c stand hst hc hf hre
    obtain ⟨o, ho, hex, hd⟩ := R.ob
    generalize hhv : k.hash w = hv at *
    have shift : ∀ q, nth t.mask (stp t hv c) q = stp t hv (c + q) := fun q => (nth_add t.mask c _ q).symm
    have slotAt : ∀ q, (nth t.mask (stp t hv c) q).j = way t.mask hv (c + q) := fun q => by rw [shift]
    rw [setSearchFrom_succ]
    refine wpAny_bind (wpAny_setState_of ho hd R.fits ?_)
    dsimp only
    refine wp_if_neg (by unfold SetTable.gaveWay; rw [mask_odd R.tab.mok]; decide) ?_
    try refine wpAny_bind (wpAny_pure ?_)
    have met := go_spec t R.tab.ris R.tab.dm (fun i => (es[i]?.map (·.1)).getD 0) hv (10 * SetTable.turns t.mask) (K - c) (stp t hv c) (nth_dummy _ c _ rfl) (by omega)
      (fun q hq => by rw [slotAt]; exact hKb _ (by omega)) (by rw [slotAt, Nat.add_sub_cancel' hc]; exact hK)
    have hashAt : ∀ (i : Nat) p, L[i]? = some p → (es[i]?.map (·.1)).getD 0 = p.2.hash w := fun i p hp => by rw [rows_at R.rows hp]; rfl
    rcases met with ⟨q, i, hq, hi, hh, hno, hpr⟩ | ⟨hno, hpr⟩
    · have hpr' : t.probe (fun i => (es[i]?.map (·.1)).getD 0) hv (stand.getD (t.probeStart hv)) = some (.candidate (way t.mask hv (c + q)) i (stp t hv (c + (q + 1)))) := by
        rw [hst, ← slotAt, ← shift]
        exact hpr
      rw [hpr']
      dsimp only
      rw [slotAt] at hi
      have hil : i < L.length := by
        have h1 := (List.getElem?_eq_some_iff.mp hi).1
        rw [Array.length_toList, R.placed] at h1
        exact h1
      obtain ⟨p, hp⟩ : ∃ p, L[i]? = some p := ⟨_, List.getElem?_eq_getElem hil⟩
      have hm : p ∈ L := List.mem_of_getElem? hp
      have hsl : t.slot (way t.mask hv (c + q)) = .live i := slot_live R.tab.ris hi
      have go : wpAny (model P w) A (searchRest a (.ref x) hv true f es t (way t.mask hv (c + q)) i (stp t hv (c + (q + 1)))) Q E s := by
        unfold searchRest
        rw [rows_at R.rows hp]
        dsimp only [rowN]
        refine wpAny_bind (wpAny_holding ((nestedKind P w).eqBool hu (hL p hm).nk hx.nk ?_))
        refine wpAny_bind (wpAny_setState_of ho hd R.fits ?_)
        dsimp only
        by_cases hkk : p.2 = k
        · exact wp_if_pos (by simp [hkk]) (wpAny_pure (hin (List.mem_map.mpr ⟨p, hm, hkk⟩)))
        · refine wp_if_neg (by simp [hkk]) ?_
          try refine wpAny_bind (wpAny_pure ?_)
          rw [sameMem]
          dsimp only
          simp only [if_true, hsl, rows_at R.rows hp, rowN]
          refine wpAny_bind (wpAny_isSame_ref_self (wpAny_bind (wpAny_pure ?_)))
          simp only [if_true]
          refine wp_if_neg (by simp [hkk]) ?_
          refine ih (c + (q + 1)) (some _) rfl (by omega) (by omega) fun i0 p0 h0 hk0 => ?_
          obtain ⟨c', a1, a2, a3⟩ := hre i0 p0 h0 hk0
          refine ⟨c', ?_, a2, a3⟩
          have n1 : ¬ c' < c + q := fun z => hno (c' - c) i0 (by omega) (by rw [slotAt, Nat.add_sub_cancel' a1]; exact a3) (by rw [hashAt i0 p0 h0, hk0]; exact hhv)
          have n2 : ¬ c' = c + q := fun z => by
            rw [z] at a3
            have s0 := (slot_live R.tab.ris a3).symm.trans hsl
            injection s0 with s0
            rw [s0, hp] at h0
            exact hkk ((congrArg Prod.snd (Option.some.inj h0)).trans hk0)
          omega
      by_cases hl : t.led = true
      · refine wp_if_neg (by simp [hl]) ?_
        try refine wpAny_bind (wpAny_pure ?_)
        exact go
      · refine wp_if_pos (by simp [hl]) ?_
        refine wpAny_bind (seen_n hx (fun y hy => ?_) ?_)
        · obtain ⟨e, he, ee⟩ := List.mem_map.mp hy
          have he1 : e ∈ es ∧ e.1 = hv := by simpa using he
          have he2 : e ∈ es.toList := by simpa using he1.1
          rw [R.rows] at he2
          obtain ⟨p2, hp2, e2⟩ := List.mem_map.mp he2
          exact ⟨p2.2, p2.1, by rw [← ee, ← e2]; rfl, hL p2 hp2⟩
        · refine wp_if_neg (by decide) ?_
          try refine wpAny_bind (wpAny_pure ?_)
          exact go
    · have hpr' : t.probe (fun i => (es[i]?.map (·.1)).getD 0) hv (stand.getD (t.probeStart hv)) = some (.empty (way t.mask hv K) none) := by
        have e2 : way t.mask hv K = (nth t.mask (stp t hv c) (K - c)).j := by rw [slotAt, Nat.add_sub_cancel' hc]
        rw [hst, e2]
        exact hpr
      rw [hpr']
      dsimp only
      refine wpAny_pure (hout fun hm => ?_)
      obtain ⟨p0, h0, hk0⟩ := List.mem_map.mp hm
      obtain ⟨i0, hi0, e0⟩ := List.getElem_of_mem h0
      have h00 : L[i0]? = some p0 := by rw [List.getElem?_eq_getElem hi0, e0]
      obtain ⟨c', a1, a2, a3⟩ := hre i0 p0 h00 hk0
      exact hno (c' - c) i0 (by omega) (by rw [slotAt, Nat.add_sub_cancel' a1]; exact a3) (by rw [hashAt i0 p0 h00, hk0]; exact hhv)
/-- the search as add asks for it -/
theorem search_n (R : NSet0 w s.heap a L es ep t) (hL : ∀ p ∈ L, IsN s.heap p.2 p.1) {x : Addr} {k : NestedKey} (hx : IsN s.heap k x) (hu : A.units + 8 < cLine) {Q : SetFound → Shared → Prop}
    (hin : k ∈ L.map (·.2) → Q (.there none) s)
    (hout : ∀ K, k ∉ L.map (·.2) → way t.mask (k.hash w) K ∉ t.place.toList → (∀ c, c < K → way t.mask (k.hash w) c ∈ t.place.toList) → Q (.free (way t.mask (k.hash w) K) false) s) :
    wpAny (model P w) A (setSearch a (.ref x) (k.hash w) true) Q E s := by
  have hr := R.room
  obtain ⟨K, hKf, hK, hKb⟩ := R.tab.first (by rw [List.length_map]; omega) (k.hash w)
  have hbig : 10 * SetTable.turns t.mask < 100000 := by
    unfold SetTable.turns
    rcases R.tab.mok with e | e | e <;> omega
  unfold setSearch
  refine scan_n R hL hx hu hKf hK hKb hin (fun hn => hout K hn hK hKb) 100000 0 none rfl (Nat.zero_le _) (by omega) fun i p hp hk => ?_
  have hi : (L.map fun p => p.2.hash w)[i]? = some (k.hash w) := by rw [List.getElem?_map, hp, ← hk]; rfl
  have hil : i < t.place.toList.length := by
    rw [Array.length_toList, R.placed]
    exact (List.getElem?_eq_some_iff.mp hp).1
  obtain ⟨c, hc, e⟩ := R.tab.before hK hi (List.getElem?_eq_getElem hil)
  exact ⟨c, Nat.zero_le _, hc, by rw [List.getElem?_eq_getElem hil, e]⟩

/-- the entries in another order -/
theorem reorder (h : es.toList = L.map (rowN w)) {l : List Nat} (hp : l.Perm (List.range L.length)) :
    ∃ L2 : List KA, l.filterMap (fun i => es[i]?) = L2.map (rowN w) ∧ L2.Perm L ∧ (L2.map fun p => p.2.hash w) = l.map fun i => (es.map (·.1)).getD i 0 := by
  have all : ∀ i ∈ l, i < L.length := fun i hi => List.mem_range.mp (hp.mem_iff.mp hi)
  have pick : ∀ m : List Nat, (∀ i ∈ m, i < L.length) → m.filterMap (fun i => es[i]?) = (m.filterMap fun i => L[i]?).map (rowN w) ∧ ((m.filterMap fun i => L[i]?).map fun p => p.2.hash w) = m.map fun i => (es.map (·.1)).getD i 0 := by
    intro m
    induction m with
    | nil => intro _; exact ⟨rfl, rfl⟩
    | cons i m ih =>
      intro hm
      obtain ⟨e1, e2⟩ := ih fun j hj => hm j (List.mem_cons_of_mem _ hj)
      have hi := hm i List.mem_cons_self
      have hLi : L[i]? = some L[i] := List.getElem?_eq_getElem hi
      have hei := rows_at h hLi
      have hg : (es.map (·.1)).getD i 0 = (L[i]).2.hash w := by
        have q : (es.map (·.1))[i]? = some ((L[i]).2.hash w) := by rw [Array.getElem?_map, hei]; rfl
        simp [Array.getD_eq_getD_getElem?, q]
      constructor
      · rw [List.filterMap_cons_some hei, List.filterMap_cons_some hLi, e1, List.map_cons]
      · rw [List.filterMap_cons_some hLi, List.map_cons, List.map_cons, e2, hg]
  refine ⟨l.filterMap fun i => L[i]?, (pick l all).1, ?_, (pick l all).2⟩
  have whole : ∀ n, n ≤ L.length → (List.range n).filterMap (fun i => L[i]?) = L.take n := by
    intro n
    induction n with
    | zero => intro _; rfl
    | succ n ih =>
      intro hn
      rw [List.range_succ, List.filterMap_append, ih (Nat.le_of_lt hn), List.filterMap_cons_some (List.getElem?_eq_getElem hn), List.take_succ, List.getElem?_eq_getElem hn]
      rfl
  have e := hp.filterMap fun i => L[i]?
  rw [whole _ (Nat.le_refl _), List.take_length] at e
  exact e
/-- the table laid anew -/
theorem relay_n {o : Obj} (ho : s.heap.get? a = some o) (hex : o.ExactSet) (hd : o.data = .set es ep t) (hrows : es.toList = L.map (rowN w)) (hsz : t.place.size = es.size) (hdm : t.dummies = #[]) (hfl : es.size ≤ t.mask)
    (nd : (L.map (·.2)).Nodup) (pl : t.plain = true) (ld : w.params.followText "set-order" = true ∨ t.led = true) (few : L.length < 64) {wanted M : Nat} (hw : SetTable.sizeAbove wanted - 1 = M) (hM : MaskOk M) (hw2 : SetTable.sizeAbove wanted ≤ 128) (hn : L.length * 5 < M * 3) {Q : Unit → Shared → Prop}
    (hQ : ∀ h' L' es' ep' t', Heap.SameBut a s.heap h' → NSet0 w h' a L' es' ep' t' → L'.Perm L → Q () { s with heap := h' }) : wpAny (model P w) A (setRelay a wanted) Q E s := by
  have hsl := rows_size hrows
  obtain ⟨t', order, e, hp, T, em, el, ep', ed⟩ := relaid_ok t (hs := es.map (·.1)) (wanted := wanted) hw hM (by rw [Array.size_map, hsl]; omega)
  rw [Array.size_map, hsl] at hp
  obtain ⟨L2, r1, r2, r3⟩ := reorder hrows hp
  rw [← r3] at T
  have r1' : (order.filterMap (es[·]?)).toList = L2.map (rowN w) := by rw [Array.toList_filterMap]; exact r1
  have hs2 := rows_size r1'
  rw [setRelay_eq]
  refine wpAny_bind (wpAny_setState_of ho hd (fits_of hsz hdm hfl) ?_)
  dsimp only
  refine wp_if_neg (by rw [sizeLine_eq]; omega) ?_
  try refine wpAny_bind (wpAny_pure ?_)
  rw [e]
  dsimp only
  refine wpAny_bind ?_
  refine wp_if_neg (by rw [hs2, hsl, r2.length_eq]; simp) ?_
  try refine wpAny_bind (wpAny_pure ?_)
  refine wpAny_pure ?_
  dsimp only
  refine wpAny_storeSet_of ho hd ?_ (by rw [hs2, r2.length_eq, sizeLine_eq]; omega)
  exact hQ _ L2 (order.filterMap (es[·]?)) (ep + 1) t' (Heap.SameBut.update ..)
    ⟨⟨_, store_at ho hd, ⟨hex.1, hex.2.1, hex.2.2⟩, rfl⟩, r1', T, (r2.map (·.2)).nodup_iff.mpr nd, by rw [ep']; exact pl, by rw [el]; exact ld, by rw [r2.length_eq, em]; exact hn, by rw [r2.length_eq]; exact few⟩ r2
/-- add -/
theorem add_n (R : NSet0 w s.heap a L es ep t) (hL : ∀ p ∈ L, IsN s.heap p.2 p.1) {x : Addr} {k : NestedKey} (hx : IsN s.heap k x) (hu : A.units + 8 < cLine) (hfew : L.length + 1 < 64) {Q : Bool → Shared → Prop}
    (hQ : ∀ b h' L' es' ep' t', Heap.SameBut a s.heap h' → NSet0 w h' a L' es' ep' t' → (k ∈ L.map (·.2) → L' = L) → (k ∉ L.map (·.2) → L'.Perm ((x, k) :: L)) → Q b { s with heap := h' }) :
    wpAny (model P w) A (setAddHashed a (.ref x) (k.hash w)) Q E s := by
  obtain ⟨o, ho, hex, hd⟩ := R.ob
  have hroom := R.room
  have hsl := rows_size R.rows
  unfold setAddHashed
  refine wpAny_holding ?_
  rw [show (100000 : Nat) = 99999 + 1 from rfl, setAddHashedIn_succ]
  refine wpAny_bind (wpAny_setState_of ho hd R.fits ?_)
  dsimp only
  refine wp_if_neg (by simp [byScan, Value.scannable]) ?_
  try refine wpAny_bind (wpAny_pure ?_)
  refine wpAny_bind (search_n R hL hx hu (fun hm => ?_) fun K hm hK hb => ?_)
  · dsimp only
    exact wpAny_pure (hQ false s.heap L es ep t (Heap.SameBut.refl a s.heap) R (fun _ => rfl) fun z => absurd hm z)
  dsimp only
  refine wpAny_bind (wpAny_setState_of ho hd R.fits ?_)
  dsimp only
  obtain ⟨q1, q2, q3, q4, q5, q6, q7, q8, q9⟩ := R.tab.put hK hb
  have hp1 : (t.put (way t.mask (k.hash w) K)).1.plain = true := by rw [q6]; exact R.plain
  generalize hpt : t.put (way t.mask (k.hash w) K) = pt at q1 q3 q4 q5 q6 q7 q8 q9 hp1 ⊢
  obtain ⟨t1, p⟩ := pt
  dsimp only at q1 q3 q4 q5 q6 q7 q8 q9 hp1 ⊢
  subst q1
  have told := (tells_key (P := P) (w := w) _ 8 _ hx.num hx.is hx.dep).2
  first
    | (refine wpAny_bind ?_; refine wp_if_pos hp1 ?_; refine told _ _ _ ?_)
    | refine wp_if_pos hp1 (wpAny_bind (told _ _ _ ?_))
  simp only [if_true]
  generalize hpp : SetTable.below t.place (way t.mask (k.hash w) K) = p at q2 q3 ⊢
  have pm := put_perm L p (x, k)
  have hin : (SetTable.insertAt es p (k.hash w, Value.ref x)).toList = (L.take p ++ (x, k) :: L.drop p).map (rowN w) := by
    rw [SetTable.toList_insertAt, R.rows, List.map_append, List.map_cons, List.map_take, List.map_drop]
    rfl
  have hhs : (L.take p ++ (x, k) :: L.drop p).map (fun p => p.2.hash w) = (L.map fun p => p.2.hash w).take p ++ k.hash w :: (L.map fun p => p.2.hash w).drop p := by
    rw [List.map_append, List.map_cons, List.map_take, List.map_drop]
  rw [← hhs] at q3
  have hlen : (L.take p ++ (x, k) :: L.drop p).length = L.length + 1 := pm.length_eq
  have hes := rows_size hin
  rw [hlen] at hes
  have nd1 : ((L.take p ++ (x, k) :: L.drop p).map (·.2)).Nodup := (pm.map (·.2)).nodup_iff.mpr (by rw [List.map_cons]; exact List.nodup_cons.mpr ⟨hm, R.nd⟩)
  have ld1 : w.params.followText "set-order" = true ∨ t1.led = true := by rw [q5]; exact R.led
  generalize SetTable.insertAt es p (k.hash w, Value.ref x) = es1 at hin hes ⊢
  generalize L.take p ++ (x, k) :: L.drop p = L1 at pm hlen q3 nd1 hin
  refine wpAny_bind (wpAny_storeSet_of ho hd ?_ (by rw [hes, sizeLine_eq]; omega))
  have sb : Heap.SameBut a s.heap (s.heap.update a (Obj.putSet es1 t1)) := Heap.SameBut.update ..
  have ho1 := store_at (es' := es1) (t' := t1) ho hd
  generalize s.heap.update a (Obj.putSet es1 t1) = h1 at sb ho1 ⊢
  have full : t1.tooFull = decide ((L.length + 1) * 5 ≥ t1.mask * 3) := by
    unfold SetTable.tooFull
    rw [q9, List.length_map]
  by_cases hf : (L.length + 1) * 5 ≥ t1.mask * 3
  · have hf' : t1.tooFull = true := by rw [full]; exact decide_eq_true hf
    first
      | (refine wpAny_bind ?_; refine wp_if_pos (by simp [hf']) ?_)
      | (refine wp_if_pos (by simp [hf']) ?_; refine wpAny_bind ?_)
    have small : (t.mask = 7 ∧ L.length = 4) ∨ (t.mask = 31 ∧ L.length = 18) := by
      rcases R.tab.mok with e | e | e
      · exact .inl ⟨e, by rw [q4, e] at hf; rw [e] at hroom; omega⟩
      · exact .inr ⟨e, by rw [q4, e] at hf; rw [e] at hroom; omega⟩
      · exfalso; rw [q4, e] at hf; omega
    have hsz1 : t1.place.size = es1.size := by
      have z := q3.sz
      rw [List.length_map, hlen] at z
      rw [z, hes]
    have go : ∀ M, SetTable.sizeAbove (SetTable.grown (L.length + 1)) - 1 = M → MaskOk M → SetTable.sizeAbove (SetTable.grown (L.length + 1)) ≤ 128 → (L.length + 1) * 5 < M * 3 →
        wpAny (model P w) A (setRelay a (SetTable.grown (L.length + 1))) (fun _ s' => wpAny (model P w) A (pure true) Q E s') E { s with heap := h1 } := fun M g1 g2 g3 g4 =>
      relay_n (s := { s with heap := h1 }) ho1 ⟨hex.1, hex.2.1, hex.2.2⟩ rfl hin hsz1 q3.dm (by rw [hes, q4]; rcases small with ⟨e, e2⟩ | ⟨e, e2⟩ <;> omega) nd1 hp1 ld1 (by rw [hlen]; exact hfew) g1 g2 g3 (by rw [hlen]; exact g4)
        fun h2 L2 es2 ep2 t2 sb2 R2 pm2 => wpAny_pure (hQ true h2 L2 es2 ep2 t2 (sb.trans sb2) R2 (fun z => absurd z hm) fun _ => pm2.trans pm)
    rw [hsl]
    rcases small with ⟨_, e2⟩ | ⟨_, e2⟩
    · exact go 31 (by rw [e2, size_20]) (.inr (.inl rfl)) (by rw [e2, size_20]; decide) (by omega)
    · exact go 127 (by rw [e2, size_76]) (.inr (.inr rfl)) (by rw [e2, size_76]; decide) (by omega)
  · have hf' : t1.tooFull = false := by rw [full]; exact decide_eq_false hf
    first
      | refine wp_if_neg (by simp [hf']) ?_
      | (refine wpAny_bind ?_; refine wp_if_neg (by simp [hf']) ?_; refine wpAny_pure ?_)
    exact wpAny_pure (hQ true h1 L1 es1 (ep + 1) t1 sb ⟨⟨_, ho1, ⟨hex.1, hex.2.1, hex.2.2⟩, rfl⟩, hin, q3, nd1, hp1, ld1, by rw [hlen]; omega, by rw [hlen]; exact hfew⟩ (fun z => absurd z hm) fun _ => pm)
end
end Sk

/-! Sk: dict and set comprehensions over data made of tuples. -/
namespace Sk
open PySem L2 PySem.Spec PyProof.Rows

abbrev testsOk (ifs : List Expr) (env : Env) : Sem Bool := forIn ifs true fun c r => if r = true then do let ok ← isTrue c env (eval c env); pure (ForInStep.yield ok) else pure (ForInStep.yield r)
abbrev wpF {α : Type} (M : Model) (A : Around) (t : Sem α) (Q : α → Shared → Prop) (s : Shared) : Prop := wpAny M A t Q (fun _ _ => False) s
/-- how the loop of a comprehension's block goes: Store is what a turn that passes the tests does -/
def Loops (M : Model) (comp tg : Expr) (ifs : List Expr) (Store : Around → Env → Addr → Shared → (Shared → Prop) → Prop) : Prop :=
  ∀ (A : Around) (R : Result → Shared → Prop) (it D : Addr) (env : Env) (I : Nat → Shared → Prop),
    (∀ n s, I n s → wpF M A (pyNext (.ref it)) (fun r s₁ => match r with
      | none => R (.ok .next) s₁
      | some v => wpF M A (letOwnedTupleGo tg (.ref it) v) (fun _ s₂ => wpF M A (assign tg env v) (fun _ s₃ => wpF M A (testsOk ifs env) (fun ok s₄ =>
          if ok = true then Store A env D s₄ (fun s' => ∃ m, m < n ∧ I m s') else ∃ m, m < n ∧ I m s₄) s₃) s₂) s₁) s) →
    ∀ n s, I n s → codeAny M A (.compLoop comp 0 (.ref it) (.ref D) env) R s
theorem lose {α : Type} {M : Model} {A : Around} {t : Sem α} {Q Q' : α → Shared → Prop} {E : Value → Shared → Prop} {s : Shared} (h : wpF M A t Q s) (hQ : ∀ a s', Q a s' → Q' a s') : wpAny M A t Q' E s := wpAny_mono h hQ fun _ _ z => z.elim
section
variable {P : Program} {w : World}
abbrev StoreD (P : Program) (w : World) (kx vx : Expr) : Around → Env → Addr → Shared → (Shared → Prop) → Prop := fun A env D s K =>
  wpF (model P w) A (eval kx env) (fun kv s1 => wpF (model P w) A (eval vx env) (fun vv s2 => wpF (model P w) A (dictSet D kv vv) (fun _ s3 => K s3) s2) s1) s
abbrev StoreS (P : Program) (w : World) (elt : Expr) : Around → Env → Addr → Shared → (Shared → Prop) → Prop := fun A env D s K =>
  wpF (model P w) A (eval elt env) (fun v s1 => wpF (model P w) A (call (.builtin "set.add") [.ref D, v]) (fun _ s2 => K s2) s1) s
theorem loops_dict {kx vx tg iter : Expr} {ifs : List Expr} {scope : Scope} {pos : Pos} : Loops (model P w) (.DictComp kx vx [⟨tg, iter, ifs, 0⟩] scope pos) tg ifs (StoreD P w kx vx) := by
  intro A R it D env I turn n s h
  refine compLoop_anyD I (fun n s hI => lose (turn n s hI) fun r s1 q => ?_) n h
  cases r with
  | none => exact q
  | some v =>
    refine lose q fun _ s2 q => lose q fun _ s3 q => lose q fun ok s4 q => ?_
    cases ok with
    | false => exact q
    | true =>
      simp only [if_true] at q ⊢
      exact lose q fun kv s5 q => lose q fun vv s6 q => lose q fun _ s7 q => q
theorem loops_set {elt tg iter : Expr} {ifs : List Expr} {scope : Scope} {pos : Pos} : Loops (model P w) (.SetComp elt [⟨tg, iter, ifs, 0⟩] scope pos) tg ifs (StoreS P w elt) := by
  intro A R it D env I turn n s h
  refine PpSet.compLoopS_any I (fun n s hI => lose (turn n s hI) fun r s1 q => ?_) n h
  cases r with
  | none => exact q
  | some v =>
    refine lose q fun _ s2 q => lose q fun _ s3 q => lose q fun ok s4 q => ?_
    cases ok with
    | false => exact q
    | true =>
      simp only [if_true] at q ⊢
      exact lose q fun kv s5 q => lose q fun _ s7 q => q
end

section
variable {X : Cx}
/-- what a turn's end asks of the new container at D; how the container is made -/
abbrev TSt := Addr → L2.St → Hp → (Hp → Prop) → Prop
abbrev TNew := Addr → Hp → (Hp → Prop) → Prop
def tBk (wi : TI) (g : TG) (tt : TT) (st : TSt) (new : TNew) (vs : List Nat) : TE := fun σ H Q => wi σ H fun J H1 => ∀ D, H1 D = none → new D H1 fun H2 => ∃ W : Nat → Nat → Hp → Prop, (∃ m, W 0 m H2) ∧ ∀ i m H, W i m H →
  (J.stop i H ∧ Q (.ref D) H) ∨ (J.go i H ∧ ∃ Nx : Hp → Prop, (∀ H', Nx H' → ∃ m', m' < m ∧ W (i + 1) m' H') ∧ ∀ x H', J.yld i H x H' → g x (wipe σ vs) H' fun σ2 H2 => wipe σ2 vs = wipe σ vs ∧ tt σ2 H2 fun b H3 =>
    if b = true then st D σ2 H3 Nx else Nx H3)
/-- the facts of one comprehension's form -/
structure Form (X : Cx) (comp tg iter : Expr) (ifs : List Expr) (scope : Scope) (mk : Sem Value) (O : Obj) (st : TSt) (new : TNew) : Prop where
  cl : clausesOf comp = [⟨tg, iter, ifs, 0⟩]
  loops : ∃ Store : Around → Env → Addr → Shared → (Shared → Prop) → Prop, Loops (model X.prog X.w) comp tg ifs Store ∧ (∀ A env D s K K', Store A env D s K → (∀ s', K s' → K' s') → Store A env D s K') ∧ ∀ (s0 : Shared) (H0 : Hp) (C : Addr) (cl : List (Str × Addr)) (fp : List Addr) (pins : List (Addr × Obj)) (s : Shared) (σ : L2.St) (H : Hp) (D : Addr) (Nx : Hp → Prop),
      Inv (X.blk s0 H0 scope (compEnvC scope cl C X.env) fp) pins σ H s → st D σ H Nx → Store X.A (compEnvC scope cl C X.env) D s (fun s' => ∃ H', Inv (X.blk s0 H0 scope (compEnvC scope cl C X.env) fp) pins σ H' s' ∧ Nx H')
  made : ∀ (s : Shared) (Q : Value → Shared → Prop) (E : Value → Shared → Prop), Q (.ref s.heap.objs.size) { s with heap := s.heap.push O } → wpAny (model X.prog X.w) X.A mk Q E s
  new : ∀ (pins : List (Addr × Obj)) (σ : L2.St) (s : Shared) (H : Hp) (K : Hp → Prop), Inv X pins σ H s → new s.heap.objs.size H K → ∃ ob, Inv X pins σ (upd H s.heap.objs.size ob) { s with heap := s.heap.push O } ∧ K (upd H s.heap.objs.size ob)
  start : ∀ (R : Result → Shared → Prop) (it acc : Value) (env : Env) (s : Shared), codeAny (model X.prog X.w) X.A (.compLoop comp 0 it acc env) R s →
      wpAny (model X.prog X.w) X.A (pyIter it) (fun it' s' => codeAny (model X.prog X.w) X.A (.compLoop comp 0 it' acc env) R s') (notedBy (model X.prog X.w) X.A env fun x s' => R (.error x) s') s → codeAny (model X.prog X.w) X.A (.compStart comp 0 it acc env) R s
theorem bk_core {pins : List (Addr × Obj)} {s : Shared} {σ : L2.St} {H : Hp} {Q : VK} {comp tg iter : Expr} {ifs : List Expr} {scope : Scope} {own : List (Str × Nat)} {pos' : Pos} {wi : TI} {g : TG} {tt : TT} {st : TSt} {new : TNew} {mk : Sem Value} {O : Obj} {use : Option (Value → Sem Unit)} {Qf : Value → Shared → Prop}
    (F : Form X comp tg iter ifs scope mk O st new) (hc : X.calm = true) (hN : X.N.Nodup) (I : Inv X pins σ H s) (hi : PI X tg iter wi) (ok : BlkOk X.N X.env.scope scope own)
    (hg : ∀ (s : Shared) (H : Hp) (C : Addr) (cl : List (Str × Addr)) (fp : List Addr), PG (X.blk s H scope (compEnvC scope cl C X.env) fp) tg g) (ht : ∀ (s : Shared) (H : Hp) (C : Addr) (cl : List (Str × Addr)) (fp : List Addr), PTs (X.blk s H scope (compEnvC scope cl C X.env) fp) ifs tt)
    (hs : ∀ x, foldedSetIterable iter X.env x = pure x) (h : tBk wi g tt st new (own.map (·.2)) σ H Q)
    (hRR : ∀ D C s' m H', Inv X pins σ H' s' → Q (.ref D) H' → s'.heap.Ns C m → FpOk X pins H' C → compPost (model X.prog X.w) X.A X.xe use Qf (.ref D) C (.ok .next) s') :
    wpAny (model X.prog X.w) X.A (comprehension comp scope X.env pos' mk false (eval iter X.env) use) Qf X.xe s := by
  obtain ⟨Store, hloops, hmono, hstore⟩ := F.loops
  have hfree : ∀ y ∈ scope.names, y.2 = .free → ∃ c, X.env.cells.lookup y.1 = some c := fun y hy e => (ok.free y hy e).elim (fun k => I.ok.has _ (.inl k)) fun k => I.ok.has _ (.inr k)
  refine wpAny_comprehension_free (use := use) F.cl hs (closure_ok hfree) ok.kind (fun y hy e => by rw [ok.uniq y hy, e])
    (thn (hi.run pins s σ H _ I h) fun xv s1 hx => thn hx fun itv s2 h2 => ?_)
  obtain ⟨it, fp, tn, J, H2, e, I2, T, st2, f2, q⟩ := h2
  subst e
  have young : ∀ b ∈ fp, b < s2.heap.objs.size := fun b hb => let ⟨_, e, _⟩ := T.obj _ _ st2 b hb; Heap.lt_size e
  have q2 := q s2.heap.objs.size (I2.hok.fresh (Nat.le_refl _))
  obtain ⟨ob, I3, q3⟩ := F.new pins σ s2 H2 _ I2 q2
  refine F.made s2 _ _ (newEnv_comp ?_)
  generalize hD : s2.heap.objs.size = D at *
  obtain ⟨W, ⟨m0, w0⟩, turn⟩ := q3
  generalize hs3 : ({ s2 with heap := s2.heap.push O } : Shared) = s3 at I3 ⊢
  have h3 : s3.heap = s2.heap.push O := by rw [← hs3]
  have f3 : ∀ b ∈ fp, FpOk X pins (upd H2 D ob) b ∧ b < s3.heap.objs.size := fun b hb =>
    ⟨⟨by rw [upd_ne (Nat.ne_of_lt (young b hb))]; exact (f2 b hb).1, (f2 b hb).2⟩, by rw [h3, Heap.size_push, hD]; exact Nat.lt_succ_of_lt (young b hb)⟩
  have st3 : tn 0 s3.heap := T.keep _ _ _ st2 fun b _ o e => by rw [h3]; exact Heap.get?_push_of_some _ e
  have I4 := block_start I3 ok hN f3
  have hbe : s3.heap.objs.size = s3.heap.objs.size := rfl
  generalize hH3 : upd H2 D ob = H3 at I3 I4 w0 f3
  show codeAny _ _ (.compStart comp 0 (.ref it) (.ref D) (compEnvC scope (cellsFrom (s3.heap.objs.size + 1) scope.names (cloFrom X.env.cells scope.names [])) s3.heap.objs.size X.env)) (compPost (model X.prog X.w) X.A X.xe use Qf (.ref D) s3.heap.objs.size) { s3 with heap := pushCells (s3.heap.push { cls := .type "dict", data := .dict #[] }) scope.names }
  generalize cellsFrom (s3.heap.objs.size + 1) scope.names (cloFrom X.env.cells scope.names []) = cl at I4 ⊢
  have pg := hg s3 H3 s3.heap.objs.size cl fp
  have pt := ht s3 H3 s3.heap.objs.size cl fp
  have ps := hstore s3 H3 s3.heap.objs.size cl fp
  have cL : (compEnvC scope cl s3.heap.objs.size X.env).locals = s3.heap.objs.size := rfl
  generalize compEnvC scope cl s3.heap.objs.size X.env = ce at I4 pg pt ps cL ⊢
  generalize hs4 : ({ s3 with heap := pushCells (s3.heap.push { cls := .type "dict", data := .dict #[] }) scope.names } : Shared) = s4 at I4 ⊢
  have st4 : tn 0 s4.heap := T.keep _ _ _ st3 fun b _ o e => by rw [← hs4]; exact pushCells_keeps _ _ _ _ (Heap.get?_push_of_some _ e)
  have here : ∀ {σ' : L2.St} {H' : Hp} {s' : Shared}, Inv (X.blk s3 H3 scope ce fp) [] σ' H' s' → (∀ b ∈ fp, H' b = none) → ∀ b ∈ fp, FpOk (X.blk s3 H3 scope ce fp) [] H' b := fun {σ' H' s'} I' hn b hb =>
    ⟨hn b hb, (I'.ok.exf b hb).1, I'.ok.exfs b hb, .inl hb, fun x c e => (I'.ok.exf b hb).2 x c e, fun p hp => nomatch (show p ∈ ([] : List (Addr × Obj)) from hp)⟩
  have loop : codeAny (model X.prog X.w) X.A (.compLoop comp 0 (.ref it) (.ref D) ce) (compPost (model X.prog X.w) X.A X.xe use Qf (.ref D) s3.heap.objs.size) s4 := by
    refine hloops X.A _ it D ce (fun n s' => ∃ i H', Inv (X.blk s3 H3 scope ce fp) [] (wipe σ (own.map (·.2))) H' s' ∧ tn i s'.heap ∧ (∀ b ∈ fp, H' b = none) ∧ W i n H') ?_ m0 s4 ⟨0, H3, I4, st4, fun b hb => (f3 b hb).1.1, w0⟩
    rintro n s5 ⟨i, H5, I5, st5, n5, w5⟩
    rcases turn i n H5 w5 with ⟨stop, qq⟩ | ⟨go, Nx, hNx, step⟩
    · refine thnF (T.done (X.blk s3 H3 scope ce fp) rfl rfl rfl hc i [] s5 _ H5 (fun _ _ => False) I5 (here I5 n5) st5 stop) fun r s6 ⟨hr, I6⟩ => ?_
      subst hr
      have I7 : Inv X pins σ H5 s6 := I3.call' (ch := fp) I6.os I6.base I6.hok I6.bare fun b hb => ⟨(f3 b hb).1.2.2.2.1, (f3 b hb).1.2.1, (f3 b hb).1.2.2.2.2.1, (f3 b hb).1.2.2.2.2.2⟩
      have nC : H5 ce.locals = none := I6.free
      obtain ⟨m, hn, _⟩ := I6.loc
      have hn : s6.heap.Ns ce.locals m := hn
      rw [cL] at nC hn
      exact hRR D s3.heap.objs.size s6 m H5 I7 qq hn (I3.fpOk (Nat.le_refl _) nC)
    · refine thnF (T.item (X.blk s3 H3 scope ce fp) rfl rfl rfl hc i [] s5 _ H5 (fun _ _ => False) I5 (here I5 n5) st5 go) fun r s6 ⟨u, hr, h6⟩ => ?_
      subst hr
      refine thnF h6 fun _ s7 ⟨x, H7, I7, r7, y7, st7, n7⟩ => ?_
      refine thnF (pg.run _ s7 _ H7 x u _ (I7.pinned (here I7 n7) (T.obj _ _ st7)) r7 (step x H7 y7)) fun _ s8 ⟨σ8, H8, I8, hw8, q8⟩ => ?_
      refine thnF (pt.run _ s8 σ8 H8 _ I8 q8) fun b s9 ⟨H9, I9, q9⟩ => ?_
      have fin : ∀ {s' : Shared} {H' : Hp}, Inv (X.blk s3 H3 scope ce fp) ([] ++ pinsAt fp s7.heap) σ8 H' s' → Nx H' → ∃ m, m < n ∧ ∃ i H', Inv (X.blk s3 H3 scope ce fp) [] (wipe σ (own.map (·.2))) H' s' ∧ tn i s'.heap ∧ (∀ b ∈ fp, H' b = none) ∧ W i m H' := fun {s' H'} I' nx => by
        obtain ⟨m', hm, w'⟩ := hNx H' nx
        have pinned : ∀ b ∈ fp, ∀ o, s7.heap.get? b = some o → s'.heap.get? b = some o ∧ H' b = none := fun b hb o e =>
          have z := I'.pin (b, o) (List.mem_append_right _ (List.mem_append_right _ (mem_pinsAt hb e)))
          ⟨z.1, z.2.1⟩
        refine ⟨m', hm, i + 1, H', (I'.unpinned (pins := [])).weak (by rw [← hw8, wipe_length]) (fun j v e => ?_), T.keep _ _ _ st7 fun b hb o e => (pinned b hb o e).1, fun b hb => ?_, w'⟩
        · rw [← hw8] at e
          exact (wipe_some e).1
        · obtain ⟨o, e, _⟩ := T.obj _ _ st7 b hb
          exact (pinned b hb o e).2
      cases b with
      | false =>
        simp only [Bool.false_eq_true, if_false] at q9 ⊢
        exact fin I9 q9
      | true =>
        simp only [if_true] at q9 ⊢
        exact hmono _ _ _ _ _ _ (ps _ s9 σ8 H9 D Nx I9 q9) fun s' ⟨H', I', nx⟩ => fin I' nx
  exact F.start _ _ _ _ _ loop (T.self X.A 0 _ _ _ st4 loop)

variable (β : Type) [EncT β]
/-- {k: v for ..}: what a turn asks -/
def stD (w : World) (K : PySem.W.Frag) (tk tv : TE) : TSt := fun D σ H Nx => tk σ H fun y H4 => tv σ H4 fun z H5 => ∃ (kvs : List (β × V)) (b : β), DictAt w K H5 D kvs ∧ R K H5 y b ∧ kvs.length < sizeLine ∧ ∀ ob, DictAt w K (upd H5 D ob) D (putK kvs b z) → Nx (upd H5 D ob)
def newD (w : World) (K : PySem.W.Frag) : TNew := fun D H Kk => ∀ ob, DictAt w K (upd H D ob) D ([] : List (β × V)) → Kk (upd H D ob)
theorem n_dictSet {pins : List (Addr × Obj)} {σ : L2.St} {H : Hp} {s : Shared} {A : Around} {E : Value → Shared → Prop} {d : Addr} {kvs : List (β × V)} {b : β} {v y : V} {u r : Value} {Q : Unit → Shared → Prop} (hu : A.units + 64 < cLine) (I : Inv X pins σ H s) (D : DictAt X.w X.K H d kvs) (hb : R X.K H y b) (ry : RelV y u) (rv : RelV v r) (hz : kvs.length < sizeLine)
    (h : ∀ ob s', DictAt X.w X.K (upd H d ob) d (putK kvs b v) → Inv X pins σ (upd H d ob) s' → Q () s') : wpAny (model X.prog X.w) A (dictSet d u r) Q E s := by
  obtain ⟨es, ep, D⟩ := D
  obtain ⟨a, e⟩ := ref_of hb
  subst e
  cases ry
  obtain ⟨xs, e, t, hd⟩ := D.of I
  have hl := length_putK kvs b v
  have hr : (NK X).room A := by show A.units + 8 < cLine; omega
  refine wpAny_dictSet_heap (hsz := by rw [t.length]; exact D.sz) hr (R.is I hb) hd fun h' hd' hs => ?_
  obtain ⟨ob, I', D'⟩ := dn_after (t' := s.toks + (NK X).draws (en b)) I D hd' hs (t.put b hb rv) (nd_put b v D.nd) (by omega)
  exact h ob _ D' I'
theorem form_dict {kx vx tg iter : Expr} {ifs : List Expr} {scope : Scope} {pos : Pos} {tk tv : TE} (hu : X.A.units + 64 < cLine)
    (hk : ∀ (s : Shared) (H : Hp) (C : Addr) (cl : List (Str × Addr)) (fp : List Addr), PE (X.blk s H scope (compEnvC scope cl C X.env) fp) kx tk)
    (hv : ∀ (s : Shared) (H : Hp) (C : Addr) (cl : List (Str × Addr)) (fp : List Addr), PE (X.blk s H scope (compEnvC scope cl C X.env) fp) vx tv) :
    Form X (.DictComp kx vx [⟨tg, iter, ifs, 0⟩] scope pos) tg iter ifs scope newDict { cls := .type "dict", data := .dict #[] } (stD β X.w X.K tk tv) (newD β X.w X.K) where
  cl := rfl
  loops := ⟨_, loops_dict, fun A env D s K K' h hK => thnF h fun _ _ h => thnF h fun _ _ h => thnF h fun _ _ h => hK _ h, fun s0 H0 C cl fp pins s σ H D Nx I h => by
    refine thnF ((hk s0 H0 C cl fp).run pins s σ H _ I h) fun u s1 ⟨y, H1, I1, r1, q1⟩ => ?_
    refine thnF ((hv s0 H0 C cl fp).run pins s1 σ H1 _ I1 q1) fun u2 s2 ⟨z, H2, I2, r2, kvs, b, D2, hb, hz, q2⟩ => ?_
    exact n_dictSet (X := X.blk s0 H0 scope (compEnvC scope cl C X.env) fp) β hu I2 D2 hb r1 r2 hz fun ob s' D' I' => ⟨_, I', q2 ob D'⟩⟩
  made := fun s Q E h => wpAny_newObj_type h
  new := fun pins σ s H K I h => by
    obtain ⟨ob, I', D⟩ := dn_new β I
    exact ⟨ob, I', h ob D⟩
  start := fun R it acc env s h1 h2 => codeAny_compStart_dict h1 h2
variable {β}
theorem pe_bk {comp tg iter : Expr} {ifs : List Expr} {scope : Scope} {own : List (Str × Nat)} {wi : TI} {g : TG} {tt : TT} {st : TSt} {new : TNew} {mk : Sem Value} {O : Obj} {pos' : Pos} (F : Form X comp tg iter ifs scope mk O st new) (hev : eval comp X.env = comprehension comp scope X.env pos' mk false (eval iter X.env) none) (hc : X.calm = true) (hN : X.N.Nodup) (hi : PI X tg iter wi) (ok : BlkOk X.N X.env.scope scope own)
    (hg : ∀ (s : Shared) (H : Hp) (C : Addr) (cl : List (Str × Addr)) (fp : List Addr), PG (X.blk s H scope (compEnvC scope cl C X.env) fp) tg g) (ht : ∀ (s : Shared) (H : Hp) (C : Addr) (cl : List (Str × Addr)) (fp : List Addr), PTs (X.blk s H scope (compEnvC scope cl C X.env) fp) ifs tt)
    (hs : ∀ x, foldedSetIterable iter X.env x = pure x := by intro _; rfl) : PE X comp (tBk wi g tt st new (own.map (·.2))) := by
  refine ⟨fun pins s σ H Q I h => ?_⟩
  rw [hev]
  refine bk_core F hc hN I hi ok hg ht hs h fun D C s' m H' I' q hn f => ⟨m, hn, fun h'' sb => ?_⟩
  obtain ⟨f0, f1, f2, f3, f4, f5⟩ := f
  exact ⟨.ref D, H', I'.turned (t' := s'.toks) (fun b o hb e => (sb.2 b hb).trans e) f0 f1 f3 f4 f5, rfl, q⟩
/-- y = {..} on one line, y a local -/
theorem ps_bk {i : Nat} {y : Str} {py spos : Pos} {comp tg iter : Expr} {ifs : List Expr} {scope : Scope} {own : List (Str × Nat)} {wi : TI} {g : TG} {tt : TT} {st : TSt} {new : TNew} {mk : Sem Value} {O : Obj} {pos' : Pos} (F : Form X comp tg iter ifs scope mk O st new)
    (hsw : swapsWith comp (some (.Name y py)) spos.line X.env = pure true)
    (hut : evalThenUse comp X.env (assign (.Name y py) X.env) = (do let _ ← comprehension comp scope X.env pos' mk false (eval iter X.env) (some (assign (.Name y py) X.env))))
    (hc : X.calm = true) (hN : X.N.Nodup) (hy : X.N[i]? = some y) (hyl : X.env.scope.names.lookup y = some .local) (hi : PI X tg iter wi) (ok : BlkOk X.N X.env.scope scope own)
    (hg : ∀ (s : Shared) (H : Hp) (C : Addr) (cl : List (Str × Addr)) (fp : List Addr), PG (X.blk s H scope (compEnvC scope cl C X.env) fp) tg g) (ht : ∀ (s : Shared) (H : Hp) (C : Addr) (cl : List (Str × Addr)) (fp : List Addr), PTs (X.blk s H scope (compEnvC scope cl C X.env) fp) ifs tt)
    (hs : ∀ x, foldedSetIterable iter X.env x = pure x := by intro _; rfl) : PS X (.Assign [.Name y py] comp spos) (tAsg (tBk wi g tt st new (own.map (·.2))) (gName i)) := by
  refine ⟨fun pins s σ H D I h => ?_⟩
  rw [exec_Assign_Name_used _ _ _ _ hsw, hut]
  refine wpAny_bind (wpAny_standAt (wpAny_bind ?_))
  have h : tBk wi g tt st new (own.map (·.2)) σ H (fun x H1 => gName i x σ H1 D.nx) := h
  refine wpAny_bind (thn (bk_core (Qf := fun _ s' => SP X pins D .next s') F hc hN I hi ok hg ht hs h fun L C s' m H' I' q hn f => ?_) fun _ s' hq => wpAny_pure (wpAny_pure hq))
  show wpAny _ _ (assign (.Name y py) X.env (.ref L)) _ _ _
  refine wpAny_assign_Name (store_ok2 (v := V.ref L) I' hN hy (.inl hyl) rfl (fun s2 I2 ⟨a, sb, ha⟩ => ?_) (.inr hyl))
  obtain ⟨f0, f1, f2, f3, f4, f5⟩ := f
  have haC : C ≠ a := by
    rcases ha with z | z
    · rw [z]; exact f1
    · exact fun e => f4 y a z e.symm
  refine ⟨m, hn.sameBut sb haC, fun h3 sb3 => ?_⟩
  exact ⟨_, H', I2.turned (t' := s2.toks) (fun b o hb e => (sb3.2 b hb).trans e) f0 f1 f3 f4 f5, q⟩
end
end Sk

/-! Sk: sets of nested tuples as tracked things. -/
namespace Sk
open PySem L2 PySem.Spec PyProof.Rows

class EncN (β : Type) extends EncS β where
  num : ∀ b : β, NumK (enc b) = true
def SO (w : World) (a : Addr) (L : List KA) : HO := .ext fun h => ∃ es ep t, NSet0 w h a L es ep t
theorem NSet0.at {w : World} {h h' : Heap} {a : Addr} {L : List KA} {es : Array (Int × Value)} {ep : Nat} {t : SetTable} (R : NSet0 w h a L es ep t) (k : ∀ o, h.get? a = some o → h'.get? a = some o) : NSet0 w h' a L es ep t :=
  ⟨let ⟨o, ho, x⟩ := R.ob; ⟨o, k o ho, x⟩, R.rows, R.tab, R.nd, R.plain, R.led, R.room, R.few⟩
theorem so_ok {P : Program} {w : World} {H : Hp} {h : Heap} {a : Addr} {L : List KA} {es : Array (Int × Value)} {ep : Nat} {t : SetTable} (R : NSet0 w h a L es ep t) : ObjOk P w H h a (SO w a L) :=
  ⟨⟨es, ep, t, R⟩, let ⟨o, ho, _⟩ := R.ob; ⟨o, ho⟩, fun _ _ ⟨es, ep, t, x⟩ k => ⟨es, ep, t, x.at k⟩⟩
inductive Mem {β : Type} [Enc β] (K : PySem.W.Frag) (H : Hp) : List KA → List β → Prop
  | nil : Mem K H [] []
  | cons {a : Addr} {b : β} {L : List KA} {bs : List β} : R K H (.ref a) b → Mem K H L bs → Mem K H ((a, en b) :: L) (b :: bs)
/-- a set of bs stands at a -/
def SetAt {β : Type} [Enc β] (w : World) (K : PySem.W.Frag) (H : Hp) (a : Addr) (bs : List β) : Prop := ∃ L, H a = some (SO w a L) ∧ Mem K H L bs
section
variable {β : Type} [Enc β] {w : World} {K : PySem.W.Frag} {H H' : Hp} {a : Addr} {bs : List β} {L : List KA}
theorem Mem.fut (h : Mem K H L bs) (e : TK K H H') : Mem K H' L bs := by
  induction h with
  | nil => exact .nil
  | cons h1 _ ih => exact .cons (h1.fut e) ih
theorem SetAt.fut (h : SetAt w K H a bs) (e : TK K H H') (hd : H' a = H a) : SetAt w K H' a bs := let ⟨L, h1, h2⟩ := h; ⟨L, hd.trans h1, h2.fut e⟩
theorem SetAt.same (h : SetAt w K H a bs) (e : Same H H') : SetAt w K H' a bs := let ⟨L, h1, h2⟩ := h; ⟨L, e _ _ h1, h2.fut (TK.same e)⟩
theorem SetAt.noT (h : SetAt w K H a bs) : NoT (H a) := by
  obtain ⟨L, e, _⟩ := h
  rw [e]
  trivial
theorem Mem.keys (h : Mem K H L bs) : L.map (·.2) = bs.map en := by
  induction h with
  | nil => rfl
  | cons _ _ ih => simp [ih]
theorem Mem.length (h : Mem K H L bs) : L.length = bs.length := by
  have e := congrArg List.length h.keys
  simpa using e
theorem Mem.mem_iff (h : Mem K H L bs) (b : β) : en b ∈ L.map (·.2) ↔ b ∈ bs := by
  rw [h.keys, List.mem_map]
  constructor
  · rintro ⟨c, hc, e⟩
    rw [← Enc.inj e]
    exact hc
  · exact fun hb => ⟨b, hb, rfl⟩
theorem Mem.nodup (h : Mem K H L bs) (nd : (L.map (·.2)).Nodup) : bs.Nodup := by
  rw [h.keys] at nd
  exact List.Pairwise.of_map en (fun a b hne e => hne (congrArg en e)) nd
/-- a permutation of the entries -/
theorem Mem.perm {L' : List KA} (p : L'.Perm L) : ∀ {bs : List β}, Mem K H L bs → ∃ bs', bs'.Perm bs ∧ Mem K H L' bs' := by
  induction p with
  | nil => intro bs h; cases h; exact ⟨[], .nil, .nil⟩
  | cons x _ ih =>
    intro bs h
    cases h with
    | cons h1 h2 =>
      obtain ⟨bs', q, m⟩ := ih h2
      exact ⟨_, q.cons _, .cons h1 m⟩
  | swap x y l =>
    intro bs h
    cases h with
    | cons h1 h2 =>
      cases h2 with
      | cons h3 h4 => exact ⟨_, .swap _ _ _, .cons h3 (.cons h1 h4)⟩
  | trans _ _ ih1 ih2 =>
    intro bs h
    obtain ⟨b1, q1, m1⟩ := ih2 h
    obtain ⟨b2, q2, m2⟩ := ih1 m1
    exact ⟨b2, q2.trans q1, m2⟩
end
section
variable {β : Type} [EncN β] {X : Cx} {pins : List (Addr × Obj)} {σ : L2.St} {H : Hp} {s : Shared} {a : Addr} {bs : List β} {b : β} {A : Around} {E : Value → Shared → Prop}
theorem R.isN (I : Inv X pins σ H s) (h : R X.K H (.ref a) b) : IsN s.heap (en b) a := ⟨KR.nested I _ _ _ h rfl, Nat.le_trans (Enc.dep b) (by decide), EncN.num b⟩
theorem Mem.isN {L : List KA} (I : Inv X pins σ H s) (h : Mem X.K H L bs) : ∀ p ∈ L, IsN s.heap p.2 p.1 := by
  induction h with
  | nil => intro p hp; cases hp
  | cons h1 _ ih =>
    intro p hp
    rcases List.mem_cons.mp hp with e | e
    · subst e; exact R.isN I h1
    · exact ih p e
theorem s_add {y : V} {u : Value} {Q : Value → Shared → Prop} (hu : A.units + 64 < cLine) (I : Inv X pins σ H s) (S : SetAt X.w X.K H a bs) (hb : R X.K H y b) (ry : RelV y u) (hfew : bs.length + 1 < 64)
    (h : ∀ ob bs' s', (∀ c, c ∈ bs' ↔ c = b ∨ c ∈ bs) → bs'.length ≤ bs.length + 1 → SetAt X.w X.K (upd H a ob) a bs' → Inv X pins σ (upd H a ob) s' → Q .none s') : wpAny (model X.prog X.w) A (call (.builtin "set.add") [.ref a, u]) Q E s := by
  have nt := S.noT
  obtain ⟨L, hL, M⟩ := S
  obtain ⟨x, e⟩ := ref_of hb
  subst e
  cases ry
  obtain ⟨es, ep, t, Rn⟩ := (I.hok a _ hL).1
  obtain ⟨o, ho, hex, hd⟩ := Rn.ob
  have hT : s.TypeIs (.ref a) "set" := ⟨o, ho, hex.1⟩
  have hx := R.isN I hb
  refine wpAny_call_entry F.slot_set_add hT F.entry_set_add ?_ (F.args_set_add_2 _ _)
  unfold Builtin.«set.add» Builtin.Frozenset.oneOther
  simp only [List.isEmpty_nil, bind_assoc]
  unfold Builtin.Frozenset.addrOf setAdd
  refine wpAny_bind (wpAny_pure ?_)
  try dsimp only
  refine wpAny_bind (wpAny_pure ?_)
  try dsimp only
  refine wpAny_bind ?_
  refine wpAny_holding ?_
  have hu1 : A.in1.units + 8 < cLine := by rw [Around.in1_units]; omega
  have dp : (en b).depth ≤ 5 := Enc.dep b
  refine wpAny_bind (pyHash_key (w := X.w) _ _ _ _ _ hx.is (by omega) ?_)
  have I1 := I.tok (s.toks + (en b).draws)
  refine add_n (s := { s with toks := s.toks + (en b).draws }) Rn (Mem.isN I1 M) (R.isN I1 hb) hu1 (by rw [M.length]; exact hfew) fun r h' L' es' ep' t' sb R' c1 c2 => ?_
  show wpAny _ _ (ret Value.none) _ _ _
  have he : ∃ q, h'.get? a = some q := let ⟨q, hq, _⟩ := R'.ob; ⟨q, hq⟩
  have I2 : Inv X pins σ (upd H a (SO X.w a L')) { s with heap := h', toks := s.toks + (en b).draws } := d_write I (by rw [hL]; trivial) sb he (so_ok R')
  have tk : TK X.K H (upd H a (SO X.w a L')) := TK.wr nt
  by_cases hm : en b ∈ L.map (·.2)
  · have e := c1 hm
    subst e
    refine wpAny_pure ⟨_, rfl, h _ bs _ (fun c => ⟨.inr, fun z => z.elim (fun e => e ▸ (M.mem_iff b).mp hm) id⟩) (by omega) ⟨L', upd_same, M.fut tk⟩ I2⟩
  · obtain ⟨bs', p', M'⟩ := Mem.perm (c2 hm) (Mem.cons (hb.fut tk) (M.fut tk))
    refine wpAny_pure ⟨_, rfl, h _ bs' _ (fun c => by rw [p'.mem_iff, List.mem_cons]) (by rw [p'.length_eq]; exact Nat.le_refl _) ⟨L', upd_same, M'⟩ I2⟩
theorem set_fresh {w : World} {h : Heap} {a : Addr} (ho : h.get? a = some { cls := .type "set", dict := none, data := .set #[] 0 (.fresh 0 0 (!w.params.followText "set-order")) }) : NSet0 w h a [] #[] 0 (.fresh 0 0 (!w.params.followText "set-order")) where
  ob := ⟨_, ho, ⟨rfl, rfl, rfl⟩, rfl⟩
  rows := rfl
  tab := ⟨List.Pairwise.nil, rfl, rfl, .inl rfl, (fun x hx => nomatch hx), fun i h j hi => by simp at hi⟩
  nd := List.nodup_nil
  plain := rfl
  led := by
    show _ ∨ (!w.params.followText "set-order") = true
    cases w.params.followText "set-order"
    · exact .inr rfl
    · exact .inl rfl
  room := by show 0 * 5 < 7 * 3; decide
  few := by decide
theorem s_collect (hh : A.handled = none) (I : Inv X pins σ H s) (S : SetAt X.w X.K H a bs) (E' : Value → Shared → Prop) (Q' : List Value → Shared → Prop)
    (hq : ∀ s' vs bs', bs'.Perm bs → (∀ b o, s.heap.get? b = some o → s'.heap.get? b = some o) → s'.gens = s.gens → s'.os = s.os → EachB X.K H vs bs' → Q' vs s') : wpAny (model X.prog X.w) A (collect (.ref a)) Q' E' s := by
  obtain ⟨L, hL, M⟩ := S
  obtain ⟨es, ep, t, Rn⟩ := (I.hok a _ hL).1
  obtain ⟨o, ho, hex, hd⟩ := Rn.ob
  have hsz := rows_size Rn.rows
  have hfew := Rn.few
  refine collect_set hh ⟨o, ho, hex.1, hd⟩ Rn.fits (by unfold scanBound; omega) Rn.tab.ris Rn.led fun s1 vs k1 hz g1 o1 pm => ?_
  have e1 : es.toList.map (·.2) = L.map fun p => Value.ref p.1 := by rw [Rn.rows, List.map_map]; rfl
  rw [e1] at pm
  obtain ⟨L', pL, eL⟩ : ∃ L', List.Perm L' L ∧ vs = L'.map fun p => Value.ref p.1 := perm_map pm
  obtain ⟨bs', p', M'⟩ := Mem.perm pL M
  exact hq s1 vs bs' p' k1 g1 o1 (by rw [eL]; exact mem_each M')
where
  perm_map {vs : List Value} : ∀ {L : List KA}, vs.Perm (L.map fun p => Value.ref p.1) → ∃ L', List.Perm L' L ∧ vs = L'.map fun p => Value.ref p.1 := by
    intro L p
    generalize hW : (L.map fun p : KA => Value.ref p.1) = W at p
    induction p generalizing L with
    | nil =>
      cases L with
      | nil => exact ⟨[], .nil, rfl⟩
      | cons _ _ => simp at hW
    | cons x p ih =>
      cases L with
      | nil => simp at hW
      | cons q L =>
        rw [List.map_cons] at hW
        injection hW with e1 e2
        obtain ⟨L', p', e'⟩ := ih e2
        exact ⟨q :: L', p'.cons q, by rw [List.map_cons, e1, e']⟩
    | swap x y l =>
      cases L with
      | nil => simp at hW
      | cons q L =>
        cases L with
        | nil => simp at hW
        | cons r L =>
          rw [List.map_cons, List.map_cons] at hW
          injection hW with e1 e2
          injection e2 with e2 e3
          exact ⟨r :: q :: L, .swap _ _ _, by rw [List.map_cons, List.map_cons, e1, e2, e3]⟩
    | trans _ _ ih1 ih2 =>
      obtain ⟨L1, p1, e1⟩ := ih2 hW
      obtain ⟨L2, p2, e2⟩ := ih1 e1.symm
      exact ⟨L2, p2.trans p1, e2⟩
  mem_each {L : List KA} {bs : List β} (M : Mem X.K H L bs) : EachB X.K H (L.map fun p => Value.ref p.1) bs := by
    induction M with
    | nil => exact .nil
    | cons h1 _ ih => exact .cons ⟨_, rfl, h1⟩ ih
end
section
variable {X : Cx} (β : Type) [EncN β]
/-- sorted(S), a set -/
def rSortS (w : World) (K : PySem.W.Frag) : List V → Hp → VK → Prop := fun vs H Q => ∃ (d : Addr) (bs : List β), vs = [.ref d] ∧ SetAt w K H d bs ∧ ∀ p out, H p = none → bs.Nodup → Rs K (upd H p (.lst out)) out (srt bs) → Q (.ref p) (upd H p (.lst out))
theorem cr_sortS (hc : X.calm = true) (hu : X.A.units + 64 < cLine) : CallR X (.builtin "sorted") (rSortS β X.w X.K) := by
  intro pins s σ H xs us Q I r h
  obtain ⟨d, bs, e, S, q⟩ := h
  subst e
  obtain ⟨u, rfl, ru⟩ := vals1 r
  cases ru
  have hL : bs.length < 64 := by
    obtain ⟨L, hL, M⟩ := S
    obtain ⟨es, ep, t, Rn⟩ := (I.hok d _ hL).1
    rw [← M.length]
    exact Rn.few
  have hnd : bs.Nodup := by
    obtain ⟨L, hL, M⟩ := S
    obtain ⟨es, ep, t, Rn⟩ := (I.hok d _ hL).1
    exact M.nodup Rn.nd
  have key : ∀ bs' : List β, bs'.Perm bs → srt bs' = srt bs := fun bs' p => srt_of_perm p
  refine Calls.call_function_entry PyProof.Rows.kind_sorted PyProof.Rows.plain_sorted PyProof.Rows.entry_sorted (PyProof.Rows.args_sorted1 _) ?_
  unfold Builtin.«sorted»
  refine wpAny_bind (m := checkCount "sorted" 1 1 _) (wpAny_pure ?_)
  refine wpAny_bind (s_collect (A := X.A.in1) (I.ok.hd hc) I S _ _ fun s1 vs bs' pb k1 g1 o1 hv => ?_)
  exact sort_tail (bs := bs') hu I (by rw [pb.length_eq, sizeLine_eq]; omega) k1 g1 o1 hv fun p s' out hn I' hR => ⟨.ref p, _, I', rfl, q p out hn hnd (by rw [← key bs' pb]; exact hR.fut (TK.new hn))⟩
end
end Sk

/-! Sk: {e for ..}, set(xs), sorted(set(..)). -/
namespace Sk
open PySem L2 PySem.Spec PyProof.Rows

section
variable {X : Cx} (β : Type) [EncN β]
def stS (w : World) (K : PySem.W.Frag) (te : TE) : TSt := fun D σ H Nx => te σ H fun y H4 => ∃ (bs : List β) (b : β), SetAt w K H4 D bs ∧ R K H4 y b ∧ bs.length + 1 < 64 ∧ ∀ ob bs', (∀ c, c ∈ bs' ↔ c = b ∨ c ∈ bs) → bs'.length ≤ bs.length + 1 → SetAt w K (upd H4 D ob) D bs' → Nx (upd H4 D ob)
def newS (w : World) (K : PySem.W.Frag) : TNew := fun D H Kk => ∀ ob, SetAt w K (upd H D ob) D ([] : List β) → Kk (upd H D ob)
abbrev setObj (w : World) : Obj := { cls := .type "set", dict := none, data := .set #[] 0 (.fresh 0 0 (!w.params.followText "set-order")) }
theorem s_new {pins : List (Addr × Obj)} {σ : L2.St} {H : Hp} {s : Shared} (I : Inv X pins σ H s) : ∃ ob, Inv X pins σ (upd H s.heap.objs.size ob) { s with heap := s.heap.push (setObj X.w) } ∧ SetAt X.w X.K (upd H s.heap.objs.size ob) s.heap.objs.size ([] : List β) :=
  ⟨SO X.w s.heap.objs.size [], I.laid (t' := s.toks) (fun _ _ q => Heap.get?_push_of_some _ q) (Nat.le_refl _) (so_ok (set_fresh (Heap.get?_push_size _ rfl))), [], upd_same, .nil⟩
theorem form_set {elt tg iter : Expr} {ifs : List Expr} {scope : Scope} {pos : Pos} {te : TE} (hu : X.A.units + 64 < cLine)
    (he : ∀ (s : Shared) (H : Hp) (C : Addr) (cl : List (Str × Addr)) (fp : List Addr), PE (X.blk s H scope (compEnvC scope cl C X.env) fp) elt te) :
    Form X (.SetComp elt [⟨tg, iter, ifs, 0⟩] scope pos) tg iter ifs scope (newSet (.type "set")) (setObj X.w) (stS β X.w X.K te) (newS β X.w X.K) where
  cl := rfl
  loops := ⟨_, loops_set, fun A env D s K K' h hK => thnF h fun _ _ h => thnF h fun _ _ h => hK _ h, fun s0 H0 C cl fp pins s σ H D Nx I h => by
    refine thnF ((he s0 H0 C cl fp).run pins s σ H _ I h) fun u s1 ⟨y, H1, I1, r1, bs, b, S1, hb, hz, q1⟩ => ?_
    exact s_add (X := X.blk s0 H0 scope (compEnvC scope cl C X.env) fp) hu I1 S1 hb r1 hz fun ob bs' s' hm hl S' I' => ⟨_, I', q1 ob bs' hm hl S'⟩⟩
  made := fun s Q E h => PpSet.newSet_ok h
  new := fun pins σ s H K I h => by
    obtain ⟨ob, I', S⟩ := s_new β I
    exact ⟨ob, I', h ob S⟩
  start := fun R it acc env s h1 h2 => PpSet.codeAny_compStart_set h1 h2
end

/-! ### set(xs) -/
section
variable {P : Program} {w : World} {A : Around} {E : Value → Shared → Prop} {s : Shared}
/-- what has come in from the first items -/
structure In (ks : List KA) (i : Nat) (L : List KA) : Prop where
  sub : ∀ p ∈ L, p ∈ ks
  all : ∀ p ∈ ks.take i, p.2 ∈ L.map (·.2)
  len : L.length ≤ i
theorem In.next {ks L L' : List KA} {i : Nat} {x : KA} (g : In ks i L) (h : ks[i]? = some x) (c1 : x.2 ∈ L.map (·.2) → L' = L) (c2 : x.2 ∉ L.map (·.2) → L'.Perm (x :: L)) : In ks (i + 1) L' := by
  have ht : ks.take (i + 1) = ks.take i ++ [x] := by rw [List.take_succ, h]; rfl
  by_cases c : x.2 ∈ L.map (·.2)
  · have e := c1 c
    subst e
    refine ⟨g.sub, fun p hp => ?_, Nat.le_succ_of_le g.len⟩
    rw [ht] at hp
    rcases List.mem_append.mp hp with q | q
    · exact g.all p q
    · rw [List.mem_singleton.mp q]; exact c
  · have pm := c2 c
    refine ⟨fun p hp => ?_, fun p hp => ?_, by rw [pm.length_eq]; exact Nat.succ_le_succ g.len⟩
    · rcases List.mem_cons.mp (pm.mem_iff.mp hp) with q | q
      · rw [q]; exact List.mem_of_getElem? h
      · exact g.sub p q
    · refine ((pm.map (·.2)).mem_iff).mpr ?_
      rw [List.map_cons, List.mem_cons]
      rw [ht] at hp
      rcases List.mem_append.mp hp with q | q
      · exact .inr (g.all p q)
      · rw [List.mem_singleton.mp q]; exact .inl rfl
theorem fill_n {I : Addr} {fp wr : List Addr} {G : Array GenState → Array GenState → Prop} {n : Nat} {Pv : Nat → Value → Prop} {St : Nat → Shared → Prop} {R : Result → Shared → Prop}
    (W : WalksS P w A.in1 I fp wr G n Pv St) (S : Addr) (hSf : S ∉ fp) (ks : List KA) (hn : n = ks.length) (hfew : ks.length < 64) (hval : ∀ i v, Pv i v → ∃ p, ks[i]? = some p ∧ v = .ref p.1)
    (h0 : Heap) (hk : ∀ p ∈ ks, IsN h0 p.2 p.1) (hS0 : h0.get? S = none) (hw0 : ∀ b ∈ wr, h0.get? b = none) (hu : A.in1.units + 8 < cLine) :
    ∀ (k i : Nat) (s : Shared), n - i = k → i ≤ n → St i s → (∀ b o, h0.get? b = some o → s.heap.get? b = some o) → (∃ L es ep t, NSet0 w s.heap S L es ep t ∧ In ks i L) →
      (∀ s' L es ep t, Moved (S :: wr) G s s' → NSet0 w s'.heap S L es ep t → In ks n L → (∀ b o, h0.get? b = some o → s'.heap.get? b = some o) → R (.ok (.ret .none)) s') →
      codeAny (model P w) A (.builtin "set.update.loop" ⟨[.ref S, .ref I], []⟩) R s := by
  have nSw : S ∉ wr := fun h => hSf (W.sub _ h)
  have more : ∀ b ∈ wr, b ∈ S :: wr := fun b hb => List.mem_cons_of_mem _ hb
  have kept : ∀ {s s' : Shared}, Moved wr G s s' → (∀ b o, h0.get? b = some o → s.heap.get? b = some o) → ∀ b o, h0.get? b = some o → s'.heap.get? b = some o := fun hm hkp b o e =>
    hm.heap b o (fun hb => by rw [hw0 b hb] at e; cases e) (hkp b o e)
  intro k
  induction k with
  | zero =>
    intro i s hki hi hst hkp ⟨L, es, ep, t, hS, g⟩ hR
    have e : i = n := by omega
    subst e
    refine codeAny_builtin F.entry_set_update_loop ?_
    rw [Around.under_plainId F.plain_set_update_loop _]
    show wpAny _ A.in1 (pyNext (.ref I) >>= _) _ _ s
    refine wpAny_bind (W.done s _ _ hst fun s' hm => ?_)
    show wpAny _ A.in1 (ret Value.none) _ _ s'
    exact wpAny_pure (hR s' L es ep t (hm.mono more) (hS.at fun o e => hm.heap S o nSw e) g (kept hm hkp))
  | succ k ih =>
    intro i s hki hi hst hkp ⟨L, es, ep, t, hS, g⟩ hR
    have hlt : i < n := by omega
    refine codeAny_builtin F.entry_set_update_loop ?_
    rw [Around.under_plainId F.plain_set_update_loop _]
    show wpAny _ A.in1 (pyNext (.ref I) >>= _) _ _ s
    refine wpAny_bind (W.item i s _ _ hlt hst fun v s' hP hst' hm => ?_)
    obtain ⟨p, hp, rfl⟩ := hval i v hP
    have hkp' := kept hm hkp
    have hS' : NSet0 w s'.heap S L es ep t := hS.at fun o e => hm.heap S o nSw e
    have isk : ∀ q ∈ ks, IsN s'.heap q.2 q.1 := fun q hq => (hk q hq).keep hkp'
    have hx := isk p (List.mem_of_getElem? hp)
    have hd := hx.dep
    show wpAny _ A.in1 (holding [Value.ref p.1] (setAdd S (.ref p.1)) >>= _) _ _ s'
    refine wpAny_bind (wpAny_holding ?_)
    unfold setAdd
    refine wpAny_holding ?_
    refine wpAny_bind (pyHash_key (w := w) _ _ _ _ _ hx.is (by omega) ?_)
    refine add_n (s := { s' with toks := s'.toks + p.2.draws }) hS' (fun q hq => isk q (g.sub q hq)) hx hu (by have := g.len; omega) fun b h' L' es' ep' t' sb R' c1 c2 => ?_
    have hkp2 : ∀ b o, h0.get? b = some o → h'.get? b = some o := fun b o e => (sb.2 b (fun z => by rw [z, hS0] at e; cases e)).trans (hkp' b o e)
    refine wpAny_pure ⟨plainId_quiet F.plain_set_update_loop _, ih (i + 1) _ (by omega) hlt (W.frame _ s' _ _ hst' (Nat.le_add_right _ _) fun b hb o e => ?_) hkp2 ⟨L', es', ep', t', R', g.next hp c1 c2⟩ fun s'' L2 es2 ep2 t2 hm'' hS'' g'' hkp'' => ?_⟩
    · rw [sb.2 b (fun h : b = S => hSf (by rw [← h]; exact hb))]; exact e
    · refine hR s'' L2 es2 ep2 t2 (Moved.trans W.gtrans ((hm.mono more).then_heap (Nat.le_add_right _ _) fun b o hb e => ?_) hm'') hS'' g'' hkp''
      rw [sb.2 b (fun h : b = S => hb (by rw [h]; exact List.mem_cons_self))]; exact e
theorem none_above {h : Heap} {b : Addr} (hb : h.objs.size ≤ b) : h.get? b = none := by
  cases q : h.get? b with
  | none => rfl
  | some o => exact absurd (Nat.lt_of_lt_of_le (Heap.lt_size q) hb) (Nat.lt_irrefl _)
set_option maxHeartbeats 8000000 in
/-- set(xs), xs a list of keys -/
theorem call_set_n {l : Addr} {items : Array Value} (ks : List KA) {Q : Value → Shared → Prop} (hh : A.handled = none) (hl : s.heap.IsList l items) (hit : items.toList = ks.map fun p => Value.ref p.1)
    (hk : ∀ p ∈ ks, IsN s.heap p.2 p.1) (hfew : ks.length < 64) (hu : A.units + 64 < cLine)
    (h : ∀ (h' : Heap) (tk : Nat) L es ep t, NSet0 w h' s.heap.objs.size L es ep t → In ks ks.length L → (∀ b o, s.heap.get? b = some o → h'.get? b = some o) → Q (.ref s.heap.objs.size) { s with heap := h', toks := tk }) :
    wpAny (model P w) A (call (.type "set") [.ref l]) Q E s := by
  have hisz : items.size = ks.length := by rw [← Array.length_toList, hit, List.length_map]
  obtain ⟨c, tl, hmro⟩ := F.called_set.mro
  have hmade := F.called_set.made
  have hsub := F.called_set.sub
  refine wpAny_call (codeAny_of_tree ?_)
  show wpAny _ _ (callAny (.type "set") _) _ _ _
  refine wpAny_pure ⟨Code.quiet_builtin _ (by decide +kernel), codeAny_builtin F.entry_type_call ?_⟩
  rw [Around.under_plain (weight_type_call_type "set" [.ref l] []) rfl]
  have h1 := F.called_set.notType
  have h2 := F.called_set.canCreate
  have hct := F.typeCall_set_1 (.ref l)
  repeat (any_goals (first | assumption | wp_step))
  refine codeAny_mono (code_set_led1 (.ref l) (E := E) (Q₁ := fun obj s₁ => obj = .ref s.heap.objs.size ∧ s₁ = { s with heap := s.heap.push (setObj w) }) ⟨rfl, rfl⟩) fun r s₁ hr => ?_
  cases r with
  | error e => exact hr
  | ok fl =>
    cases fl with
    | ret obj =>
      obtain ⟨rfl, rfl⟩ := hr
      have hS : (s.heap.push (setObj w)).get? s.heap.objs.size = some (setObj w) := Heap.get?_push_size _ rfl
      have hT : Shared.TypeIs { s with heap := s.heap.push (setObj w) } (.ref s.heap.objs.size) "set" := ⟨_, hS, rfl⟩
      have hli := F.called_set.init.lookup
      have hbi := F.called_set.init.bind (.ref s.heap.objs.size)
      repeat (any_goals (first | assumption | wp_step))
      refine codeAny_mono (codeAny_call_builtin (R := wants (fun r s₂ => r = .none ∧ ∃ h' tk L es ep t, s₂ = { s with heap := h', toks := tk } ∧ NSet0 w h' s.heap.objs.size L es ep t ∧ In ks ks.length L ∧
          (∀ b o, s.heap.get? b = some o → h'.get? b = some o)) E) F.called_set.init.plain F.entry_set_init (check_set_init_1 hT ?_)) fun r₂ s₂ hr₂ => ?_
      · obtain ⟨⟨ocls, odict, odata, oslots⟩, hol, hcl, nl, hdl⟩ := hl
        simp only at hcl hdl
        subst hcl; subst hdl
        have hol' : (s.heap.push (setObj w)).get? l = some { cls := .type "list", dict := odict, data := .seq items nl, slots := oslots } := Heap.get?_push_of_some _ hol
        have hsls := F.sub_list_set
        have hslf := F.sub_list_frozenset
        have hne : (Value.type "list" == Value.type "dict") = false := by decide
        have hl1 : (s.heap.push (setObj w)).IsList l items := ⟨_, hol', rfl, nl, rfl⟩
        unfold Builtin.«set.__init__» noKeywords Builtin.Frozenset.updateFrom
        generalize hPI : pyIter = PI
        wp_walk
        subst hPI
        refine wpAny_pyIter_list hl1 ?_
        refine wpAny_bind (wpAny_runValue ?_)
        have hlS : l < s.heap.objs.size := Heap.lt_size hol
        have hneI : l ≠ (s.heap.push (setObj w)).objs.size := by rw [Heap.size_push]; exact Nat.ne_of_lt (Nat.lt_succ_of_lt hlS)
        have hSf : s.heap.objs.size ∉ [(s.heap.push (setObj w)).objs.size, l] := by
          rw [Heap.size_push]
          simp only [List.mem_cons, List.not_mem_nil, or_false, not_or]
          exact ⟨Nat.ne_of_lt (Nat.lt_succ_self _), Nat.ne_of_gt hlS⟩
        have hval : ∀ (i : Nat) (v : Value), items[i]? = some v → ∃ p, ks[i]? = some p ∧ v = .ref p.1 := fun i v hv => by
          rw [← Array.getElem?_toList, hit, List.getElem?_map] at hv
          cases hq : ks[i]? with
          | none => rw [hq] at hv; cases hv
          | some p => rw [hq] at hv; exact ⟨p, rfl, (Option.some.inj hv).symm⟩
        refine fill_n ((Walks.list (A := A.in1.in1.in1) (by simp [hh]) _ l hneI items).toS) s.heap.objs.size hSf ks hisz hfew hval s.heap hk (none_above (Nat.le_refl _))
          (fun b hb => none_above (by rw [List.mem_singleton.mp hb, Heap.size_push]; exact Nat.le_succ _)) (by simp only [Around.in1_units]; omega) (items.size - 0) 0 _ (by omega) (Nat.zero_le _)
          ⟨⟨_, Heap.get?_push_size _ rfl, rfl, rfl⟩, (hl1.push _)⟩ (fun b o e => Heap.get?_push_of_some _ (Heap.get?_push_of_some _ e)) ?hS0 ?hR
        case hS0 => exact ⟨[], #[], 0, _, set_fresh (Heap.get?_push_of_some _ hS), ⟨(fun _ h => nomatch h), (fun _ h => by simp at h), Nat.le_refl _⟩⟩
        case hR =>
          intro s' L es ep t hm hS' g' hkp
          obtain ⟨h', g2, d', tk', os'⟩ := s'
          have eg : g2 = s.gens := hm.gens
          have ed : d' = s.drawn := hm.drawn
          have eo : os' = s.os := hm.os
          subst eg; subst ed; subst eo
          show wpAny _ _ _ _ _ _
          refine wpAny_pure ?_
          show wpAny _ _ (ret Value.none) _ _ _
          rw [hisz] at g'
          exact wpAny_pure ⟨rfl, h', tk', L, es, ep, t, rfl, hS', g', hkp⟩
      · cases r₂ with
        | error e => exact hr₂
        | ok fl₂ =>
          cases fl₂ with
          | ret r =>
            obtain ⟨rfl, h', tk, L, es, ep, t, rfl, hS', g', hk'⟩ := hr₂
            repeat (any_goals (first | assumption | wp_step))
            exact h _ _ _ _ _ _ hS' g' hk'
          | _ => exact hr₂.elim
    | _ => exact hr.elim
end
section
variable {X : Cx} (β : Type) [EncN β]
def rSetL (w : World) (K : PySem.W.Frag) : List V → Hp → VK → Prop := fun vs H Q => ∃ (a : Addr) (xs : List V) (bs : List β), vs = [.ref a] ∧ SqL K H a xs ∧ Rs K H xs bs ∧ bs.length < 64 ∧ ∀ p ob bs', H p = none → (∀ c, c ∈ bs' ↔ c ∈ bs) → SetAt w K (upd H p ob) p bs' → Q (.ref p) (upd H p ob)
def kas : List V → List β → List KA
  | .ref a :: vs, b :: bs => (a, en b) :: kas vs bs
  | _, _ => []
theorem kas_all {K : PySem.W.Frag} {H : Hp} {xs : List V} {bs : List β} (h : Rs K H xs bs) : ∀ {us : List Value}, Vals xs us → us = (kas β xs bs).map (fun p => Value.ref p.1) ∧ (kas β xs bs).length = bs.length ∧ ∀ p ∈ kas β xs bs, ∃ b, b ∈ bs ∧ p.2 = en b ∧ R K H (.ref p.1) b := by
  induction h with
  | nil => intro us r; cases r; exact ⟨rfl, rfl, fun p hp => nomatch hp⟩
  | @cons v vs b bs h1 _ ih =>
    intro us r
    cases r with
    | cons r1 r2 =>
      obtain ⟨a, e⟩ := ref_of h1
      subst e
      cases r1
      obtain ⟨e1, e2, e3⟩ := ih r2
      refine ⟨by show _ = (Value.ref a :: (kas β vs bs).map _); rw [← e1], by show (kas β vs bs).length + 1 = _; rw [e2]; rfl, fun p hp => ?_⟩
      rcases List.mem_cons.mp (show p ∈ (a, en b) :: kas β vs bs from hp) with q | q
      · subst q; exact ⟨b, List.mem_cons_self, rfl, h1⟩
      · obtain ⟨c, h1, h2⟩ := e3 p q
        exact ⟨c, List.mem_cons_of_mem _ h1, h2⟩
theorem kas_keys {K : PySem.W.Frag} {H : Hp} {xs : List V} {bs : List β} (h : Rs K H xs bs) : (kas β xs bs).map (·.2) = bs.map en := by
  induction h with
  | nil => rfl
  | @cons v vs b bs h1 _ ih =>
    obtain ⟨a, e⟩ := ref_of h1
    subst e
    show en b :: (kas β vs bs).map (·.2) = _
    rw [ih]
    rfl
theorem mem_of {K : PySem.W.Frag} {H : Hp} : ∀ {L : List KA}, (∀ p ∈ L, ∃ b : β, p.2 = en b ∧ R K H (.ref p.1) b) → ∃ bs : List β, Mem K H L bs
  | [], _ => ⟨[], .nil⟩
  | p :: L, h => by
    obtain ⟨bs, m⟩ := mem_of (L := L) fun q hq => h q (List.mem_cons_of_mem _ hq)
    obtain ⟨b, e, r⟩ := h p List.mem_cons_self
    obtain ⟨a, k⟩ := p
    dsimp only at e r
    subst e
    exact ⟨b :: bs, .cons r m⟩
theorem cr_setL (hc : X.calm = true) (hu : X.A.units + 64 < cLine) : CallR X (.type "set") (rSetL β X.w X.K) := by
  intro pins s σ H xs us Q I r h
  obtain ⟨a, xs, bs, e, hs, hb, hfew, q⟩ := h
  subst e
  obtain ⟨u, rfl, ru⟩ := vals1 r
  cases ru
  obtain ⟨its, rv, pl, hz⟩ := I.list hs
  obtain ⟨e1, e2, e3⟩ := kas_all β hb rv
  refine call_set_n (kas β xs bs) (I.ok.hd hc) pl.isList (by rw [← e1]) (fun p hp => ?_) (by rw [e2]; exact hfew) hu fun h' tk L es ep t R' g hk => ?_
  · obtain ⟨b, _, ek, hr⟩ := e3 p hp
    have z := R.isN I hr
    rw [← ek] at z
    exact z
  · obtain ⟨bs', M⟩ := mem_of β (K := X.K) (H := H) (L := L) fun p hp => let ⟨b, _, ek, hr⟩ := e3 p (g.sub p hp); ⟨b, ek, hr⟩
    have hn : H s.heap.objs.size = none := I.hok.fresh (Nat.le_refl _)
    have hm : ∀ c, c ∈ bs' ↔ c ∈ bs := fun c => by
      rw [← M.mem_iff c]
      constructor
      · intro hc
        obtain ⟨p, hp, ep⟩ := List.mem_map.mp hc
        obtain ⟨b, hb', ek, _⟩ := e3 p (g.sub p hp)
        have z : b = c := Enc.inj (ek.symm.trans ep)
        rw [← z]; exact hb'
      · intro hc
        have z : en c ∈ (kas β xs bs).map (·.2) := by rw [kas_keys β hb]; exact List.mem_map.mpr ⟨c, hc, rfl⟩
        obtain ⟨p, hp, ep⟩ := List.mem_map.mp z
        have y := g.all p (by rw [List.take_length]; exact hp)
        rw [ep] at y
        exact y
    exact ⟨.ref s.heap.objs.size, _, I.laid (t' := tk) hk (Nat.le_refl _) (so_ok (P := X.prog) (H := upd H s.heap.objs.size (SO X.w s.heap.objs.size L)) R'), rfl, q _ _ bs' hn hm ⟨L, upd_same, M.fut (TK.new hn)⟩⟩
end
end Sk

/-! Sk: positions, spots, moves, values as keys. -/
namespace Sk
open PySem L2 PySem.Spec PyProof.Rows

structure Psn where
  t : Int
  m : List Int
structure Spot where
  f : Int
  m : List Int
  k : Int
structure Mv where
  s : Int
  f : Int
  t : List Int
  k : Int
inductive Val
  | drawn
  | val (won : Bool) (n : Int)

abbrev wWon : Str := Str.ofString "won"
abbrev wLost : Str := Str.ofString "lost"
abbrev wDrawn : Str := Str.ofString "drawn"

def intK (ns : List Int) : NestedKey := .tup (ns.map .num)
theorem ints_inj {a b : List Int} (h : intK a = intK b) : a = b := by
  unfold intK at h
  injection h with h
  induction a generalizing b with
  | nil => cases b with
    | nil => rfl
    | cons => simp at h
  | cons x xs ih => cases b with
    | nil => simp at h
    | cons y ys =>
      simp at h
      rw [h.1, ih h.2]
theorem datas_ints : ∀ ns : List Int, NestedKey.datas (ns.map .num) = ns.map PyData.int
  | [] => rfl
  | n :: ns => by
    show PyData.int n :: NestedKey.datas (ns.map .num) = _
    rw [datas_ints ns]
    rfl
theorem data_ints (ns : List Int) : (intK ns).data = .tuple (ns.map .int) := by
  show PyData.tuple (NestedKey.datas (ns.map .num)) = _
  rw [datas_ints]
theorem lay_ints : ∀ ns : List Int, PyData.canLayAll0 (ns.map PyData.int) = true
  | [] => by simp [PyData.canLayAll0]
  | n :: ns => by simp [PyData.canLayAll0, PyData.canLay0, lay_ints ns]
theorem depthAll_ints : ∀ ns : List Int, NestedKey.depthAll (ns.map .num) = 0
  | [] => rfl
  | n :: ns => by simp [NestedKey.depthAll, NestedKey.depth, depthAll_ints ns]
theorem depth_ints (ns : List Int) : (intK ns).depth = 1 := by
  show NestedKey.depthAll (ns.map .num) + 1 = 1
  rw [depthAll_ints]
theorem alike_ints : ∀ a b : List Int, PySem.W.alikeAll (a.map PyData.int) (b.map PyData.int) = true
  | [], [] => by simp [PySem.W.alikeAll]
  | [], _ :: _ => by simp [PySem.W.alikeAll]
  | _ :: _, [] => by simp [PySem.W.alikeAll]
  | x :: xs, y :: ys => by simp [PySem.W.alikeAll, PySem.W.alike, alike_ints xs ys]
theorem nums_ints : ∀ ns : List Int, NumKs (ns.map .num) = true
  | [] => rfl
  | n :: ns => by simp [NumKs, NumK, nums_ints ns]

instance : Enc (List Int) where
  enc := intK
  inj := ints_inj
  lay b := by rw [data_ints]; simp [PyData.canLay0, lay_ints]
  dep b := by rw [depth_ints]; decide
instance : EncT (List Int) where
  tup b := ⟨_, rfl⟩
instance : Enc Psn where
  enc p := .tup [.num p.t, intK p.m]
  inj {a b} h := by
    injection h with h
    injection h with h1 h2
    injection h1 with h1
    injection h2 with h2 _
    have := ints_inj h2
    cases a; cases b; simp_all
  lay p := by simp [NestedKey.data, NestedKey.datas, PyData.canLay0, PyData.canLayAll0, data_ints, lay_ints]
  dep p := by simp [NestedKey.depth, NestedKey.depthAll, depth_ints]
instance : EncS Psn where
  tup p := ⟨_, rfl⟩
  alike a b := by simp [Enc.enc, NestedKey.data, NestedKey.datas, PySem.W.alike, PySem.W.alikeAll, data_ints, alike_ints]
  ne p := ⟨.int p.t, [(intK p.m).data], rfl⟩
instance : EncN Psn where
  num p := by simp [Enc.enc, NumK, NumKs, intK, nums_ints]
instance : Enc Spot where
  enc p := .tup [.num p.f, intK p.m, .num p.k]
  inj {a b} h := by
    injection h with h
    injection h with h1 h2
    injection h1 with h1
    injection h2 with h2 h3
    injection h3 with h3 _
    injection h3 with h3
    have := ints_inj h2
    cases a; cases b; simp_all
  lay p := by simp [NestedKey.data, NestedKey.datas, PyData.canLay0, PyData.canLayAll0, data_ints, lay_ints]
  dep p := by simp [NestedKey.depth, NestedKey.depthAll, depth_ints]
instance : EncS Spot where
  tup p := ⟨_, rfl⟩
  alike a b := by simp [Enc.enc, NestedKey.data, NestedKey.datas, PySem.W.alike, PySem.W.alikeAll, data_ints, alike_ints]
  ne p := ⟨.int p.f, [(intK p.m).data, .int p.k], rfl⟩
instance : EncN Spot where
  num p := by simp [Enc.enc, NumK, NumKs, intK, nums_ints]
instance : Enc Mv where
  enc p := .tup [.num p.s, .num p.f, intK p.t, .num p.k]
  inj {a b} h := by
    injection h with h
    injection h with h1 h2
    injection h1 with h1
    injection h2 with h2 h3
    injection h2 with h2
    injection h3 with h3 h4
    injection h4 with h4 _
    injection h4 with h4
    have := ints_inj h3
    cases a; cases b; simp_all
  lay p := by simp [NestedKey.data, NestedKey.datas, PyData.canLay0, PyData.canLayAll0, data_ints, lay_ints]
  dep p := by simp [NestedKey.depth, NestedKey.depthAll, depth_ints]
instance : EncS Mv where
  tup p := ⟨_, rfl⟩
  alike a b := by simp [Enc.enc, NestedKey.data, NestedKey.datas, PySem.W.alike, PySem.W.alikeAll, data_ints, alike_ints]
  ne p := ⟨.int p.s, [.int p.f, (intK p.t).data, .int p.k], rfl⟩
/-- a move and what is behind it -/
structure Run where
  mv : Mv
  to : Psn
instance : Enc Run where
  enc p := .tup [en p.mv, en p.to]
  inj {a b} h := by
    injection h with h
    injection h with h1 h2
    injection h2 with h2 _
    have h1 := Enc.inj h1
    have h2 := Enc.inj h2
    cases a; cases b; simp_all
  lay p := by
    have h1 := Enc.lay p.mv
    have h2 := Enc.lay p.to
    simp [NestedKey.data, NestedKey.datas, PyData.canLay0, PyData.canLayAll0, h1, h2]
  dep p := by
    have h1 : (NestedKey.tup [.num p.mv.s, .num p.mv.f, intK p.mv.t, .num p.mv.k]).depth = 2 := by simp [NestedKey.depth, NestedKey.depthAll, depth_ints]
    have h2 : (NestedKey.tup [.num p.to.t, intK p.to.m]).depth = 2 := by simp [NestedKey.depth, NestedKey.depthAll, depth_ints]
    have h1 : (en p.mv).depth = 2 := h1
    have h2 : (en p.to).depth = 2 := h2
    simp [NestedKey.depth, NestedKey.depthAll, h1, h2]
instance : EncS Run where
  tup p := ⟨_, rfl⟩
  alike a b := by
    have h1 := EncS.alike a.mv b.mv
    have h2 := EncS.alike a.to b.to
    show PySem.W.alikeAll [(en a.mv).data, (en a.to).data] [(en b.mv).data, (en b.to).data] = true
    simp [PySem.W.alikeAll, h1, h2]
  ne p := ⟨(en p.mv).data, [(en p.to).data], rfl⟩
def Val.key : Val → NestedKey
  | .drawn => .tup [.text wDrawn]
  | .val true n => .tup [.text wWon, .num n]
  | .val false n => .tup [.text wLost, .num n]
instance : Enc Val where
  enc := Val.key
  inj {a b} h := by
    have hw : ¬ wWon = wLost := by decide +kernel
    cases a with
    | drawn => cases b with
      | drawn => rfl
      | val w n => cases w <;> simp [Val.key] at h
    | val w n => cases b with
      | drawn => cases w <;> simp [Val.key] at h
      | val w' n' =>
        cases w <;> cases w' <;> simp [Val.key] at h
        · rw [h]
        · exact absurd h.1.symm hw
        · exact absurd h.1 hw
        · rw [h]
  lay b := by
    have h1 : (NestedKey.text wDrawn).data.canLay0 = true := by decide +kernel
    have h2 : (NestedKey.text wWon).data.canLay0 = true := by decide +kernel
    have h3 : (NestedKey.text wLost).data.canLay0 = true := by decide +kernel
    cases b with
    | drawn => show PyData.canLayAll0 [(NestedKey.text wDrawn).data] = true; simp [PyData.canLayAll0, h1]
    | val w n =>
      cases w
      · show PyData.canLayAll0 [(NestedKey.text wLost).data, .int n] = true
        simp [PyData.canLayAll0, h3, PyData.canLay0]
      · show PyData.canLayAll0 [(NestedKey.text wWon).data, .int n] = true
        simp [PyData.canLayAll0, h2, PyData.canLay0]
  dep b := by
    cases b with
    | drawn => decide
    | val w n => cases w <;> simp [Val.key, NestedKey.depth, NestedKey.depthAll]
instance : EncT Val where
  tup b := by
    cases b with
    | drawn => exact ⟨_, rfl⟩
    | val w n => cases w <;> exact ⟨_, rfl⟩

/-! ### what stands at them -/
section
variable {K : PySem.W.Frag} {H : Hp} {v : V}
theorem R.ints {m : List Int} (h : R K H v m) : ∃ a, v = .ref a ∧ SqT K H a (m.map .int) := by
  have h : KR K H v (.tup (m.map .num)) := h
  cases h with
  | tup h1 h2 => rw [KRs.ints_inv h2] at h1; exact ⟨_, rfl, h1⟩
theorem R.ofInts {m : List Int} {a : Addr} (h : SqT K H a (m.map .int)) : R K H (.ref a) m := show KR K H (.ref a) (.tup (m.map .num)) from .tup h (KRs.ints m)
theorem R.pos {p : Psn} (h : R K H v p) : ∃ a b, v = .ref a ∧ SqT K H a [.int p.t, .ref b] ∧ SqT K H b (p.m.map .int) := by
  have h : KR K H v (.tup [.num p.t, intK p.m]) := h
  cases h with
  | tup h1 h2 =>
    cases h2 with
    | cons e1 h2 => cases e1; cases h2 with
      | cons e2 h3 => cases h3; obtain ⟨b, eb, hb⟩ := R.ints e2; subst eb; exact ⟨_, b, rfl, h1, hb⟩
theorem R.ofPos {p : Psn} {a b : Addr} (h : SqT K H a [.int p.t, .ref b]) (hb : SqT K H b (p.m.map .int)) : R K H (.ref a) p :=
  show KR K H (.ref a) (.tup [.num p.t, intK p.m]) from .tup h (.cons (.int _) (.cons (R.ofInts hb) .nil))
theorem R.spot {p : Spot} (h : R K H v p) : ∃ a b, v = .ref a ∧ SqT K H a [.int p.f, .ref b, .int p.k] ∧ SqT K H b (p.m.map .int) := by
  have h : KR K H v (.tup [.num p.f, intK p.m, .num p.k]) := h
  cases h with
  | tup h1 h2 =>
    cases h2 with
    | cons e1 h2 => cases e1; cases h2 with
      | cons e2 h3 => cases h3 with
        | cons e3 h4 => cases e3; cases h4; obtain ⟨b, eb, hb⟩ := R.ints e2; subst eb; exact ⟨_, b, rfl, h1, hb⟩
theorem R.ofSpot {p : Spot} {a b : Addr} (h : SqT K H a [.int p.f, .ref b, .int p.k]) (hb : SqT K H b (p.m.map .int)) : R K H (.ref a) p :=
  show KR K H (.ref a) (.tup [.num p.f, intK p.m, .num p.k]) from .tup h (.cons (.int _) (.cons (R.ofInts hb) (.cons (.int _) .nil)))
theorem R.mv {p : Mv} (h : R K H v p) : ∃ a b, v = .ref a ∧ SqT K H a [.int p.s, .int p.f, .ref b, .int p.k] ∧ SqT K H b (p.t.map .int) := by
  have h : KR K H v (.tup [.num p.s, .num p.f, intK p.t, .num p.k]) := h
  cases h with
  | tup h1 h2 =>
    cases h2 with
    | cons e1 h2 => cases e1; cases h2 with
      | cons e2 h3 => cases e2; cases h3 with
        | cons e3 h4 => cases h4 with
          | cons e4 h5 => cases e4; cases h5; obtain ⟨b, eb, hb⟩ := R.ints e3; subst eb; exact ⟨_, b, rfl, h1, hb⟩
theorem R.ofMv {p : Mv} {a b : Addr} (h : SqT K H a [.int p.s, .int p.f, .ref b, .int p.k]) (hb : SqT K H b (p.t.map .int)) : R K H (.ref a) p :=
  show KR K H (.ref a) (.tup [.num p.s, .num p.f, intK p.t, .num p.k]) from .tup h (.cons (.int _) (.cons (.int _) (.cons (R.ofInts hb) (.cons (.int _) .nil))))
theorem R.run {p : Run} (h : R K H v p) : ∃ a b c, v = .ref a ∧ SqT K H a [.ref b, .ref c] ∧ R K H (.ref b) p.mv ∧ R K H (.ref c) p.to := by
  have h : KR K H v (.tup [en p.mv, en p.to]) := h
  cases h with
  | tup h1 h2 =>
    cases h2 with
    | cons e1 h2 => cases h2 with
      | cons e2 h3 =>
        cases h3
        obtain ⟨b, eb⟩ := ref_of (b := p.mv) e1
        obtain ⟨c, ec⟩ := ref_of (b := p.to) e2
        subst eb ec
        exact ⟨_, b, c, rfl, h1, e1, e2⟩
theorem R.ofRun {p : Run} {a b c : Addr} (h : SqT K H a [.ref b, .ref c]) (h1 : R K H (.ref b) p.mv) (h2 : R K H (.ref c) p.to) : R K H (.ref a) p :=
  show KR K H (.ref a) (.tup [en p.mv, en p.to]) from .tup h (.cons h1 (.cons h2 .nil))
abbrev wdV : Bool → Str
  | true => wWon
  | false => wLost
theorem R.val {w : Bool} {n : Int} (h : R K H v (Val.val w n)) : ∃ a, v = .ref a ∧ SqT K H a [.str (wdV w), .int n] := by
  cases w
  all_goals
    have h : KR K H v (.tup [.text _, .num n]) := h
    cases h with
    | tup h1 h2 =>
      cases h2 with
      | cons e1 h2 => cases e1; cases h2 with
        | cons e2 h3 => cases e2; cases h3; exact ⟨_, rfl, h1⟩
theorem R.ofVal {w : Bool} {n : Int} {a : Addr} (h : SqT K H a [.str (wdV w), .int n]) : R K H (.ref a) (Val.val w n) := by
  cases w
  · exact show KR K H (.ref a) (.tup [.text wLost, .num n]) from .tup h (.cons (.str _) (.cons (.int _) .nil))
  · exact show KR K H (.ref a) (.tup [.text wWon, .num n]) from .tup h (.cons (.str _) (.cons (.int _) .nil))
theorem R.drawn (h : R K H v Val.drawn) : ∃ a, v = .ref a ∧ SqT K H a [.str wDrawn] := by
  have h : KR K H v (.tup [.text wDrawn]) := h
  cases h with
  | tup h1 h2 =>
    cases h2 with
    | cons e1 h2 => cases e1; cases h2; exact ⟨_, rfl, h1⟩
theorem R.ofDrawn {a : Addr} (h : SqT K H a [.str wDrawn]) : R K H (.ref a) Val.drawn := show KR K H (.ref a) (.tup [.text wDrawn]) from .tup h (.cons (.str _) .nil)
end
end Sk

/-! Sk: the spots' hashes are told apart. -/
namespace Sk
open PySem L2 PySem.Spec PyProof.Rows
/-! ### the hash of a tuple of whole numbers, with natural numbers alone -/
def hM : Nat := 18446744073709551616
def hR (acc lane : Nat) : Nat :=
  let a := (acc + lane * 14029467366897019727) % 18446744073709551616
  let b := (a * 2147483648) % 18446744073709551616 + a / 8589934592
  (b * 11400714785074694791) % 18446744073709551616
def hF (acc len : Nat) : Nat :=
  let a := (acc + (len ^^^ 2870177450013471926)) % 18446744073709551616
  bif Nat.beq a 18446744073709551615 then 1546275796 else a
def hT (ls : List Nat) : Nat := hF (ls.foldl hR 2870177450012600261) ls.length
def sg (a : Nat) : Int := if a < 2 ^ 63 then (a : Int) else (a : Int) - ((2 ^ 64 : Nat) : Int)
theorem hF_lt (acc len : Nat) : hF acc len < 18446744073709551615 := by
  unfold hF
  have h : (acc + (len ^^^ 2870177450013471926)) % 18446744073709551616 < 18446744073709551616 := Nat.mod_lt _ (by decide)
  generalize (acc + (len ^^^ 2870177450013471926)) % 18446744073709551616 = a at h
  dsimp only
  cases e : Nat.beq a 18446744073709551615 with
  | true => show (1546275796 : Nat) < 18446744073709551615; decide
  | false =>
    have : a ≠ 18446744073709551615 := fun z => by rw [z] at e; exact absurd e (by decide)
    simp only [cond_false]
    omega
theorem sg_inj {a b : Nat} (ha : a < 18446744073709551615) (hb : b < 18446744073709551615) (h : sg a = sg b) : a = b := by
  unfold sg at h
  have e1 : (2 : Nat) ^ 63 = 9223372036854775808 := by decide
  have e2 : (2 : Nat) ^ 64 = 18446744073709551616 := by decide
  rw [e1, e2] at h
  split at h <;> split at h <;> omega
theorem sg_lane {a : Nat} (ha : a < 18446744073709551615) : (sg a % ((2 ^ 64 : Nat) : Int)).toNat = a := by
  unfold sg
  have e1 : (2 : Nat) ^ 63 = 9223372036854775808 := by decide
  have e2 : (2 : Nat) ^ 64 = 18446744073709551616 := by decide
  rw [e1, e2]
  split <;> omega
theorem sg_red {a : Nat} (ha : a < 18446744073709551615) : reduceHash (sg a) = sg a := by
  unfold reduceHash
  have e1 : (2 : Nat) ^ 63 = 9223372036854775808 := by decide
  have e2 : (2 : Nat) ^ 64 = 18446744073709551616 := by decide
  have e3 : (2 : Int) ^ 63 = 9223372036854775808 := by decide
  have h1 : -(9223372036854775808 : Int) ≤ sg a := by unfold sg; rw [e1, e2]; split <;> omega
  have h2 : sg a < 9223372036854775808 := by unfold sg; rw [e1, e2]; split <;> omega
  have h3 : sg a ≠ -1 := by unfold sg; rw [e1, e2]; split <;> omega
  have q : (decide (-(2 ^ 63 : Int) ≤ sg a) && decide (sg a < 2 ^ 63)) = true := by
    rw [e3, Bool.and_eq_true]
    exact ⟨decide_eq_true h1, decide_eq_true h2⟩
  rw [if_pos q, if_neg (by simpa using h3)]
abbrev lane (h : Int) : Nat := (h % ((2 ^ 64 : Nat) : Int)).toNat
theorem tup_hash (hs : List Int) : Builtin.Tuple.tupleHashOf hs = sg (hT (hs.map lane)) := by
  unfold Builtin.Tuple.tupleHashOf hT
  have hfold : ∀ (l : List Int) (i : Nat), l.foldl (fun acc h =>
      ((((acc + (h % ((2 ^ 64 : Nat) : Int)).toNat * 14029467366897019727) % 2 ^ 64 * 2 ^ 31) % 2 ^ 64 + (acc + (h % ((2 ^ 64 : Nat) : Int)).toNat * 14029467366897019727) % 2 ^ 64 / 2 ^ 33) * 11400714785074694791) % 2 ^ 64) i = (l.map lane).foldl hR i := by
    intro l
    induction l with
    | nil => intro i; rfl
    | cons x xs ih =>
      intro i
      rw [List.foldl_cons, ih, List.map_cons, List.foldl_cons]
      rfl
  dsimp only
  rw [hfold, List.length_map]
  generalize (hs.map lane).foldl hR 2870177450012600261 = acc
  generalize hs.length = n
  unfold hF
  have e0 : (2870177450012600261 ^^^ 3527539 : Nat) = 2870177450013471926 := by decide
  have e2 : (2 : Nat) ^ 64 = 18446744073709551616 := by decide
  rw [e0, e2]
  dsimp only
  have h : (acc + (n ^^^ 2870177450013471926)) % 18446744073709551616 < 18446744073709551616 := Nat.mod_lt _ (by decide)
  generalize (acc + (n ^^^ 2870177450013471926)) % 18446744073709551616 = a at h
  by_cases c : a = 18446744073709551615
  · subst c
    decide
  · have c1 : ¬ (a == 18446744073709551616 - 1) = true := fun z => c (eq_of_beq z)
    have c2 : Nat.beq a 18446744073709551615 = false := by
      rw [← Bool.not_eq_true]
      intro z
      exact c (Nat.eq_of_beq_eq_true z)
    rw [if_neg c1]
    have q : (bif Nat.beq a 18446744073709551615 then 1546275796 else a) = a := by rw [c2]; rfl
    show sg a = sg (bif Nat.beq a 18446744073709551615 then 1546275796 else a)
    rw [q]

/-! ### all the men -/
def men : Nat → Nat → List (List Int)
  | 0, _ => [[]]
  | n + 1, 0 => (men n 0).map fun m => 0 :: m
  | n + 1, c + 1 => ((men n (c + 1)).map fun m => 0 :: m) ++ ((men n c).map (fun m => 1 :: m) ++ ((men n c).map (fun m => 2 :: m) ++ ((men n c).map (fun m => 3 :: m) ++ (men n c).map (fun m => 4 :: m))))
/-- how many fields are not empty -/
def full : List Int → Nat
  | [] => 0
  | x :: m => (if x = 0 then 0 else 1) + full m
theorem mem_men : ∀ (m : List Int) (c : Nat), (∀ x ∈ m, 0 ≤ x ∧ x ≤ 4) → full m ≤ c → m ∈ men m.length c
  | [], _, _, _ => by simp [men]
  | x :: m, c, h, hc => by
    have hx := h x List.mem_cons_self
    have hm : ∀ y ∈ m, 0 ≤ y ∧ y ≤ 4 := fun y hy => h y (List.mem_cons_of_mem _ hy)
    unfold full at hc
    by_cases e : x = 0
    · subst e
      have ih := mem_men m c hm (by simpa using hc)
      cases c with
      | zero => exact List.mem_map.mpr ⟨m, ih, rfl⟩
      | succ c => exact List.mem_append_left _ (List.mem_map.mpr ⟨m, ih, rfl⟩)
    · rw [if_neg e] at hc
      cases c with
      | zero => omega
      | succ c =>
        have ih := mem_men m c hm (by omega)
        have hx' : x = 1 ∨ x = 2 ∨ x = 3 ∨ x = 4 := by omega
        show _ ∈ men (m.length + 1) (c + 1)
        unfold men
        rcases hx' with e | e | e | e <;> subst e <;> simp [ih]

/-! ### no number twice -/
def apartB : Nat → List Nat → Bool
  | 0, l => l.isEmpty || l.tail.isEmpty
  | k + 1, l => match l with
    | [] => true
    | [_] => true
    | x :: y :: r => apartB k ((x :: y :: r).filter fun z => Nat.beq (z >>> k % 2) 0) && apartB k ((x :: y :: r).filter fun z => !Nat.beq (z >>> k % 2) 0)
theorem nd_split {l : List Nat} (p : Nat → Bool) (h1 : (l.filter p).Nodup) (h2 : (l.filter fun z => !p z).Nodup) : l.Nodup := by
  induction l with
  | nil => exact List.nodup_nil
  | cons x l ih =>
    rw [List.nodup_cons]
    cases e : p x with
    | true =>
      rw [List.filter_cons_of_pos e] at h1
      rw [List.filter_cons_of_neg (by simp [e])] at h2
      rw [List.nodup_cons] at h1
      exact ⟨fun hx => h1.1 (List.mem_filter.mpr ⟨hx, e⟩), ih h1.2 h2⟩
    | false =>
      rw [List.filter_cons_of_neg (by simp [e])] at h1
      rw [List.filter_cons_of_pos (by simp [e])] at h2
      rw [List.nodup_cons] at h2
      exact ⟨fun hx => h2.1 (List.mem_filter.mpr ⟨hx, by simp [e]⟩), ih h1 h2.2⟩
theorem apart_nd : ∀ (k : Nat) (l : List Nat), apartB k l = true → l.Nodup
  | 0, l, h => by
    match l with
    | [] => exact List.nodup_nil
    | [x] => simp
    | x :: y :: r => simp [apartB] at h
  | k + 1, l, h => by
    match l with
    | [] => exact List.nodup_nil
    | [x] => simp
    | x :: y :: r =>
      unfold apartB at h
      rw [Bool.and_eq_true] at h
      exact nd_split _ (apart_nd k _ h.1) (apart_nd k _ h.2)
/-- the hashes of all spots of n fields -/
def menH (m : List Int) : Nat := hT (m.map Int.toNat)
def spotsH (f : Nat) (n : Nat) (hs : List Nat) : List Nat := match f with
  | 0 => []
  | f + 1 => hs.map (fun h => hT [f, h, 0]) ++ (hs.map (fun h => hT [f, h, 1]) ++ spotsH f n hs)
def allH (n : Nat) : List Nat := spotsH n n ((men n 3).map menH)
set_option maxHeartbeats 0 in
theorem far2 : apartB 60 (allH 2) = true := by decide +kernel
set_option maxHeartbeats 0 in
theorem far3 : apartB 60 (allH 3) = true := by decide +kernel
set_option maxHeartbeats 0 in
theorem far4 : apartB 60 (allH 4) = true := by decide +kernel
set_option maxHeartbeats 0 in
theorem far5 : apartB 60 (allH 5) = true := by decide +kernel
end Sk

namespace Sk
open PySem L2 PySem.Spec PyProof.Rows
structure SpotOk (n : Nat) (b : Spot) : Prop where
  len : b.m.length = n
  val : ∀ x ∈ b.m, 0 ≤ x ∧ x ≤ 4
  few : full b.m ≤ 3
  f0 : 0 ≤ b.f
  f1 : b.f < n
  k0 : 0 ≤ b.k
  k1 : b.k ≤ 1
def spotsL (f : Nat) (ms : List (List Int)) : List Spot := match f with
  | 0 => []
  | f + 1 => ms.map (fun m => ⟨f, m, 0⟩) ++ (ms.map (fun m => ⟨f, m, 1⟩) ++ spotsL f ms)
def spH (b : Spot) : Nat := hT [b.f.toNat, menH b.m, b.k.toNat]
theorem spotsL_map (n : Nat) (ms : List (List Int)) : ∀ f, (spotsL f ms).map spH = spotsH f n (ms.map menH)
  | 0 => rfl
  | f + 1 => by
    show (ms.map _ ++ (ms.map _ ++ spotsL f ms)).map spH = (ms.map menH).map _ ++ ((ms.map menH).map _ ++ spotsH f n (ms.map menH))
    rw [List.map_append, List.map_append, spotsL_map n ms f, List.map_map, List.map_map, List.map_map, List.map_map]
    rfl
theorem mem_spotsL {ms : List (List Int)} {b : Spot} : ∀ f : Nat, 0 ≤ b.f → b.f < f → 0 ≤ b.k → b.k ≤ 1 → b.m ∈ ms → b ∈ spotsL f ms
  | 0, h0, h1, _, _, _ => by omega
  | f + 1, h0, h1, h2, h3, h4 => by
    obtain ⟨bf, bm, bk⟩ := b
    dsimp only at *
    show _ ∈ ms.map _ ++ (ms.map _ ++ spotsL f ms)
    by_cases c : bf = f
    · have hk : bk = 0 ∨ bk = 1 := by omega
      rcases hk with e | e
      · exact List.mem_append_left _ (List.mem_map.mpr ⟨bm, h4, by rw [c, e]⟩)
      · exact List.mem_append_right _ (List.mem_append_left _ (List.mem_map.mpr ⟨bm, h4, by rw [c, e]⟩))
    · exact List.mem_append_right _ (List.mem_append_right _ (mem_spotsL (b := ⟨bf, bm, bk⟩) f h0 (show bf < (f : Int) by omega) h2 h3 h4))
theorem inj_of_nd {α : Type} {g : α → Nat} : ∀ {l : List α}, (l.map g).Nodup → ∀ a ∈ l, ∀ b ∈ l, g a = g b → a = b
  | [], _, a, ha, _, _, _ => by cases ha
  | x :: l, h, a, ha, b, hb, e => by
    rw [List.map_cons, List.nodup_cons] at h
    rcases List.mem_cons.mp ha with q | q <;> rcases List.mem_cons.mp hb with r | r
    · rw [q, r]
    · subst q; exact absurd (List.mem_map.mpr ⟨b, r, e.symm⟩) h.1
    · subst r; exact absurd (List.mem_map.mpr ⟨a, q, e⟩) h.1
    · exact inj_of_nd h.2 a q b r e
theorem spH_inj {n : Nat} (h2 : 2 ≤ n) (h5 : n ≤ 5) {a b : Spot} (ha : SpotOk n a) (hb : SpotOk n b) (e : spH a = spH b) : a = b := by
  have nd : (allH n).Nodup := by
    have hn : n = 2 ∨ n = 3 ∨ n = 4 ∨ n = 5 := by omega
    rcases hn with e | e | e | e <;> subst e
    · exact apart_nd _ _ far2
    · exact apart_nd _ _ far3
    · exact apart_nd _ _ far4
    · exact apart_nd _ _ far5
  unfold allH at nd
  rw [← spotsL_map n (men n 3) n] at nd
  refine inj_of_nd nd a (mem_spotsL n ha.f0 ha.f1 ha.k0 ha.k1 ?_) b (mem_spotsL n hb.f0 hb.f1 hb.k0 hb.k1 ?_) e
  · have z := mem_men a.m 3 ha.val ha.few; rw [ha.len] at z; exact z
  · have z := mem_men b.m 3 hb.val hb.few; rw [hb.len] at z; exact z
theorem hashInt_small {i : Int} (h0 : 0 ≤ i) (h1 : i ≤ 1000) : lane (hashInt i) = i.toNat := by
  obtain ⟨k, e⟩ : ∃ k : Nat, i = (k : Int) := ⟨i.toNat, by omega⟩
  subst e
  have h1 : k < 1001 := by omega
  have : ∀ k : Fin 1001, lane (hashInt (k.val : Int)) = k.val := by decide +kernel
  exact this ⟨k, h1⟩
theorem hashes_ints (w : World) : ∀ m : List Int, (∀ x ∈ m, 0 ≤ x ∧ x ≤ 4) → (NestedKey.hashes w (m.map .num)).map lane = m.map Int.toNat
  | [], _ => rfl
  | x :: m, h => by
    have hx := h x List.mem_cons_self
    have ih := hashes_ints w m fun y hy => h y (List.mem_cons_of_mem _ hy)
    show lane (hashInt x) :: (NestedKey.hashes w (m.map .num)).map lane = x.toNat :: m.map Int.toNat
    rw [ih, hashInt_small hx.1 (by omega)]
theorem hT_lt (ls : List Nat) : hT ls < 18446744073709551615 := hF_lt _ _
theorem hash_spot (w : World) {n : Nat} (h5 : n ≤ 5) {b : Spot} (h : SpotOk n b) : (en b).hash w = sg (spH b) := by
  have e1 : (intK b.m).hash w = sg (menH b.m) := by
    show reduceHash (Builtin.Tuple.tupleHashOf (NestedKey.hashes w (b.m.map .num))) = _
    rw [tup_hash, hashes_ints w b.m h.val, sg_red (hT_lt _)]
    rfl
  show reduceHash (Builtin.Tuple.tupleHashOf [hashInt b.f, (intK b.m).hash w, hashInt b.k]) = _
  rw [tup_hash, e1]
  show reduceHash (sg (hT [lane (hashInt b.f), lane (sg (menH b.m)), lane (hashInt b.k)])) = _
  have f1 := h.f1
  have k1 := h.k1
  rw [hashInt_small h.f0 (by omega), hashInt_small h.k0 (by omega), sg_red (hT_lt _)]
  have q : lane (sg (menH b.m)) = menH b.m := sg_lane (hT_lt _)
  rw [q]
  rfl
theorem apart_spots {V : Type} (w : World) {n : Nat} (h2 : 2 ≤ n) (h5 : n ≤ 5) {bs : List Spot} (nd : bs.Nodup) (h : ∀ b ∈ bs, SpotOk n b) : (bs.map fun b => (en b).hash w).Nodup := by
  induction bs with
  | nil => exact List.nodup_nil
  | cons b bs ih =>
    rw [List.nodup_cons] at nd
    rw [List.map_cons, List.nodup_cons]
    refine ⟨fun hx => ?_, ih nd.2 fun c hc => h c (List.mem_cons_of_mem _ hc)⟩
    obtain ⟨c, hc, e⟩ := List.mem_map.mp hx
    have hb := h b List.mem_cons_self
    have hc' := h c (List.mem_cons_of_mem _ hc)
    rw [hash_spot w h5 hb, hash_spot w h5 hc'] at e
    have := spH_inj h2 h5 hc' hb (sg_inj (hT_lt _) (hT_lt _) e)
    subst this
    exact nd.1 hc
end Sk

/-! Sk: for i, x in enumerate(t), t a tuple. -/
namespace Sk
open PySem L2 PySem.Spec PyProof.Rows
open Sem (wp)

set_option maxHeartbeats 1000000 in
theorem meets_enum_tup (l : Addr) (items : Array Value) :
    Meets (Builtin.«enumerate.__new__» ⟨[.type "enumerate", .ref l], []⟩) (fun _ R s => s.heap.IsTuple l items ∧
      R (.ok (.ret (.ref (s.heap.push { cls := .type "tuple_iterator", data := .fields #[.ref l, .int 0 0] }).objs.size)))
        { s with heap := (s.heap.push { cls := .type "tuple_iterator", data := .fields #[.ref l, .int 0 0] }).push { cls := .type "enumerate", data := .fields #[.none, .bool false, .ref s.heap.objs.size, rawInt 0, .none, .none] } }) :=
  .of_wp fun prog w A R s h => by
    obtain ⟨hp, g, d, tk, os⟩ := s
    obtain ⟨hl, h⟩ := h
    have hsub := sub_enumerate
    have q1 : ∀ {A' : Around} {E : Value → Shared → Prop} {Q : Value → Shared → Prop}, Q (.ref hp.objs.size) ⟨hp.push { cls := .type "tuple_iterator", data := .fields #[.ref l, .int 0 0] }, g, d, tk, os⟩ → wpAny (model prog w) A' (pyIter (.ref l)) Q E ⟨hp, g, d, tk, os⟩ :=
      fun q => wpAny_pyIter_tuple (s := ⟨hp, g, d, tk, os⟩) hl q
    wp_walk using q1
    refine wpAny_stack_any fun st => wpAny_pure ?_
    split
    · rename_i c _ _ _ _ _
      cases (c == Value.type "enumerate")
      · wp_walk using q1
        exact ⟨_, rfl, h⟩
      · wp_walk using q1
        exact ⟨_, rfl, h⟩
    · wp_walk using q1
      exact ⟨_, rfl, h⟩
section
variable {prog : Program} {w : World} {A : Around} {E : Value → Shared → Prop} {s : Shared}
theorem call_enum_tup {l : Addr} {items : Array Value} {Q : Value → Shared → Prop} (hL : s.heap.IsTuple l items)
    (h : ∀ h', IsEnum h' (s.heap.objs.size + 1) s.heap.objs.size 0 .none → h'.IsTupleIter s.heap.objs.size l 0 → h'.objs.size = s.heap.objs.size + 2 →
      (∀ b o, s.heap.get? b = some o → h'.get? b = some o) → Q (.ref (s.heap.objs.size + 1)) { s with heap := h' }) :
    wpAny (model prog w) A (call (.type "enumerate") [.ref l]) Q E s := by
  refine callType_new F.called_enumerate (by decide) (F.typeCall_enumerate_1 _) (F.newCall_enumerate_1 _) (fun obj => F.args_object_init_2 obj _) F.entry_enumerate_new
    (meets_enum_tup l items) ⟨hL, ?_⟩
  generalize hO : ({ cls := .type "tuple_iterator", data := .fields #[.ref l, .int 0 0] } : Obj) = O
  have hz : (s.heap.push O).objs.size = s.heap.objs.size + 1 := Heap.size_push ..
  show _ ∧ _
  rw [hz]
  have he : IsEnum ((s.heap.push O).push { cls := .type "enumerate", data := .fields #[.none, .bool false, .ref s.heap.objs.size, rawInt 0, .none, .none] }) (s.heap.objs.size + 1) s.heap.objs.size 0 .none := by
    have := Heap.get?_push_size (s.heap.push O) (o := { cls := .type "enumerate", data := .fields #[.none, .bool false, .ref s.heap.objs.size, rawInt 0, .none, .none] }) rfl
    rw [hz] at this
    exact this
  have hi : (s.heap.push O).get? s.heap.objs.size = some O := by subst hO; exact Heap.get?_push_size _ rfl
  exact ⟨⟨_, he, rfl⟩, h _ he ⟨_, Heap.get?_push_of_some _ hi, by rw [← hO], by rw [← hO]; rfl⟩ (by rw [Heap.size_push, hz]) fun b o x => Heap.get?_push_of_some _ (Heap.get?_push_of_some _ x)⟩
end
/-- the tuple at a, each item in a new pair -/
def ItU (K : PySem.W.Frag) (a : Addr) : It :=
  ⟨fun i H => ∃ (xs : List V) (x : V), SqT K H a xs ∧ xs[i]? = some x, fun i H v H' => ∃ T x, v = .ref T ∧ H T = none ∧ H' = upd H T (.tup [.int (i : Nat), x]) ∧ ∀ xs, SqT K H a xs → xs[i]? = some x, fun i H => ∃ xs : List V, SqT K H a xs ∧ xs.length = i⟩
theorem turn_enumT {P : Program} {w : World} {K : PySem.W.Frag} {elts : List Expr} {kk : Nat} {tpos : Pos} (a e it : Addr) (hai : a ≠ it) (hae : a ≠ e) :
    Turn P w K (.Tuple elts kk tpos) (ItU K a) [e, it] e (fun i h => (∃ old, IsEnum h e it ((i : Nat) : Int) old) ∧ h.IsTupleIter it a i ∧ e ≠ it) where
  mem := by simp
  obj := fun i h st b hb => by
    obtain ⟨⟨old, he⟩, ⟨o, ho, hc, hd⟩, _⟩ := st
    have e' : b = e ∨ b = it := by simpa using hb
    rcases e' with z | z
    · rw [z]; exact ⟨_, he, fun v q => nomatch q⟩
    · rw [z]; exact ⟨o, ho, fun v q => by rw [hd] at q; cases q⟩
  keep := fun i h h' st k => let ⟨⟨old, he⟩, hi, hne⟩ := st; ⟨⟨old, k e (by simp) _ he⟩, hi.at fun o q => k it (by simp) o q, hne⟩
  item := by
    intro X hP hw hK hc i pins s σ H E I hf st hg
    subst hP hw hK
    obtain ⟨⟨old, he⟩, hit, hne⟩ := st
    obtain ⟨xs, x, hq, hx⟩ := hg
    obtain ⟨its, rv, p, hz⟩ := I.tuple hq
    obtain ⟨u, hu, ru⟩ := rv.get hx
    have hel : e < s.heap.objs.size := Heap.lt_size he
    have hil : it < s.heap.objs.size := by obtain ⟨_, q, _⟩ := hit; exact Heap.lt_size q
    have hlt : i < its.toArray.size := by
      have := (List.getElem?_eq_some_iff.mp hu).1
      simpa using this
    refine wpAny_pyNext_enum_itemD (i := i) (Draws.tuple (A := X.A.in1) (I.ok.hd hc) it a hai its.toArray) he ⟨hit, show s.heap.IsTuple a its.toArray from p⟩ hlt hne (by simp [hne, hae.symm]) fun y h' tk hP ho hit' hT hsz hk => ?_
    have ey : y = u := by
      have hP : its.toArray[i]? = some y := hP
      have hu' : its.toArray[i]? = some u := by simpa using hu
      rw [hu'] at hP
      exact (Option.some.inj hP).symm
    subst ey
    refine ⟨_, rfl, wpAny_letOwnedTupleGo_enum (s := { s with heap := h', toks := tk + 1 }) ho fun h'' he' sb => ?_⟩
    have hT2 : h''.get? s.heap.objs.size = some { cls := .type "tuple", data := .seq #[.int i tk, y] } := (sb.2 _ (Nat.ne_of_gt hel)).trans hT
    have new : ObjOk X.prog X.w (upd H s.heap.objs.size (.tup [.int (i : Nat), x])) h'' s.heap.objs.size (.tup [.int (i : Nat), x]) :=
      ⟨by show 2 ≤ sizeLine; decide, [.int i tk, y], .cons ⟨_, rfl⟩ (.cons ru .nil), ⟨_, hT2, rfl, _, rfl⟩⟩
    have I1 : Inv X pins σ (upd H s.heap.objs.size (.tup [.int (i : Nat), x])) { s with heap := h'', toks := tk + 1 } :=
      I.turnedNew (ch := [e, it]) (fun b ob hb q => (sb.2 b (fun z => hb (by simp [z]))).trans (hk b ob (fun z => hb (by simp [z])) (fun z => hb (by simp [z])) q)) hf (Nat.le_refl _) new
    refine ⟨.ref s.heap.objs.size, _, I1, rfl, ⟨_, x, rfl, I.hok.fresh (Nat.le_refl _), rfl, fun ys hy => by rw [I.tuple_inj hy hq]; exact hx⟩, ⟨⟨y, ?_⟩, hit'.1.at fun o q => (sb.2 it (Ne.symm hne)).trans q, hne⟩, fun b hb => ?_⟩
    · have e1 : ((i + 1 : Nat) : Int) = (i : Int) + 1 := by omega
      rw [e1]; exact he'
    · have hb' : b < s.heap.objs.size := by
        have e' : b = e ∨ b = it := by simpa using hb
        rcases e' with z | z
        · rw [z]; exact hel
        · rw [z]; exact hil
      rw [upd_ne (Nat.ne_of_lt hb')]
      exact (hf b hb).1
  done := by
    intro X hP hw hK hc i pins s σ H E I hf st hg
    subst hP hw hK
    obtain ⟨⟨old, he⟩, hit, hne⟩ := st
    obtain ⟨xs, hq, hx⟩ := hg
    obtain ⟨its, rv, p, hz⟩ := I.tuple hq
    obtain ⟨f0, f1, f2, f3, f4, f5⟩ := hf it (by simp)
    have hl := rv.length
    have ei : its.toArray.size = i := by simp; omega
    have D := Draws.tuple (prog := X.prog) (w := X.w) (A := X.A.in1) (I.ok.hd hc) it a hai its.toArray
    rw [ei] at D
    exact wpAny_pyNext_enum_endD D he ⟨hit, show s.heap.IsTuple a its.toArray from p⟩ fun h' eb => ⟨rfl, I.turned (t' := s.toks) (fun b o hb q => eb b o hb q) f0 f1 f3 f4 f5⟩
  self := fun A i s Q E st h => let ⟨⟨_, he⟩, _⟩ := st; wpAny_pyIter_enum he h
def iEnumT (K : PySem.W.Frag) (ta : TA) : TI := fun σ H R => ta σ H fun vs H1 => ∃ a xs, vs = [.ref a] ∧ SqT K H1 a xs ∧ R (ItU K a) H1
theorem pi_enumT {X : Cx} {e : Expr} {ta : TA} {p pos tpos : Pos} {elts : List Expr} {kk : Nat} (hg : Gl X "enumerate") (hm : X.mg "enumerate" = none) (ha : PA X [e] ta) (hs : starEach [e] X.env = [(false, eval e X.env)] := by rfl) :
    PI X (.Tuple elts kk tpos) (.Call (.Name "enumerate" p) [e] [] pos) (iEnumT X.K ta) := by
  refine ⟨fun pins s σ H R I h => ?_⟩
  refine Call_ (ld_blt I hg hm boot_enumerate (PyProof.Rows.callWith_type1 (thn (ha.run pos pins s σ H _ I h) fun us s1 ⟨vs, H1, I1, r1, q1⟩ => ?_) hs rfl))
  obtain ⟨a, xs, ex, hq, q⟩ := q1
  subst ex
  cases r1 with
  | cons r rr =>
    cases rr
    cases r
    obtain ⟨its, rv, p', hz⟩ := I1.tuple hq
    have hlt : a < s1.heap.objs.size := by obtain ⟨_, q, _⟩ := p'; exact Heap.lt_size q
    refine call_enum_tup (items := its.toArray) p' fun h' he hit hsz hk => wpAny_pyIter_enum he ?_
    have I2 : Inv X pins σ H1 { s1 with heap := h' } := I1.kept (t' := s1.toks) hk
    refine ⟨s1.heap.objs.size + 1, [s1.heap.objs.size + 1, s1.heap.objs.size], _, _, H1, rfl, I2, turn_enumT a (s1.heap.objs.size + 1) s1.heap.objs.size (Nat.ne_of_lt hlt) (Nat.ne_of_lt (Nat.lt_succ_of_lt hlt)), ⟨⟨.none, he⟩, hit, Nat.succ_ne_self _⟩, fun b hb => ?_, q⟩
    have e' : b = s1.heap.objs.size + 1 ∨ b = s1.heap.objs.size := by simpa using hb
    have hle : s1.heap.objs.size ≤ b := by
      rcases e' with z | z
      · rw [z]; exact Nat.le_add_right _ _
      · rw [z]; exact Nat.le_refl _
    exact I1.fpOk hle (I1.hok.fresh hle)
end Sk

/-! Sk: the text by places, and what the top leaves. -/
namespace Sk
open PySem L2 PySem.Spec PyProof.Rows
def top (i : Nat) : Stmt := PySem.Challenge.pw_skewer_k33_whole_values_by_play.main.body.getD i (.Pass ⟨0, 0, 0, 0⟩)
abbrev s_man_of : Stmt := top 1
abbrev N_man_of : List Str := ["side", "kind"]
abbrev P_man_of : List Str := ["side", "kind"]
abbrev s_side_of : Stmt := top 2
abbrev N_side_of : List Str := ["man"]
abbrev P_side_of : List Str := ["man"]
abbrev s_kind_of : Stmt := top 3
abbrev N_kind_of : List Str := ["man"]
abbrev P_kind_of : List Str := ["man"]
abbrev s_with_man : Stmt := top 4
abbrev N_with_man : List Str := ["men", "field", "man"]
abbrev P_with_man : List Str := ["men", "field", "man"]
abbrev s_is_as_told : Stmt := top 5
abbrev N_is_as_told : List Str := ["step", "side", "man"]
abbrev P_is_as_told : List Str := ["step", "side", "man"]
abbrev s_step_ends : Stmt := top 6
abbrev N_step_ends : List Str := ["game", "side", "step", "spot", "field", "men", "kind", "word", "following"]
abbrev P_step_ends : List Str := ["game", "side", "step", "spot"]
abbrev s_row_ends : Stmt := top 7
abbrev N_row_ends : List Str := ["game", "side", "programs", "spot", "found", "program", "following", "middle"]
abbrev P_row_ends : List Str := ["game", "side", "programs", "spot"]
abbrev s_any_ends : Stmt := top 8
abbrev N_any_ends : List Str := ["game", "side", "program", "spot", "found", "waiting", "following"]
abbrev P_any_ends : List Str := ["game", "side", "program", "spot"]
abbrev s_program_ends : Stmt := top 9
abbrev N_program_ends : List Str := ["game", "side", "program", "spot", "found", "part", "end"]
abbrev P_program_ends : List Str := ["game", "side", "program", "spot"]
abbrev s_spots : Stmt := top 10
abbrev N_spots : List Str := ["game", "side", "program", "spot"]
abbrev P_spots : List Str := ["game", "side", "program", "spot"]
abbrev s_program_of : Stmt := top 11
abbrev N_program_of : List Str := ["game", "man"]
abbrev P_program_of : List Str := ["game", "man"]
abbrev s_man_runs : Stmt := top 12
abbrev N_man_runs : List Str := ["game", "position", "start", "turn", "men", "man", "lifted", "found", "field", "left", "kind", "taken", "behind", "place"]
abbrev P_man_runs : List Str := ["game", "position", "start"]
abbrev s_runs : Stmt := top 13
abbrev N_runs : List Str := ["game", "position", "turn", "men", "found", "field", "man", "move", "behind"]
abbrev P_runs : List Str := ["game", "position"]
abbrev s_moves : Stmt := top 14
abbrev N_moves : List Str := ["game", "position"]
abbrev P_moves : List Str := ["game", "position"]
abbrev s_after : Stmt := top 15
abbrev N_after : List Str := ["game", "position", "move", "start", "field", "taken", "kind", "turn", "men", "left", "place"]
abbrev P_after : List Str := ["game", "position", "move"]
abbrev s_has_man : Stmt := top 17
abbrev N_has_man : List Str := ["men", "man", "fields", "field"]
abbrev P_has_man : List Str := ["men", "man", "fields"]
abbrev s_holds : Stmt := top 18
abbrev N_holds : List Str := ["game", "position", "condition", "turn", "men", "word", "man"]
abbrev P_holds : List Str := ["game", "position", "condition"]
abbrev s_end_ : Stmt := top 19
abbrev N_end_ : List Str := ["game", "position", "condition", "result"]
abbrev P_end_ : List Str := ["game", "position"]
abbrev s_over_value : Stmt := top 26
abbrev N_over_value : List Str := ["game", "position", "result"]
abbrev P_over_value : List Str := ["game", "position"]
abbrev s_next_positions : Stmt := top 27
abbrev N_next_positions : List Str := ["game", "position", "move"]
abbrev P_next_positions : List Str := ["game", "position"]
abbrev s_followers : Stmt := top 28
abbrev N_followers : List Str := ["game", "positions", "found", "waiting", "position", "following"]
abbrev P_followers : List Str := ["game", "positions"]
abbrev s_backwards : Stmt := top 29
abbrev N_backwards : List Str := ["table", "known", "found", "position", "following"]
abbrev P_backwards : List Str := ["table", "known"]
abbrev s_Solver_init : Stmt := inClass (top 30) 0
abbrev N_Solver_init : List Str := ["self", "table", "known", "position"]
abbrev P_Solver_init : List Str := ["self", "table", "known"]
abbrev s_Solver_valued : Stmt := inClass (top 30) 1
abbrev N_Solver_valued : List Str := ["self", "position", "rank", "result"]
abbrev P_Solver_valued : List Str := ["self", "position", "rank", "result"]
abbrev s_Solver_turn : Stmt := inClass (top 30) 2
abbrev N_Solver_turn : List Str := ["self", "rank", "last", "found", "position", "earlier"]
abbrev P_Solver_turn : List Str := ["self", "rank", "last"]
abbrev s_Solver_solve : Stmt := inClass (top 30) 3
abbrev N_Solver_solve : List Str := ["self", "ranks", "position", "rank", "last", "known"]
abbrev P_Solver_solve : List Str := ["self"]
abbrev s_values_of : Stmt := top 31
abbrev N_values_of : List Str := ["game", "table", "known", "over", "position", "value", "whole"]
abbrev P_values_of : List Str := ["game", "table", "known"]
abbrev s_solve : Stmt := top 32
abbrev N_solve : List Str := ["game", "positions"]
abbrev P_solve : List Str := ["game", "positions"]
abbrev s_Board_init : Stmt := inClass (top 34) 0
abbrev N_Board_init : List Str := ["self", "size", "ways", "name", "row"]
abbrev P_Board_init : List Str := ["self", "size", "ways"]
abbrev s_Game_init : Stmt := inClass (top 35) 0
abbrev N_Game_init : List Str := ["self", "board", "kinds", "clauses", "programs"]
abbrev P_Game_init : List Str := ["self", "board", "kinds", "clauses", "programs"]
abbrev s_L_deck : Stmt := top 37
abbrev N_L_deck : List Str := ["_law_script"]
abbrev P_L_deck : List Str := ["_law_script"]
abbrev s_L_draw : Stmt := top 38
abbrev N_L_draw : List Str := ["_law_deck_here", "_law_most", "_law_value", "_law_cell"]
abbrev P_L_draw : List Str := ["_law_deck_here", "_law_most"]
abbrev s_L_ways : Stmt := top 39
abbrev N_L_ways : List Str := ["_law_deck_here", "_law_size", "_law_ways_here", "_law_k", "_law_kind", "_law_row", "_law_j"]
abbrev P_L_ways : List Str := ["_law_deck_here", "_law_size"]
abbrev s_L_program : Stmt := top 40
abbrev N_L_program : List Str := ["_law_deck_here", "_law_ways_here", "_law_kinds", "_law_depth", "_law_kind", "_law_steps", "_law_k"]
abbrev P_L_program : List Str := ["_law_deck_here", "_law_ways_here", "_law_kinds", "_law_depth"]
abbrev s_L_condition : Stmt := top 41
abbrev N_L_condition : List Str := ["_law_deck_here", "_law_size", "_law_kinds", "_law_depth", "_law_kind", "_law_fields", "_law_first", "_law_k"]
abbrev P_L_condition : List Str := ["_law_deck_here", "_law_size", "_law_kinds", "_law_depth"]
abbrev s_L_rules : Stmt := top 42
abbrev N_L_rules : List Str := ["_law_deck_here", "_law_size", "_law_kinds", "_law_ways_here", "_law_programs", "_law_k", "_law_first", "_law_clauses"]
abbrev P_L_rules : List Str := ["_law_deck_here"]
abbrev s_L_game : Stmt := top 43
abbrev N_L_game : List Str := ["_law_rules_here"]
abbrev P_L_game : List Str := ["_law_rules_here"]
abbrev s_L_position : Stmt := top 44
abbrev N_L_position : List Str := ["_law_deck_here", "_law_rules_here", "_law_most", "_law_men", "_law_k", "_law_at"]
abbrev P_L_position : List Str := ["_law_deck_here", "_law_rules_here", "_law_most"]
abbrev s_L_step : Stmt := top 45
abbrev N_L_step : List Str := ["_law_rules_here", "_law_side", "_law_step_here", "_law_spot", "_law_man", "_law_word", "_law_field", "_law_fits"]
abbrev P_L_step : List Str := ["_law_rules_here", "_law_side", "_law_step_here", "_law_spot"]
abbrev s_L_spots : Stmt := top 46
abbrev N_L_spots : List Str := ["_law_rules_here", "_law_side", "_law_program_here", "_law_spots_here", "_law_found", "_law_part", "_law_last", "_law_turn", "_law_spot", "_law_end"]
abbrev P_L_spots : List Str := ["_law_rules_here", "_law_side", "_law_program_here", "_law_spots_here"]
abbrev s_L_moves : Stmt := top 47
abbrev N_L_moves : List Str := ["_law_rules_here", "_law_position_here", "_law_turn", "_law_men", "_law_found", "_law_start", "_law_man", "_law_lifted", "_law_program_here", "_law_spot", "_law_behind", "_law_taken", "_law_pair", "_law_k"]
abbrev P_L_moves : List Str := ["_law_rules_here", "_law_position_here"]
abbrev s_L_met : Stmt := top 48
abbrev N_L_met : List Str := ["_law_rules_here", "_law_position_here", "_law_condition_here", "_law_turn", "_law_men", "_law_word", "_law_side", "_law_man", "_law_field"]
abbrev P_L_met : List Str := ["_law_rules_here", "_law_position_here", "_law_condition_here"]
abbrev s_L_over : Stmt := top 49
abbrev N_L_over : List Str := ["_law_rules_here", "_law_position_here", "_law_clause"]
abbrev P_L_over : List Str := ["_law_rules_here", "_law_position_here"]
abbrev s_L_next : Stmt := top 50
abbrev N_L_next : List Str := ["_law_rules_here", "_law_position_here", "_law_pair"]
abbrev P_L_next : List Str := ["_law_rules_here", "_law_position_here"]
abbrev s_L_table : Stmt := top 51
abbrev N_L_table : List Str := ["_law_rules_here", "_law_positions", "_law_most", "_law_table_here", "_law_waiting", "_law_turn", "_law_position_here", "_law_other"]
abbrev P_L_table : List Str := ["_law_rules_here", "_law_positions", "_law_most"]
abbrev s_L_small : Stmt := top 52
abbrev N_L_small : List Str := ["_law_deck_here", "_law_most", "_law_turn", "_law_rules_here", "_law_starts", "_law_table_here", "_law_k"]
abbrev P_L_small : List Str := ["_law_deck_here", "_law_most"]
abbrev s_L_keeping : Stmt := top 53
abbrev N_L_keeping : List Str := ["_law_book", "_law_position_here", "_law_following", "_law_value", "_law_due", "_law_other"]
abbrev P_L_keeping : List Str := ["_law_book", "_law_position_here", "_law_following"]
abbrev s_L_played : Stmt := top 54
abbrev N_L_played : List Str := ["_law_deck_here", "_law_game_here", "_law_book", "_law_position_here", "_law_keeper", "_law_count", "_law_turn", "_law_following", "_law_chosen"]
abbrev P_L_played : List Str := ["_law_deck_here", "_law_game_here", "_law_book", "_law_position_here", "_law_keeper"]
abbrev s_law : Stmt := top 55
abbrev N_law : List Str := ["_law_script", "_law_deck_here", "_law_made", "_law_game_here", "_law_book", "_law_rows", "_law_turn", "_law_position_here", "_law_value", "_law_side", "_law_both", "_law_told", "_law_last"]
abbrev P_law : List Str := ["_law_script"]
theorem sc_man_of : FnScope N_man_of P_man_of (defScope s_man_of) := ⟨rfl, rfl, rfl, by decide +kernel, rfl, by decide +kernel, by decide +kernel⟩
theorem sc_side_of : FnScope N_side_of P_side_of (defScope s_side_of) := ⟨rfl, rfl, rfl, by decide +kernel, rfl, by decide +kernel, by decide +kernel⟩
theorem sc_kind_of : FnScope N_kind_of P_kind_of (defScope s_kind_of) := ⟨rfl, rfl, rfl, by decide +kernel, rfl, by decide +kernel, by decide +kernel⟩
theorem sc_with_man : FnScope N_with_man P_with_man (defScope s_with_man) := ⟨rfl, rfl, rfl, by decide +kernel, rfl, by decide +kernel, by decide +kernel⟩
theorem sc_is_as_told : FnScope N_is_as_told P_is_as_told (defScope s_is_as_told) := ⟨rfl, rfl, rfl, by decide +kernel, rfl, by decide +kernel, by decide +kernel⟩
theorem sc_step_ends : FnScope N_step_ends P_step_ends (defScope s_step_ends) := ⟨rfl, rfl, rfl, by decide +kernel, rfl, by decide +kernel, by decide +kernel⟩
theorem sc_row_ends : FnScope N_row_ends P_row_ends (defScope s_row_ends) := ⟨rfl, rfl, rfl, by decide +kernel, rfl, by decide +kernel, by decide +kernel⟩
theorem sc_any_ends : FnScope N_any_ends P_any_ends (defScope s_any_ends) := ⟨rfl, rfl, rfl, by decide +kernel, rfl, by decide +kernel, by decide +kernel⟩
theorem sc_program_ends : FnScope N_program_ends P_program_ends (defScope s_program_ends) := ⟨rfl, rfl, rfl, by decide +kernel, rfl, by decide +kernel, by decide +kernel⟩
theorem sc_spots : FnScope N_spots P_spots (defScope s_spots) := ⟨rfl, rfl, rfl, by decide +kernel, rfl, by decide +kernel, by decide +kernel⟩
theorem sc_program_of : FnScope N_program_of P_program_of (defScope s_program_of) := ⟨rfl, rfl, rfl, by decide +kernel, rfl, by decide +kernel, by decide +kernel⟩
theorem sc_man_runs : FnScope N_man_runs P_man_runs (defScope s_man_runs) := ⟨rfl, rfl, rfl, by decide +kernel, rfl, by decide +kernel, by decide +kernel⟩
theorem sc_runs : FnScope N_runs P_runs (defScope s_runs) := ⟨rfl, rfl, rfl, by decide +kernel, rfl, by decide +kernel, by decide +kernel⟩
theorem sc_moves : FnScope N_moves P_moves (defScope s_moves) := ⟨rfl, rfl, rfl, by decide +kernel, rfl, by decide +kernel, by decide +kernel⟩
theorem sc_after : FnScope N_after P_after (defScope s_after) := ⟨rfl, rfl, rfl, by decide +kernel, rfl, by decide +kernel, by decide +kernel⟩
theorem sc_has_man : FnScope N_has_man P_has_man (defScope s_has_man) := ⟨rfl, rfl, rfl, by decide +kernel, rfl, by decide +kernel, by decide +kernel⟩
theorem sc_holds : FnScope N_holds P_holds (defScope s_holds) := ⟨rfl, rfl, rfl, by decide +kernel, rfl, by decide +kernel, by decide +kernel⟩
theorem sc_end_ : FnScope N_end_ P_end_ (defScope s_end_) := ⟨rfl, rfl, rfl, by decide +kernel, rfl, by decide +kernel, by decide +kernel⟩
theorem sc_over_value : FnScope N_over_value P_over_value (defScope s_over_value) := ⟨rfl, rfl, rfl, by decide +kernel, rfl, by decide +kernel, by decide +kernel⟩
theorem sc_next_positions : FnScope N_next_positions P_next_positions (defScope s_next_positions) := ⟨rfl, rfl, rfl, by decide +kernel, rfl, by decide +kernel, by decide +kernel⟩
theorem sc_followers : FnScope N_followers P_followers (defScope s_followers) := ⟨rfl, rfl, rfl, by decide +kernel, rfl, by decide +kernel, by decide +kernel⟩
theorem sc_backwards : FnScope N_backwards P_backwards (defScope s_backwards) := ⟨rfl, rfl, rfl, by decide +kernel, rfl, by decide +kernel, by decide +kernel⟩
theorem sc_Solver_init : FnScope N_Solver_init P_Solver_init (defScope s_Solver_init) := ⟨rfl, rfl, rfl, by decide +kernel, rfl, by decide +kernel, by decide +kernel⟩
theorem sc_Solver_valued : FnScope N_Solver_valued P_Solver_valued (defScope s_Solver_valued) := ⟨rfl, rfl, rfl, by decide +kernel, rfl, by decide +kernel, by decide +kernel⟩
theorem sc_Solver_turn : FnScope N_Solver_turn P_Solver_turn (defScope s_Solver_turn) := ⟨rfl, rfl, rfl, by decide +kernel, rfl, by decide +kernel, by decide +kernel⟩
theorem sc_Solver_solve : FnScope N_Solver_solve P_Solver_solve (defScope s_Solver_solve) := ⟨rfl, rfl, rfl, by decide +kernel, rfl, by decide +kernel, by decide +kernel⟩
theorem sc_values_of : FnScope N_values_of P_values_of (defScope s_values_of) := ⟨rfl, rfl, rfl, by decide +kernel, rfl, by decide +kernel, by decide +kernel⟩
theorem sc_solve : FnScope N_solve P_solve (defScope s_solve) := ⟨rfl, rfl, rfl, by decide +kernel, rfl, by decide +kernel, by decide +kernel⟩
theorem sc_Board_init : FnScope N_Board_init P_Board_init (defScope s_Board_init) := ⟨rfl, rfl, rfl, by decide +kernel, rfl, by decide +kernel, by decide +kernel⟩
theorem sc_Game_init : FnScope N_Game_init P_Game_init (defScope s_Game_init) := ⟨rfl, rfl, rfl, by decide +kernel, rfl, by decide +kernel, by decide +kernel⟩
theorem sc_L_deck : FnScope N_L_deck P_L_deck (defScope s_L_deck) := ⟨rfl, rfl, rfl, by decide +kernel, rfl, by decide +kernel, by decide +kernel⟩
theorem sc_L_draw : FnScope N_L_draw P_L_draw (defScope s_L_draw) := ⟨rfl, rfl, rfl, by decide +kernel, rfl, by decide +kernel, by decide +kernel⟩
theorem sc_L_ways : FnScope N_L_ways P_L_ways (defScope s_L_ways) := ⟨rfl, rfl, rfl, by decide +kernel, rfl, by decide +kernel, by decide +kernel⟩
theorem sc_L_program : FnScope N_L_program P_L_program (defScope s_L_program) := ⟨rfl, rfl, rfl, by decide +kernel, rfl, by decide +kernel, by decide +kernel⟩
theorem sc_L_condition : FnScope N_L_condition P_L_condition (defScope s_L_condition) := ⟨rfl, rfl, rfl, by decide +kernel, rfl, by decide +kernel, by decide +kernel⟩
theorem sc_L_rules : FnScope N_L_rules P_L_rules (defScope s_L_rules) := ⟨rfl, rfl, rfl, by decide +kernel, rfl, by decide +kernel, by decide +kernel⟩
theorem sc_L_game : FnScope N_L_game P_L_game (defScope s_L_game) := ⟨rfl, rfl, rfl, by decide +kernel, rfl, by decide +kernel, by decide +kernel⟩
theorem sc_L_position : FnScope N_L_position P_L_position (defScope s_L_position) := ⟨rfl, rfl, rfl, by decide +kernel, rfl, by decide +kernel, by decide +kernel⟩
theorem sc_L_step : FnScope N_L_step P_L_step (defScope s_L_step) := ⟨rfl, rfl, rfl, by decide +kernel, rfl, by decide +kernel, by decide +kernel⟩
theorem sc_L_spots : FnScope N_L_spots P_L_spots (defScope s_L_spots) := ⟨rfl, rfl, rfl, by decide +kernel, rfl, by decide +kernel, by decide +kernel⟩
theorem sc_L_moves : FnScope N_L_moves P_L_moves (defScope s_L_moves) := ⟨rfl, rfl, rfl, by decide +kernel, rfl, by decide +kernel, by decide +kernel⟩
theorem sc_L_met : FnScope N_L_met P_L_met (defScope s_L_met) := ⟨rfl, rfl, rfl, by decide +kernel, rfl, by decide +kernel, by decide +kernel⟩
theorem sc_L_over : FnScope N_L_over P_L_over (defScope s_L_over) := ⟨rfl, rfl, rfl, by decide +kernel, rfl, by decide +kernel, by decide +kernel⟩
theorem sc_L_next : FnScope N_L_next P_L_next (defScope s_L_next) := ⟨rfl, rfl, rfl, by decide +kernel, rfl, by decide +kernel, by decide +kernel⟩
theorem sc_L_table : FnScope N_L_table P_L_table (defScope s_L_table) := ⟨rfl, rfl, rfl, by decide +kernel, rfl, by decide +kernel, by decide +kernel⟩
theorem sc_L_small : FnScope N_L_small P_L_small (defScope s_L_small) := ⟨rfl, rfl, rfl, by decide +kernel, rfl, by decide +kernel, by decide +kernel⟩
theorem sc_L_keeping : FnScope N_L_keeping P_L_keeping (defScope s_L_keeping) := ⟨rfl, rfl, rfl, by decide +kernel, rfl, by decide +kernel, by decide +kernel⟩
theorem sc_L_played : FnScope N_L_played P_L_played (defScope s_L_played) := ⟨rfl, rfl, rfl, by decide +kernel, rfl, by decide +kernel, by decide +kernel⟩
theorem sc_law : FnScope N_law P_law (defScope s_law) := ⟨rfl, rfl, rfl, by decide +kernel, rfl, by decide +kernel, by decide +kernel⟩
/-- a def of the top -/
structure D1 (K : PySem.W.Frag) (mg : Str → Option Value) (n : Str) (st : Stmt) (ps : List Str) where
  a : Addr
  fd : FuncData
  F : Fun K n n st a fd
  b : Binds K fd ps []
  m : mg n = some (.ref a)
  k : PySem.W.keepIn K (.ref a) = true
/-- a def of a class -/
structure M1 (K : PySem.W.Frag) (C : Addr) (n q : Str) (st : Stmt) (ps : List Str) where
  a : Addr
  fd : FuncData
  F : Fun K n q st a fd
  b : Binds K fd ps []
  m : Meth K C n a
/-- a class -/
structure C1 (K : PySem.W.Frag) (mg : Str → Option Value) (n : Str) (f : Addr) (C : Addr) : Prop where
  cl : Cls K C
  m : mg n = some (.ref C)
  mk1 : Mk K C f
structure Top (K : PySem.W.Frag) (mg : Str → Option Value) where
  man_of : D1 K mg "man_of" s_man_of P_man_of
  side_of : D1 K mg "side_of" s_side_of P_side_of
  kind_of : D1 K mg "kind_of" s_kind_of P_kind_of
  with_man : D1 K mg "with_man" s_with_man P_with_man
  is_as_told : D1 K mg "is_as_told" s_is_as_told P_is_as_told
  step_ends : D1 K mg "step_ends" s_step_ends P_step_ends
  row_ends : D1 K mg "row_ends" s_row_ends P_row_ends
  any_ends : D1 K mg "any_ends" s_any_ends P_any_ends
  program_ends : D1 K mg "program_ends" s_program_ends P_program_ends
  spots : D1 K mg "spots" s_spots P_spots
  program_of : D1 K mg "program_of" s_program_of P_program_of
  man_runs : D1 K mg "man_runs" s_man_runs P_man_runs
  runs : D1 K mg "runs" s_runs P_runs
  moves : D1 K mg "moves" s_moves P_moves
  after : D1 K mg "after" s_after P_after
  has_man : D1 K mg "has_man" s_has_man P_has_man
  holds : D1 K mg "holds" s_holds P_holds
  end_ : D1 K mg "end" s_end_ P_end_
  over_value : D1 K mg "over_value" s_over_value P_over_value
  next_positions : D1 K mg "next_positions" s_next_positions P_next_positions
  followers : D1 K mg "followers" s_followers P_followers
  backwards : D1 K mg "backwards" s_backwards P_backwards
  values_of : D1 K mg "values_of" s_values_of P_values_of
  solve : D1 K mg "solve" s_solve P_solve
  L_deck : D1 K mg "_law_deck" s_L_deck P_L_deck
  L_draw : D1 K mg "_law_draw" s_L_draw P_L_draw
  L_ways : D1 K mg "_law_ways" s_L_ways P_L_ways
  L_program : D1 K mg "_law_program" s_L_program P_L_program
  L_condition : D1 K mg "_law_condition" s_L_condition P_L_condition
  L_rules : D1 K mg "_law_rules" s_L_rules P_L_rules
  L_game : D1 K mg "_law_game" s_L_game P_L_game
  L_position : D1 K mg "_law_position" s_L_position P_L_position
  L_step : D1 K mg "_law_step" s_L_step P_L_step
  L_spots : D1 K mg "_law_spots" s_L_spots P_L_spots
  L_moves : D1 K mg "_law_moves" s_L_moves P_L_moves
  L_met : D1 K mg "_law_met" s_L_met P_L_met
  L_over : D1 K mg "_law_over" s_L_over P_L_over
  L_next : D1 K mg "_law_next" s_L_next P_L_next
  L_table : D1 K mg "_law_table" s_L_table P_L_table
  L_small : D1 K mg "_law_small" s_L_small P_L_small
  L_keeping : D1 K mg "_law_keeping" s_L_keeping P_L_keeping
  L_played : D1 K mg "_law_played" s_L_played P_L_played
  law : D1 K mg "law" s_law P_law
  c_Solver : Addr
  c_Board : Addr
  c_Game : Addr
  Solver_init_a : Addr
  Solver_init_fd : FuncData
  Solver_init_F : Fun K "__init__" "Solver.__init__" s_Solver_init Solver_init_a Solver_init_fd
  Solver_init_b : Binds K Solver_init_fd P_Solver_init []
  Solver_valued : M1 K c_Solver "valued" "Solver.valued" s_Solver_valued P_Solver_valued
  Solver_turn : M1 K c_Solver "turn" "Solver.turn" s_Solver_turn P_Solver_turn
  Solver_solve : M1 K c_Solver "solve" "Solver.solve" s_Solver_solve P_Solver_solve
  Board_init_a : Addr
  Board_init_fd : FuncData
  Board_init_F : Fun K "__init__" "Board.__init__" s_Board_init Board_init_a Board_init_fd
  Board_init_b : Binds K Board_init_fd P_Board_init []
  Game_init_a : Addr
  Game_init_fd : FuncData
  Game_init_F : Fun K "__init__" "Game.__init__" s_Game_init Game_init_a Game_init_fd
  Game_init_b : Binds K Game_init_fd P_Game_init []
  Solver : C1 K mg "Solver" Solver_init_a c_Solver
  Board : C1 K mg "Board" Board_init_a c_Board
  Game : C1 K mg "Game" Game_init_a c_Game
  n_Solver_table : NoAttr K c_Solver "table"
  n_Solver_book : NoAttr K c_Solver "book"
  n_Solver_before : NoAttr K c_Solver "before"
  n_Solver_unsettled : NoAttr K c_Solver "unsettled"
  n_Board_size : NoAttr K c_Board "size"
  n_Board_ways : NoAttr K c_Board "ways"
  n_Game_board : NoAttr K c_Game "board"
  n_Game_kinds : NoAttr K c_Game "kinds"
  n_Game_clauses : NoAttr K c_Game "clauses"
  n_Game_programs : NoAttr K c_Game "programs"
  z_len : mg "len" = none
  z_sorted : mg "sorted" = none
  z_range : mg "range" = none
  z_any : mg "any" = none
  z_tuple : mg "tuple" = none
  z_list : mg "list" = none
  z_int : mg "int" = none
  z_set : mg "set" = none
  z_enumerate : mg "enumerate" = none
  u_MOST : Value
  g_MOST : mg "MOST_POSITIONS" = some u_MOST
  r_MOST : RelV (.int 20000) u_MOST
  a_DRAWN : Addr
  g_DRAWN : mg "DRAWN" = some (.ref a_DRAWN)
  t_DRAWN : ∀ H, SqT K H a_DRAWN [.str wDrawn]
end Sk

/-! Sk: the game, in plain Lean. -/
namespace Sk
open PySem L2 PySem.Spec PyProof.Rows

inductive Pg
  | go (d : Int)
  | empty
  | own
  | foe
  | kin (k : Int)
  | take
  | lay (k : Int)
  | rest
  | row (ps : List Pg)
  | either (ps : List Pg)
  | any (p : Pg)
inductive Cond
  | lacks (foe : Bool) (k : Int)
  | holds (foe : Bool) (k : Int) (fs : List Int)
  | stuck
  | few (n : Int)
  | not (c : Cond)
  | and (c d : Cond)
  | or (c d : Cond)
inductive Res
  | won
  | lost
  | drawn
structure GD where
  n : Nat
  kd : Nat
  ways : List (List Int)
  clauses : List (Cond × Res)
  progs : List (Pg × Pg)

mutual
def Pg.hgt : Pg → Nat
  | .row ps => hgts ps + 1
  | .either ps => hgts ps + 1
  | .any p => p.hgt + 1
  | _ => 0
def hgts : List Pg → Nat
  | [] => 0
  | p :: ps => max p.hgt (hgts ps)
end
mutual
/-- how many ends there can be -/
def Pg.cnt : Pg → Nat
  | .row ps => cntR ps
  | .either ps => cntE ps
  | .any _ => 5
  | _ => 1
def cntR : List Pg → Nat
  | [] => 1
  | p :: ps => p.cnt * cntR ps
def cntE : List Pg → Nat
  | [] => 0
  | p :: ps => p.cnt + cntE ps
end
mutual
/-- neither the men nor the kind change -/
def Pg.still : Pg → Bool
  | .take => false
  | .lay _ => false
  | .row ps => stills ps
  | .either ps => stills ps
  | .any p => p.still
  | _ => true
def stills : List Pg → Bool
  | [] => true
  | p :: ps => p.still && stills ps
end
mutual
def Pg.ok (G : GD) : Pg → Prop
  | .go d => 0 ≤ d ∧ d < G.ways.length
  | .lay k => 0 ≤ k ∧ k < G.kd
  | .row ps => oks G ps
  | .either ps => oks G ps
  | .any p => p.still = true ∧ p.ok G
  | _ => True
def oks (G : GD) : List Pg → Prop
  | [] => True
  | p :: ps => p.ok G ∧ oks G ps
end
theorem oks_mem {G : GD} : ∀ {ps : List Pg}, oks G ps → ∀ p ∈ ps, p.ok G
  | [], _, _, h => by cases h
  | q :: ps, h, p, hp => by
    unfold oks at h
    rcases List.mem_cons.mp hp with e | e
    · subst e; exact h.1
    · exact oks_mem h.2 p e
theorem hgts_mem : ∀ {ps : List Pg} {p : Pg}, p ∈ ps → p.hgt ≤ hgts ps
  | [], _, h => by cases h
  | q :: ps, p, hp => by
    unfold hgts
    rcases List.mem_cons.mp hp with e | e
    · subst e; exact Nat.le_max_left _ _
    · exact Nat.le_trans (hgts_mem e) (Nat.le_max_right _ _)

def at0 (m : List Int) (f : Int) : Int := m.getD f.toNat 0
def setM (m : List Int) (f v : Int) : List Int := m.set f.toNat v
def sideOf (man : Int) : Int := (man - 1) % 2
def kindOf (man : Int) : Int := (man - 1) / 2
def told (side : Int) : Pg → Int → Bool
  | .empty, man => decide (man = 0)
  | .own, man => !decide (man = 0) && decide (sideOf man = side)
  | .foe, man => !decide (man = 0) && !decide (sideOf man = side)
  | .kin k, man => !decide (man = 0) && decide (kindOf man = k)
  | _, _ => false
def wayAt (G : GD) (d f : Int) : Int := (G.ways.getD d.toNat []).getD f.toNat (-1)
def stepE (G : GD) (side : Int) : Pg → Spot → List Spot
  | .rest, s => [s]
  | .go d, s => if wayAt G d s.f < 0 then [] else [⟨wayAt G d s.f, s.m, s.k⟩]
  | .lay k, s => [⟨s.f, s.m, k⟩]
  | .take, s => if at0 s.m s.f = 0 then [] else [⟨s.f, setM s.m s.f 0, s.k⟩]
  | .empty, s => if told side .empty (at0 s.m s.f) = true then [s] else []
  | .own, s => if told side .own (at0 s.m s.f) = true then [s] else []
  | .foe, s => if told side .foe (at0 s.m s.f) = true then [s] else []
  | .kin k, s => if told side (.kin k) (at0 s.m s.f) = true then [s] else []
  | .row _, _ => []
  | .either _, _ => []
  | .any _, _ => []
inductive Star {α : Type} (r : α → α → Prop) (a : α) : α → Prop
  | refl : Star r a a
  | tail {b c : α} : Star r a b → r b c → Star r a c
mutual
/-- where a program can end -/
def Ends (G : GD) (side : Int) : Pg → Spot → Spot → Prop
  | .row ps, a, b => EndsR G side ps a b
  | .either ps, a, b => EndsE G side ps a b
  | .any p, a, b => Star (fun x y => Ends G side p x y) a b
  | p, a, b => b ∈ stepE G side p a
def EndsR (G : GD) (side : Int) : List Pg → Spot → Spot → Prop
  | [], a, b => b = a
  | p :: ps, a, b => ∃ c, Ends G side p a c ∧ EndsR G side ps c b
def EndsE (G : GD) (side : Int) : List Pg → Spot → Spot → Prop
  | [], _, _ => False
  | p :: ps, a, b => Ends G side p a b ∨ EndsE G side ps a b
end

structure GOk (G : GD) : Prop where
  n2 : 2 ≤ G.n
  n5 : G.n ≤ 5
  k1 : 1 ≤ G.kd
  k2 : G.kd ≤ 2
  way : ∀ r ∈ G.ways, r.length = G.n ∧ ∀ x ∈ r, -1 ≤ x ∧ x < G.n
  few : G.ways.length ≤ 4
  pl : G.progs.length = G.kd
  pg : ∀ p ∈ G.progs, (p.1.ok G ∧ p.1.cnt ≤ 15 ∧ p.1.hgt ≤ 8) ∧ (p.2.ok G ∧ p.2.cnt ≤ 15 ∧ p.2.hgt ≤ 8)
structure MenOk (G : GD) (m : List Int) : Prop where
  len : m.length = G.n
  val : ∀ x ∈ m, 0 ≤ x ∧ x ≤ 2 * G.kd
structure SpotK (G : GD) (s : Spot) : Prop where
  men : MenOk G s.m
  few : full s.m ≤ 3
  f0 : 0 ≤ s.f
  f1 : s.f < G.n
  k0 : 0 ≤ s.k
  k1 : s.k < G.kd
structure PosOk (G : GD) (p : Psn) : Prop where
  men : MenOk G p.m
  few : full p.m ≤ 3
  t : p.t = 0 ∨ p.t = 1
section
variable {G : GD}
theorem SpotK.ok (g : GOk G) {s : Spot} (h : SpotK G s) : SpotOk G.n s :=
  ⟨h.men.len, fun x hx => by have := h.men.val x hx; have := g.k2; omega, h.few, h.f0, h.f1, h.k0, by have := h.k1; have := g.k2; omega⟩
theorem set_mem {m : List Int} {i : Nat} {v x : Int} (h : x ∈ m.set i v) : x ∈ m ∨ x = v := List.mem_or_eq_of_mem_set h
theorem MenOk.set {m : List Int} (h : MenOk G m) {f v : Int} (h0 : 0 ≤ v) (h1 : v ≤ 2 * G.kd) : MenOk G (setM m f v) :=
  ⟨by unfold setM; rw [List.length_set]; exact h.len, fun x hx => by
    rcases set_mem hx with e | e
    · exact h.val x e
    · rw [e]; exact ⟨h0, h1⟩⟩
theorem full_set0 : ∀ (m : List Int) (i : Nat), full (m.set i 0) ≤ full m
  | [], _ => by simp [full]
  | x :: m, 0 => by
    show full (0 :: m) ≤ full (x :: m)
    unfold full
    split <;> omega
  | x :: m, i + 1 => by
    have := full_set0 m i
    show full (x :: m.set i 0) ≤ full (x :: m)
    unfold full
    omega
theorem full_set0' : ∀ (m : List Int) (i : Nat), m.getD i 0 ≠ 0 → full (m.set i 0) + 1 = full m
  | [], _, h => by simp at h
  | x :: m, 0, h => by
    have h : x ≠ 0 := by simpa using h
    show full (0 :: m) + 1 = full (x :: m)
    unfold full
    rw [if_neg h]
    simp
    omega
  | x :: m, i + 1, h => by
    have := full_set0' m i (by simpa using h)
    show full (x :: m.set i 0) + 1 = full (x :: m)
    unfold full
    omega
theorem full_set (v : Int) : ∀ (m : List Int) (i : Nat), full (m.set i v) ≤ full m + 1
  | [], _ => by simp [full]
  | x :: m, 0 => by
    show full (v :: m) ≤ full (x :: m) + 1
    unfold full
    split <;> split <;> omega
  | x :: m, i + 1 => by
    have := full_set v m i
    show full (x :: m.set i v) ≤ full (x :: m) + 1
    unfold full
    omega
theorem step_ok (g : GOk G) {side : Int} {p : Pg} {s b : Spot} (hp : p.ok G) (h : SpotK G s) (hb : b ∈ stepE G side p s) : SpotK G b ∧ full b.m ≤ full s.m := by
  have same : b = s → SpotK G b ∧ full b.m ≤ full s.m := fun e => by subst e; exact ⟨h, Nat.le_refl _⟩
  cases p with
  | rest => exact same (List.mem_singleton.mp hb)
  | go d =>
    unfold Pg.ok at hp
    simp only [stepE] at hb
    split at hb
    · cases hb
    · rename_i c
      rw [List.mem_singleton] at hb
      subst hb
      refine ⟨⟨h.men, h.few, Int.not_lt.mp c, ?_, h.k0, h.k1⟩, Nat.le_refl _⟩
      have hd : d.toNat < G.ways.length := by omega
      have hr := g.way _ (List.getElem_mem hd)
      show wayAt G d s.f < G.n
      unfold wayAt
      have e1 : G.ways.getD d.toNat [] = G.ways[d.toNat] := by rw [List.getD_eq_getElem?_getD, List.getElem?_eq_getElem hd]; rfl
      rw [e1]
      have hf : s.f.toNat < (G.ways[d.toNat]).length := by rw [hr.1]; have := h.f0; have := h.f1; omega
      rw [List.getD_eq_getElem?_getD, List.getElem?_eq_getElem hf]
      exact (hr.2 _ (List.getElem_mem hf)).2
  | lay k =>
    unfold Pg.ok at hp
    simp only [stepE] at hb
    rw [List.mem_singleton] at hb
    subst hb
    exact ⟨⟨h.men, h.few, h.f0, h.f1, hp.1, hp.2⟩, Nat.le_refl _⟩
  | take =>
    simp only [stepE] at hb
    split at hb
    · cases hb
    · rw [List.mem_singleton] at hb
      subst hb
      have hl : full (setM s.m s.f 0) ≤ full s.m := full_set0 _ _
      exact ⟨⟨h.men.set (Int.le_refl 0) (by omega), Nat.le_trans hl h.few, h.f0, h.f1, h.k0, h.k1⟩, hl⟩
  | empty =>
    simp only [stepE] at hb
    split at hb
    · exact same (List.mem_singleton.mp hb)
    · cases hb
  | own =>
    simp only [stepE] at hb
    split at hb
    · exact same (List.mem_singleton.mp hb)
    · cases hb
  | foe =>
    simp only [stepE] at hb
    split at hb
    · exact same (List.mem_singleton.mp hb)
    · cases hb
  | kin k =>
    simp only [stepE] at hb
    split at hb
    · exact same (List.mem_singleton.mp hb)
    · cases hb
  | row ps => cases hb
  | either ps => cases hb
  | any p => cases hb
/-- the programs without others in them -/
def Pg.leaf : Pg → Bool
  | .row _ => false
  | .either _ => false
  | .any _ => false
  | _ => true
theorem ends_leaf {side : Int} {p : Pg} (hp : p.leaf = true) {a b : Spot} : Ends G side p a b ↔ b ∈ stepE G side p a := by
  cases p <;> first | (simp [Pg.leaf] at hp; done) | (unfold Ends; exact Iff.rfl)
mutual
theorem ends_ok (g : GOk G) {side : Int} : ∀ (p : Pg) (s b : Spot), p.ok G → SpotK G s → Ends G side p s b → SpotK G b ∧ full b.m ≤ full s.m
  | .row ps, s, b, hp, h, he => by
    unfold Ends at he
    unfold Pg.ok at hp
    exact endsR_ok g ps s b hp h he
  | .either ps, s, b, hp, h, he => by
    unfold Ends at he
    unfold Pg.ok at hp
    exact endsE_ok g ps s b hp h he
  | .any p, s, b, hp, h, he => by
    unfold Ends at he
    unfold Pg.ok at hp
    induction he with
    | refl => exact ⟨h, Nat.le_refl _⟩
    | tail _ h2 ih =>
      have z := ends_ok g p _ _ hp.2 ih.1 h2
      exact ⟨z.1, Nat.le_trans z.2 ih.2⟩
  | .go d, s, b, hp, h, he => step_ok g hp h ((ends_leaf rfl).mp he)
  | .empty, s, b, hp, h, he => step_ok g hp h ((ends_leaf rfl).mp he)
  | .own, s, b, hp, h, he => step_ok g hp h ((ends_leaf rfl).mp he)
  | .foe, s, b, hp, h, he => step_ok g hp h ((ends_leaf rfl).mp he)
  | .kin k, s, b, hp, h, he => step_ok g hp h ((ends_leaf rfl).mp he)
  | .take, s, b, hp, h, he => step_ok g hp h ((ends_leaf rfl).mp he)
  | .lay k, s, b, hp, h, he => step_ok g hp h ((ends_leaf rfl).mp he)
  | .rest, s, b, hp, h, he => step_ok g hp h ((ends_leaf rfl).mp he)
theorem endsR_ok (g : GOk G) {side : Int} : ∀ (ps : List Pg) (s b : Spot), oks G ps → SpotK G s → EndsR G side ps s b → SpotK G b ∧ full b.m ≤ full s.m
  | [], s, b, _, h, he => by
    unfold EndsR at he
    subst he
    exact ⟨h, Nat.le_refl _⟩
  | p :: ps, s, b, hp, h, he => by
    unfold EndsR at he
    unfold oks at hp
    obtain ⟨c, h1, h2⟩ := he
    have z := ends_ok g p s c hp.1 h h1
    have y := endsR_ok g ps c b hp.2 z.1 h2
    exact ⟨y.1, Nat.le_trans y.2 z.2⟩
theorem endsE_ok (g : GOk G) {side : Int} : ∀ (ps : List Pg) (s b : Spot), oks G ps → SpotK G s → EndsE G side ps s b → SpotK G b ∧ full b.m ≤ full s.m
  | [], s, b, _, h, he => by
    unfold EndsE at he
    exact he.elim
  | p :: ps, s, b, hp, h, he => by
    unfold EndsE at he
    unfold oks at hp
    rcases he with he | he
    · exact ends_ok g p s b hp.1 h he
    · exact endsE_ok g ps s b hp.2 h he
end
theorem step_still {side : Int} {p : Pg} {s b : Spot} (hp : p.still = true) (hb : b ∈ stepE G side p s) : b.m = s.m ∧ b.k = s.k := by
  cases p with
  | go d =>
    simp only [stepE] at hb
    split at hb
    · cases hb
    · rw [List.mem_singleton] at hb; subst hb; exact ⟨rfl, rfl⟩
  | take => simp [Pg.still] at hp
  | lay k => simp [Pg.still] at hp
  | rest => rw [List.mem_singleton.mp hb]; exact ⟨rfl, rfl⟩
  | row ps => cases hb
  | either ps => cases hb
  | any p => cases hb
  | _ =>
    simp only [stepE] at hb
    split at hb
    · rw [List.mem_singleton.mp hb]; exact ⟨rfl, rfl⟩
    · cases hb
mutual
theorem ends_still {side : Int} : ∀ (p : Pg) (s b : Spot), p.still = true → Ends G side p s b → b.m = s.m ∧ b.k = s.k
  | .row ps, s, b, hp, he => by
    unfold Ends at he
    unfold Pg.still at hp
    exact endsR_still ps s b hp he
  | .either ps, s, b, hp, he => by
    unfold Ends at he
    unfold Pg.still at hp
    exact endsE_still ps s b hp he
  | .any p, s, b, hp, he => by
    unfold Ends at he
    unfold Pg.still at hp
    induction he with
    | refl => exact ⟨rfl, rfl⟩
    | tail _ h2 ih =>
      have z := ends_still p _ _ hp h2
      exact ⟨z.1.trans ih.1, z.2.trans ih.2⟩
  | .go d, s, b, hp, he => step_still hp ((ends_leaf rfl).mp he)
  | .empty, s, b, hp, he => step_still hp ((ends_leaf rfl).mp he)
  | .own, s, b, hp, he => step_still hp ((ends_leaf rfl).mp he)
  | .foe, s, b, hp, he => step_still hp ((ends_leaf rfl).mp he)
  | .kin k, s, b, hp, he => step_still hp ((ends_leaf rfl).mp he)
  | .take, s, b, hp, he => step_still hp ((ends_leaf rfl).mp he)
  | .lay k, s, b, hp, he => step_still hp ((ends_leaf rfl).mp he)
  | .rest, s, b, hp, he => step_still hp ((ends_leaf rfl).mp he)
theorem endsR_still {side : Int} : ∀ (ps : List Pg) (s b : Spot), stills ps = true → EndsR G side ps s b → b.m = s.m ∧ b.k = s.k
  | [], s, b, _, he => by
    unfold EndsR at he
    subst he
    exact ⟨rfl, rfl⟩
  | p :: ps, s, b, hp, he => by
    unfold EndsR at he
    unfold stills at hp
    rw [Bool.and_eq_true] at hp
    obtain ⟨c, h1, h2⟩ := he
    have z := ends_still p s c hp.1 h1
    have y := endsR_still ps c b hp.2 h2
    exact ⟨y.1.trans z.1, y.2.trans z.2⟩
theorem endsE_still {side : Int} : ∀ (ps : List Pg) (s b : Spot), stills ps = true → EndsE G side ps s b → b.m = s.m ∧ b.k = s.k
  | [], s, b, _, he => by
    unfold EndsE at he
    exact he.elim
  | p :: ps, s, b, hp, he => by
    unfold EndsE at he
    unfold stills at hp
    rw [Bool.and_eq_true] at hp
    rcases he with he | he
    · exact ends_still p s b hp.1 he
    · exact endsE_still ps s b hp.2 he
end
theorem flat_le {α β : Type} (g : α → List β) (c : Nat) : ∀ l : List α, (∀ x ∈ l, (g x).length ≤ c) → (l.flatMap g).length ≤ l.length * c
  | [], _ => by simp
  | x :: l, h => by
    have h1 := h x List.mem_cons_self
    have h2 := flat_le g c l fun y hy => h y (List.mem_cons_of_mem _ hy)
    rw [List.flatMap_cons, List.length_append, List.length_cons, Nat.succ_mul]
    omega
open Classical in
/-- of each item its own list -/
theorem choose_flat {α β : Type} (P : α → β → Prop) (c : Nat) (l : List α) (h : ∀ x ∈ l, ∃ L : List β, L.length ≤ c ∧ ∀ y, P x y → y ∈ L) : ∃ L : List β, L.length ≤ l.length * c ∧ ∀ x ∈ l, ∀ y, P x y → y ∈ L := by
  induction l with
  | nil => exact ⟨[], by simp, fun x hx => by cases hx⟩
  | cons x l ih =>
    obtain ⟨L1, h1, p1⟩ := h x List.mem_cons_self
    obtain ⟨L2, h2, p2⟩ := ih fun y hy => h y (List.mem_cons_of_mem _ hy)
    refine ⟨L1 ++ L2, by rw [List.length_append, List.length_cons, Nat.succ_mul]; omega, fun z hz y hy => ?_⟩
    rcases List.mem_cons.mp hz with e | e
    · subst e; exact List.mem_append_left _ (p1 y hy)
    · exact List.mem_append_right _ (p2 z e y hy)
theorem step_len (side : Int) (p : Pg) (s : Spot) : (stepE G side p s).length ≤ 1 := by
  cases p <;> (simp only [stepE]; first | (split <;> simp) | simp)
mutual
theorem ends_few (g : GOk G) {side : Int} : ∀ (p : Pg) (s : Spot), p.ok G → SpotK G s → ∃ L : List Spot, L.length ≤ p.cnt ∧ ∀ b, Ends G side p s b → b ∈ L
  | .row ps, s, hp, h => by
    unfold Pg.ok at hp
    obtain ⟨L, h1, h2⟩ := endsR_few g (side := side) ps s hp h
    exact ⟨L, by unfold Pg.cnt; exact h1, fun b hb => h2 b (by unfold Ends at hb; exact hb)⟩
  | .either ps, s, hp, h => by
    unfold Pg.ok at hp
    obtain ⟨L, h1, h2⟩ := endsE_few g (side := side) ps s hp h
    exact ⟨L, by unfold Pg.cnt; exact h1, fun b hb => h2 b (by unfold Ends at hb; exact hb)⟩
  | .any p, s, hp, h => by
    refine ⟨(List.range 5).map fun (i : Nat) => ⟨(i : Int), s.m, s.k⟩, by unfold Pg.cnt; simp, fun b hb => ?_⟩
    have hs := ends_still (.any p) s b (by unfold Pg.ok at hp; unfold Pg.still; exact hp.1) hb
    have hk := (ends_ok g (.any p) s b hp h hb).1
    refine List.mem_map.mpr ⟨b.f.toNat, ?_, ?_⟩
    · have h0 := hk.f0; have h1 := hk.f1; have := g.n5
      rw [List.mem_range]
      omega
    · have h0 := hk.f0
      have e : ((b.f.toNat : Nat) : Int) = b.f := Int.toNat_of_nonneg h0
      rw [e, ← hs.1, ← hs.2]
  | .go d, s, hp, h => ⟨_, step_len side (.go d) s, fun b hb => (ends_leaf (G := G) rfl).mp hb⟩
  | .empty, s, hp, h => ⟨_, step_len side .empty s, fun b hb => (ends_leaf (G := G) rfl).mp hb⟩
  | .own, s, hp, h => ⟨_, step_len side .own s, fun b hb => (ends_leaf (G := G) rfl).mp hb⟩
  | .foe, s, hp, h => ⟨_, step_len side .foe s, fun b hb => (ends_leaf (G := G) rfl).mp hb⟩
  | .kin k, s, hp, h => ⟨_, step_len side (.kin k) s, fun b hb => (ends_leaf (G := G) rfl).mp hb⟩
  | .take, s, hp, h => ⟨_, step_len side .take s, fun b hb => (ends_leaf (G := G) rfl).mp hb⟩
  | .lay k, s, hp, h => ⟨_, step_len side (.lay k) s, fun b hb => (ends_leaf (G := G) rfl).mp hb⟩
  | .rest, s, hp, h => ⟨_, step_len side .rest s, fun b hb => (ends_leaf (G := G) rfl).mp hb⟩
theorem endsR_few (g : GOk G) {side : Int} : ∀ (ps : List Pg) (s : Spot), oks G ps → SpotK G s → ∃ L : List Spot, L.length ≤ cntR ps ∧ ∀ b, EndsR G side ps s b → b ∈ L
  | [], s, _, _ => ⟨[s], by unfold cntR; simp, fun b hb => by unfold EndsR at hb; rw [hb]; simp⟩
  | p :: ps, s, hp, h => by
    unfold oks at hp
    obtain ⟨L1, h1, p1⟩ := ends_few g (side := side) p s hp.1 h
    have h2 : ∀ c ∈ L1, ∃ L : List Spot, L.length ≤ cntR ps ∧ ∀ b, (Ends G side p s c ∧ EndsR G side ps c b) → b ∈ L := fun c _ => by
      by_cases hc : Ends G side p s c
      · obtain ⟨L, a1, a2⟩ := endsR_few g (side := side) ps c hp.2 (ends_ok g p s c hp.1 h hc).1
        exact ⟨L, a1, fun b hb => a2 b hb.2⟩
      · exact ⟨[], Nat.zero_le _, fun b hb => absurd hb.1 hc⟩
    obtain ⟨L, a1, a2⟩ := choose_flat _ _ L1 h2
    refine ⟨L, ?_, fun b hb => ?_⟩
    · unfold cntR
      exact Nat.le_trans a1 (Nat.mul_le_mul_right _ h1)
    · unfold EndsR at hb
      obtain ⟨c, q1, q2⟩ := hb
      exact a2 c (p1 c q1) b ⟨q1, q2⟩
theorem endsE_few (g : GOk G) {side : Int} : ∀ (ps : List Pg) (s : Spot), oks G ps → SpotK G s → ∃ L : List Spot, L.length ≤ cntE ps ∧ ∀ b, EndsE G side ps s b → b ∈ L
  | [], s, _, _ => ⟨[], Nat.zero_le _, fun b hb => by unfold EndsE at hb; exact hb.elim⟩
  | p :: ps, s, hp, h => by
    unfold oks at hp
    obtain ⟨L1, h1, p1⟩ := ends_few g (side := side) p s hp.1 h
    obtain ⟨L2, h2, p2⟩ := endsE_few g (side := side) ps s hp.2 h
    refine ⟨L1 ++ L2, by unfold cntE; rw [List.length_append]; omega, fun b hb => ?_⟩
    unfold EndsE at hb
    rcases hb with hb | hb
    · exact List.mem_append_left _ (p1 b hb)
    · exact List.mem_append_right _ (p2 b hb)
end
end
end Sk

/-! Sk: moves, in plain Lean. -/
namespace Sk
open PySem L2 PySem.Spec PyProof.Rows

/-- no list without repeats is longer than a list that holds its items -/
theorem nd_le {α : Type} : ∀ {l L : List α}, l.Nodup → (∀ x ∈ l, x ∈ L) → l.length ≤ L.length
  | [], _, _, _ => Nat.zero_le _
  | x :: l, L, nd, h => by
    rw [List.nodup_cons] at nd
    obtain ⟨a, b, e⟩ := List.append_of_mem (h x List.mem_cons_self)
    have h2 : ∀ y ∈ l, y ∈ a ++ b := fun y hy => by
      have z := h y (List.mem_cons_of_mem _ hy)
      rw [e] at z
      rcases List.mem_append.mp z with q | q
      · exact List.mem_append_left _ q
      · rcases List.mem_cons.mp q with r | r
        · subst r; exact absurd hy nd.1
        · exact List.mem_append_right _ r
    have z := nd_le nd.2 h2
    rw [e, List.length_append, List.length_cons (as := b)]
    rw [List.length_append] at z
    show l.length + 1 ≤ _
    omega

def manOf (side kind : Int) : Int := 1 + 2 * kind + side
/-- the places that the run has emptied -/
def gone (n : Nat) (a b : List Int) : List Int := ((List.range n).filter fun i => !decide (a.getD i 0 = b.getD i 0)).map fun (i : Nat) => (i : Int)
def progAt (G : GD) (man side : Int) : Pg := match G.progs[(kindOf man).toNat]? with
  | some p => if side = 0 then p.1 else p.2
  | none => .empty
/-- a man of the side stands at st -/
def Own (p : Psn) (st : Int) : Prop := ¬ at0 p.m st = 0 ∧ sideOf (at0 p.m st) = p.t
def liftS (p : Psn) (st : Int) : Spot := ⟨st, setM p.m st 0, kindOf (at0 p.m st)⟩
def behind (p : Psn) (s : Spot) : List Int := setM s.m s.f (manOf p.t s.k)
def mvOf (G : GD) (p : Psn) (st : Int) (s : Spot) : Mv := ⟨st, s.f, gone G.n (setM p.m st 0) s.m, s.k⟩
/-- a run of the man at st ends at s -/
def RunsTo (G : GD) (p : Psn) (st : Int) (s : Spot) : Prop := Ends G p.t (progAt G (at0 p.m st) p.t) (liftS p st) s ∧ at0 s.m s.f = 0 ∧ ¬ behind p s = p.m
def IsMv (G : GD) (p : Psn) (st : Int) (mv : Mv) : Prop := ∃ s, RunsTo G p st s ∧ mv = mvOf G p st s
def Moves (G : GD) (p : Psn) (mv : Mv) : Prop := ∃ st : Int, 0 ≤ st ∧ st < G.n ∧ Own p st ∧ IsMv G p st mv
def aft (p : Psn) (mv : Mv) : Psn := ⟨1 - p.t, setM (mv.t.foldl (fun m pl => setM m pl 0) (setM p.m mv.s 0)) mv.f (manOf p.t mv.k)⟩
def Nx (G : GD) (p q : Psn) : Prop := ∃ mv, Moves G p mv ∧ q = aft p mv

section
variable {G : GD}
theorem at0_mem {m : List Int} {f : Int} (h0 : 0 ≤ f) (h1 : f < m.length) : at0 m f ∈ m := by
  unfold at0
  have h : f.toNat < m.length := by omega
  rw [List.getD_eq_getElem?_getD, List.getElem?_eq_getElem h]
  exact List.getElem_mem h
theorem PosOk.at (h : PosOk G p) {st : Int} (h0 : 0 ≤ st) (h1 : st < G.n) : 0 ≤ at0 p.m st ∧ at0 p.m st ≤ 2 * G.kd := h.men.val _ (at0_mem h0 (by rw [h.men.len]; exact h1))
theorem kind_ok (h : PosOk G p) {st : Int} (h0 : 0 ≤ st) (h1 : st < G.n) (ho : ¬ at0 p.m st = 0) : 0 ≤ kindOf (at0 p.m st) ∧ kindOf (at0 p.m st) < G.kd := by
  have := h.at h0 h1
  unfold kindOf
  omega
theorem prog_ok (g : GOk G) (h : PosOk G p) {st : Int} (h0 : 0 ≤ st) (h1 : st < G.n) (ho : ¬ at0 p.m st = 0) : ∃ pp ∈ G.progs, G.progs[(kindOf (at0 p.m st)).toNat]? = some pp ∧ progAt G (at0 p.m st) p.t = (if p.t = 0 then pp.1 else pp.2) := by
  have hk := kind_ok h h0 h1 ho
  have hl : (kindOf (at0 p.m st)).toNat < G.progs.length := by rw [g.pl]; omega
  refine ⟨_, List.getElem_mem hl, List.getElem?_eq_getElem hl, ?_⟩
  unfold progAt
  rw [List.getElem?_eq_getElem hl]
theorem prog_facts (g : GOk G) (h : PosOk G p) {st : Int} (h0 : 0 ≤ st) (h1 : st < G.n) (ho : ¬ at0 p.m st = 0) : (progAt G (at0 p.m st) p.t).ok G ∧ (progAt G (at0 p.m st) p.t).cnt ≤ 15 ∧ (progAt G (at0 p.m st) p.t).hgt ≤ 8 := by
  obtain ⟨pp, hp, _, e⟩ := prog_ok g h h0 h1 ho
  have z := g.pg pp hp
  rw [e]
  split
  · exact z.1
  · exact z.2
theorem lift_ok (h : PosOk G p) {st : Int} (h0 : 0 ≤ st) (h1 : st < G.n) (ho : ¬ at0 p.m st = 0) : SpotK G (liftS p st) ∧ full (liftS p st).m + 1 = full p.m := by
  have hk := kind_ok h h0 h1 ho
  have hf : full (setM p.m st 0) + 1 = full p.m := full_set0' _ _ ho
  exact ⟨⟨h.men.set (Int.le_refl 0) (by omega), by have := h.few; show full (setM p.m st 0) ≤ 3; omega, h0, h1, hk.1, hk.2⟩, hf⟩
theorem full_nz {m : List Int} : ∀ (L : List Int), L.Nodup → (∀ i ∈ L, 0 ≤ i ∧ i < m.length ∧ ¬ at0 m i = 0) → L.length ≤ full m := by
  induction m with
  | nil =>
    intro L nd h
    cases L with
    | nil => exact Nat.zero_le _
    | cons x L => have := h x List.mem_cons_self; simp at this; omega
  | cons a m ih =>
    intro L nd h
    -- those above 0, one lower
    let L' := (L.filter fun i => !decide (i = 0)).map fun i => i - 1
    have nd' : L'.Nodup := by
      have q : (L.filter fun i => !decide (i = 0)).Nodup := nd.filter _
      exact List.Pairwise.map _ (fun x y hxy e => hxy (by omega)) q
    have h' : ∀ i ∈ L', 0 ≤ i ∧ i < m.length ∧ ¬ at0 m i = 0 := fun i hi => by
      obtain ⟨j, hj, e⟩ := List.mem_map.mp hi
      obtain ⟨hj1, hj2⟩ := List.mem_filter.mp hj
      have hj3 : ¬ j = 0 := by simpa using hj2
      obtain ⟨z0, z1, z2⟩ := h j hj1
      have z1' : j < (m.length : Int) + 1 := by simpa using z1
      refine ⟨by omega, by omega, ?_⟩
      unfold at0 at z2 ⊢
      have e2 : j.toNat = i.toNat + 1 := by omega
      rw [e2] at z2
      simpa using z2
    have z := ih L' nd' h'
    have hl : L'.length = (L.filter fun i => !decide (i = 0)).length := List.length_map _
    have hc : L.length ≤ (L.filter fun i => !decide (i = 0)).length + (if 0 ∈ L then 1 else 0) := by
      clear z hl h' nd' h ih
      induction L with
      | nil => simp
      | cons x L ih =>
        rw [List.nodup_cons] at nd
        have := ih nd.2
        by_cases e : x = 0
        · subst e
          have n0 : ¬ (0 : Int) ∈ L := nd.1
          rw [if_neg n0] at this
          simp
          omega
        · have e' : ¬ (0 : Int) = x := fun q => e q.symm
          rw [List.filter_cons_of_pos (by simp [e])]
          have q : (0 ∈ x :: L) = (0 ∈ L) := by simp [e']
          rw [List.length_cons, List.length_cons]
          simp only [q]
          omega
    unfold full
    by_cases m0 : (0 : Int) ∈ L
    · rw [if_pos m0] at hc
      have := (h 0 m0).2.2
      have e : ¬ a = 0 := by simpa [at0] using this
      rw [if_neg e]
      omega
    · rw [if_neg m0] at hc
      omega
theorem gone_len (n : Nat) (a b : List Int) : (gone n a b).length ≤ n := by
  unfold gone
  rw [List.length_map]
  exact Nat.le_trans (List.length_filter_le _ _) (by rw [List.length_range]; exact Nat.le_refl _)
theorem gone_mem {n : Nat} {a b : List Int} {x : Int} (h : x ∈ gone n a b) : 0 ≤ x ∧ x < n := by
  unfold gone at h
  obtain ⟨i, hi, e⟩ := List.mem_map.mp h
  have := List.mem_range.mp (List.mem_filter.mp hi).1
  omega
/-- few runs, few moves: all of them lie in a list of 45 -/
theorem runs_few (g : GOk G) (h : PosOk G p) : ∃ L : List (Int × Spot), L.length ≤ 45 ∧ ∀ (st : Int) (s : Spot), 0 ≤ st → st < G.n → Own p st → RunsTo G p st s → (st, s) ∈ L := by
  let S := ((List.range G.n).map fun (i : Nat) => (i : Int)).filter fun st => !decide (at0 p.m st = 0)
  have nd : S.Nodup := List.Pairwise.filter _ (List.Pairwise.map _ (fun x y hxy e => hxy (by omega)) List.nodup_range)
  have hS : S.length ≤ 3 := Nat.le_trans (full_nz S nd fun i hi => by
    obtain ⟨h1, h2⟩ := List.mem_filter.mp hi
    obtain ⟨j, hj, e⟩ := List.mem_map.mp h1
    have := List.mem_range.mp hj
    refine ⟨by omega, by rw [h.men.len]; omega, by simpa using h2⟩) h.few
  obtain ⟨L, h1, h2⟩ := choose_flat (fun (st : Int) (x : Int × Spot) => x.1 = st ∧ Ends G p.t (progAt G (at0 p.m st) p.t) (liftS p st) x.2) 15 S fun st hst => by
    obtain ⟨h1, h2⟩ := List.mem_filter.mp hst
    obtain ⟨j, hj, e⟩ := List.mem_map.mp h1
    have hj := List.mem_range.mp hj
    have ho : ¬ at0 p.m st = 0 := by simpa using h2
    have h0 : 0 ≤ st := by omega
    have hn : st < G.n := by omega
    obtain ⟨q1, q2, _⟩ := prog_facts g h h0 hn ho
    obtain ⟨L, a1, a2⟩ := ends_few g (side := p.t) _ _ q1 (lift_ok h h0 hn ho).1
    exact ⟨L.map fun s => (st, s), by rw [List.length_map]; exact Nat.le_trans a1 q2, fun y hy => List.mem_map.mpr ⟨y.2, a2 _ hy.2, by rw [← hy.1]⟩⟩
  refine ⟨L, Nat.le_trans h1 (Nat.mul_le_mul_right 15 hS), fun st s h0 hn ho hr => h2 st (List.mem_filter.mpr ⟨List.mem_map.mpr ⟨st.toNat, List.mem_range.mpr (by omega), by omega⟩, by simpa using ho.1⟩) (st, s) ⟨rfl, hr.1⟩⟩
theorem moves_few (g : GOk G) (h : PosOk G p) : ∃ L : List Mv, L.length ≤ 45 ∧ ∀ mv, Moves G p mv → mv ∈ L := by
  obtain ⟨L, h1, h2⟩ := runs_few g h
  refine ⟨L.map fun x => mvOf G p x.1 x.2, by rw [List.length_map]; exact h1, fun mv ⟨st, h0, hn, ho, s, hr, e⟩ => ?_⟩
  exact List.mem_map.mpr ⟨(st, s), h2 st s h0 hn ho hr, e.symm⟩
theorem fold0_ok {m : List Int} (h : MenOk G m) : ∀ (ts : List Int) , MenOk G (ts.foldl (fun m pl => setM m pl 0) m) ∧ full (ts.foldl (fun m pl => setM m pl 0) m) ≤ full m := by
  intro ts
  induction ts generalizing m with
  | nil => exact ⟨h, Nat.le_refl _⟩
  | cons t ts ih =>
    have z := ih (m := setM m t 0) (h.set (Int.le_refl 0) (by omega))
    exact ⟨z.1, Nat.le_trans z.2 (full_set0 _ _)⟩
theorem moves_fact (g : GOk G) (h : PosOk G p) {mv : Mv} (hm : Moves G p mv) : 0 ≤ mv.s ∧ mv.s < G.n ∧ 0 ≤ mv.f ∧ mv.f < G.n ∧ 0 ≤ mv.k ∧ mv.k < G.kd ∧ (∀ x ∈ mv.t, 0 ≤ x ∧ x < G.n) ∧ ¬ at0 p.m mv.s = 0 ∧ mv.t.length ≤ G.n := by
  obtain ⟨st, h0, hn, ho, s, hr, e⟩ := hm
  obtain ⟨q1, q2, _⟩ := prog_facts g h h0 hn ho.1
  have z := (ends_ok g _ _ _ q1 (lift_ok h h0 hn ho.1).1 hr.1).1
  subst e
  exact ⟨h0, hn, z.f0, z.f1, z.k0, z.k1, fun x hx => gone_mem hx, ho.1, gone_len _ _ _⟩
theorem aft_ok (g : GOk G) (h : PosOk G p) {mv : Mv} (hm : Moves G p mv) : PosOk G (aft p mv) := by
  obtain ⟨h0, hn, f0, f1, k0, k1, ht, ho, _⟩ := moves_fact g h hm
  have hl : MenOk G (setM p.m mv.s 0) := h.men.set (Int.le_refl 0) (by omega)
  have hf : full (setM p.m mv.s 0) + 1 = full p.m := full_set0' _ _ ho
  have z := fold0_ok hl mv.t
  have hv : 0 ≤ manOf p.t mv.k ∧ manOf p.t mv.k ≤ 2 * G.kd := by
    unfold manOf
    have := h.t
    omega
  refine ⟨z.1.set hv.1 hv.2, ?_, ?_⟩
  · have y := full_set (manOf p.t mv.k) (mv.t.foldl (fun m pl => setM m pl 0) (setM p.m mv.s 0)) mv.f.toNat
    have := h.few
    show full (List.set _ _ _) ≤ 3
    omega
  · have := h.t
    show 1 - p.t = 0 ∨ 1 - p.t = 1
    omega
theorem nx_ok (g : GOk G) (h : PosOk G p) {q : Psn} (hq : Nx G p q) : PosOk G q ∧ q.t = 1 - p.t := by
  obtain ⟨mv, hm, e⟩ := hq
  subst e
  exact ⟨aft_ok g h hm, rfl⟩
theorem nx_few (g : GOk G) (h : PosOk G p) : ∃ L : List Psn, L.length ≤ 45 ∧ ∀ q, Nx G p q → q ∈ L := by
  obtain ⟨L, h1, h2⟩ := moves_few g h
  exact ⟨L.map (aft p), by rw [List.length_map]; exact h1, fun q ⟨mv, hm, e⟩ => List.mem_map.mpr ⟨mv, h2 mv hm, e.symm⟩⟩
/-- all positions -/
def allMen : Nat → List (List Int)
  | 0 => [[]]
  | n + 1 => (allMen n).flatMap fun m => [0 :: m, 1 :: m, 2 :: m, 3 :: m, 4 :: m]
theorem allMen_len : ∀ n, (allMen n).length = 5 ^ n
  | 0 => rfl
  | n + 1 => by
    have ih := allMen_len n
    unfold allMen
    rw [Nat.pow_succ, ← ih]
    induction allMen n with
    | nil => rfl
    | cons x l ih => rw [List.flatMap_cons, List.length_append, ih]; simp; omega
theorem mem_allMen : ∀ m : List Int, (∀ x ∈ m, 0 ≤ x ∧ x ≤ 4) → m ∈ allMen m.length
  | [], _ => by simp [allMen]
  | x :: m, h => by
    have hx := h x List.mem_cons_self
    have ih := mem_allMen m fun y hy => h y (List.mem_cons_of_mem _ hy)
    refine List.mem_flatMap.mpr ⟨m, ih, ?_⟩
    have hx' : x = 0 ∨ x = 1 ∨ x = 2 ∨ x = 3 ∨ x = 4 := by omega
    rcases hx' with e | e | e | e | e <;> subst e <;> simp
def univ (G : GD) : List Psn := (allMen G.n).flatMap fun m => [⟨0, m⟩, ⟨1, m⟩]
theorem univ_len (g : GOk G) : (univ G).length ≤ 6250 := by
  have h := flat_le (fun m : List Int => [(⟨0, m⟩ : Psn), ⟨1, m⟩]) 2 (allMen G.n) fun _ _ => by simp
  have e := allMen_len G.n
  have : 5 ^ G.n ≤ 5 ^ 5 := Nat.pow_le_pow_right (by decide) g.n5
  have e5 : 5 ^ 5 = 3125 := by decide
  unfold univ
  omega
theorem mem_univ (g : GOk G) {p : Psn} (h : PosOk G p) : p ∈ univ G := by
  have hm := mem_allMen p.m fun x hx => by have := h.men.val x hx; have := g.k2; omega
  rw [h.men.len] at hm
  refine List.mem_flatMap.mpr ⟨p.m, hm, ?_⟩
  obtain ⟨t, m⟩ := p
  rcases h.t with e | e
  · have e : t = 0 := e
    subst e; simp
  · have e : t = 1 := e
    subst e; simp
end
end Sk

/-! Sk: programs, clauses, games as they stand on the heap. -/
namespace Sk
open PySem L2 PySem.Spec PyProof.Rows

inductive All2 {α : Type} (P : V → α → Prop) : List V → List α → Prop
  | nil : All2 P [] []
  | cons {v : V} {vs : List V} {b : α} {bs : List α} : P v b → All2 P vs bs → All2 P (v :: vs) (b :: bs)
section
variable {α : Type} {P Q : V → α → Prop} {vs ws : List V} {bs cs : List α}
theorem All2.mono (h : All2 P vs bs) (f : ∀ v b, P v b → Q v b) : All2 Q vs bs := by
  induction h with
  | nil => exact .nil
  | cons h1 _ ih => exact .cons (f _ _ h1) ih
theorem All2.length (h : All2 P vs bs) : vs.length = bs.length := by
  induction h with
  | nil => rfl
  | cons _ _ ih => simp [ih]
theorem All2.append (h : All2 P vs bs) (h' : All2 P ws cs) : All2 P (vs ++ ws) (bs ++ cs) := by
  induction h with
  | nil => exact h'
  | cons h1 _ ih => exact .cons h1 ih
theorem All2.snoc {v : V} {b : α} (h : All2 P vs bs) (h' : P v b) : All2 P (vs ++ [v]) (bs ++ [b]) := h.append (.cons h' .nil)
theorem All2.get (h : All2 P vs bs) : ∀ {i : Nat} {b : α}, bs[i]? = some b → ∃ v, vs[i]? = some v ∧ P v b := by
  induction h with
  | nil => intro i b e; simp at e
  | @cons v0 vs b0 bs h1 _ ih =>
    intro i b e
    cases i with
    | zero => simp at e; subst e; exact ⟨v0, rfl, h1⟩
    | succ i => simp at e; obtain ⟨v, e', r⟩ := ih e; exact ⟨v, by simpa using e', r⟩
theorem All2.get' (h : All2 P vs bs) : ∀ {i : Nat} {v : V}, vs[i]? = some v → ∃ b, bs[i]? = some b ∧ P v b := by
  induction h with
  | nil => intro i b e; simp at e
  | @cons v0 vs b0 bs h1 _ ih =>
    intro i b e
    cases i with
    | zero => simp at e; subst e; exact ⟨b0, rfl, h1⟩
    | succ i => simp at e; obtain ⟨v, e', r⟩ := ih e; exact ⟨v, by simpa using e', r⟩
end

abbrev wRow : Str := Str.ofString "row"
abbrev wEither : Str := Str.ofString "either"
abbrev wAny : Str := Str.ofString "any"
abbrev wGo : Str := Str.ofString "go"
abbrev wEmpty : Str := Str.ofString "empty"
abbrev wOwn : Str := Str.ofString "own"
abbrev wFoe : Str := Str.ofString "foe"
abbrev wAt : Str := Str.ofString "at"
abbrev wTake : Str := Str.ofString "take"
abbrev wLay : Str := Str.ofString "lay"
abbrev wRest : Str := Str.ofString "rest"
def Pg.word : Pg → Str
  | .go _ => wGo
  | .empty => wEmpty
  | .own => wOwn
  | .foe => wFoe
  | .kin _ => wAt
  | .take => wTake
  | .lay _ => wLay
  | .rest => wRest
  | .row _ => wRow
  | .either _ => wEither
  | .any _ => wAny
mutual
inductive PgR (K : PySem.W.Frag) (H : Hp) : V → Pg → Prop
  | one {a : Addr} {p : Pg} : SqT K H a [.str p.word] → (p = .empty ∨ p = .own ∨ p = .foe ∨ p = .take ∨ p = .rest) → PgR K H (.ref a) p
  | go {a : Addr} {d : Int} : SqT K H a [.str wGo, .int d] → PgR K H (.ref a) (.go d)
  | kin {a : Addr} {d : Int} : SqT K H a [.str wAt, .int d] → PgR K H (.ref a) (.kin d)
  | lay {a : Addr} {d : Int} : SqT K H a [.str wLay, .int d] → PgR K H (.ref a) (.lay d)
  | row {a l : Addr} {vs : List V} {ps : List Pg} : SqT K H a [.str wRow, .ref l] → SqL K H l vs → PgRs K H vs ps → PgR K H (.ref a) (.row ps)
  | either {a l : Addr} {vs : List V} {ps : List Pg} : SqT K H a [.str wEither, .ref l] → SqL K H l vs → PgRs K H vs ps → PgR K H (.ref a) (.either ps)
  | any {a : Addr} {v : V} {p : Pg} : SqT K H a [.str wAny, v] → PgR K H v p → PgR K H (.ref a) (.any p)
inductive PgRs (K : PySem.W.Frag) (H : Hp) : List V → List Pg → Prop
  | nil : PgRs K H [] []
  | cons {v : V} {vs : List V} {p : Pg} {ps : List Pg} : PgR K H v p → PgRs K H vs ps → PgRs K H (v :: vs) (p :: ps)
end
section
variable {K : PySem.W.Frag} {H H' : Hp}
theorem seqT (e : Same H H') {a : Addr} {xs : List V} (h : SqT K H a xs) : SqT K H' a xs := TK.same e a xs h
mutual
theorem PgR.same (e : Same H H') : ∀ (p : Pg) (v : V), PgR K H v p → PgR K H' v p
  | .go _, _, h => by
    cases h with
    | one h1 h2 => simp at h2
    | go h => exact .go (seqT e h)
  | .empty, _, h => by cases h with | one h1 h2 => exact .one (seqT e h1) h2
  | .own, _, h => by cases h with | one h1 h2 => exact .one (seqT e h1) h2
  | .foe, _, h => by cases h with | one h1 h2 => exact .one (seqT e h1) h2
  | .take, _, h => by cases h with | one h1 h2 => exact .one (seqT e h1) h2
  | .rest, _, h => by cases h with | one h1 h2 => exact .one (seqT e h1) h2
  | .kin _, _, h => by
    cases h with
    | one h1 h2 => simp at h2
    | kin h => exact .kin (seqT e h)
  | .lay _, _, h => by
    cases h with
    | one h1 h2 => simp at h2
    | lay h => exact .lay (seqT e h)
  | .row ps, _, h => by
    cases h with
    | one h1 h2 => simp at h2
    | row h1 h2 h3 => exact .row (seqT e h1) (e.seq h2) (PgRs.same e ps _ h3)
  | .either ps, _, h => by
    cases h with
    | one h1 h2 => simp at h2
    | either h1 h2 h3 => exact .either (seqT e h1) (e.seq h2) (PgRs.same e ps _ h3)
  | .any p, _, h => by
    cases h with
    | one h1 h2 => simp at h2
    | any h1 h2 => exact .any (seqT e h1) (PgR.same e p _ h2)
theorem PgRs.same (e : Same H H') : ∀ (ps : List Pg) (vs : List V), PgRs K H vs ps → PgRs K H' vs ps
  | [], _, h => by cases h; exact .nil
  | p :: ps, _, h => by
    cases h with
    | cons h1 h2 => exact .cons (PgR.same e p _ h1) (PgRs.same e ps _ h2)
end
theorem PgRs.all {vs : List V} {ps : List Pg} (h : PgRs K H vs ps) : All2 (PgR K H) vs ps := by
  induction ps generalizing vs with
  | nil => cases h; exact .nil
  | cons p ps ih => cases h with | cons h1 h2 => exact .cons h1 (ih h2)
theorem PgRs.of {vs : List V} {ps : List Pg} (h : All2 (PgR K H) vs ps) : PgRs K H vs ps := by
  induction h with
  | nil => exact .nil
  | cons h1 _ ih => exact .cons h1 ih
/-- the word is its first item -/
theorem PgR.word {v : V} {p : Pg} (h : PgR K H v p) : ∃ a r, v = .ref a ∧ SqT K H a (.str p.word :: r) := by
  cases h with
  | one h1 h2 => exact ⟨_, _, rfl, h1⟩
  | go h => exact ⟨_, _, rfl, h⟩
  | kin h => exact ⟨_, _, rfl, h⟩
  | lay h => exact ⟨_, _, rfl, h⟩
  | row h1 h2 h3 => exact ⟨_, _, rfl, h1⟩
  | either h1 h2 h3 => exact ⟨_, _, rfl, h1⟩
  | any h1 h2 => exact ⟨_, _, rfl, h1⟩
end

abbrev wLacks : Str := Str.ofString "lacks"
abbrev wFoelacks : Str := Str.ofString "foelacks"
abbrev wHolds : Str := Str.ofString "holds"
abbrev wFoeholds : Str := Str.ofString "foeholds"
abbrev wStuck : Str := Str.ofString "stuck"
abbrev wFew : Str := Str.ofString "few"
abbrev wNot : Str := Str.ofString "not"
abbrev wAnd : Str := Str.ofString "and"
abbrev wOr : Str := Str.ofString "or"
def Cond.word : Cond → Str
  | .lacks false _ => wLacks
  | .lacks true _ => wFoelacks
  | .holds false _ _ => wHolds
  | .holds true _ _ => wFoeholds
  | .stuck => wStuck
  | .few _ => wFew
  | .not _ => wNot
  | .and _ _ => wAnd
  | .or _ _ => wOr
def Cond.hgt : Cond → Nat
  | .not c => c.hgt + 1
  | .and c d => max c.hgt d.hgt + 1
  | .or c d => max c.hgt d.hgt + 1
  | _ => 0
inductive CoR (K : PySem.W.Frag) (H : Hp) : V → Cond → Prop
  | lacks {a : Addr} {f : Bool} {k : Int} : SqT K H a [.str (Cond.lacks f k).word, .int k] → CoR K H (.ref a) (.lacks f k)
  | holds {a l : Addr} {f : Bool} {k : Int} {fs : List Int} : SqT K H a [.str (Cond.holds f k fs).word, .int k, .ref l] → SqL K H l (fs.map .int) → CoR K H (.ref a) (.holds f k fs)
  | stuck {a : Addr} : SqT K H a [.str wStuck] → CoR K H (.ref a) .stuck
  | few {a : Addr} {n : Int} : SqT K H a [.str wFew, .int n] → CoR K H (.ref a) (.few n)
  | not {a : Addr} {v : V} {c : Cond} : SqT K H a [.str wNot, v] → CoR K H v c → CoR K H (.ref a) (.not c)
  | and {a : Addr} {u v : V} {c d : Cond} : SqT K H a [.str wAnd, u, v] → CoR K H u c → CoR K H v d → CoR K H (.ref a) (.and c d)
  | or {a : Addr} {u v : V} {c d : Cond} : SqT K H a [.str wOr, u, v] → CoR K H u c → CoR K H v d → CoR K H (.ref a) (.or c d)
theorem CoR.same {K : PySem.W.Frag} {H H' : Hp} (e : Same H H') {v : V} {c : Cond} (h : CoR K H v c) : CoR K H' v c := by
  induction h with
  | lacks h => exact .lacks (seqT e h)
  | holds h1 h2 => exact .holds (seqT e h1) (e.seq h2)
  | stuck h => exact .stuck (seqT e h)
  | few h => exact .few (seqT e h)
  | not h1 _ ih => exact .not (seqT e h1) ih
  | and h1 _ _ ih1 ih2 => exact .and (seqT e h1) ih1 ih2
  | or h1 _ _ ih1 ih2 => exact .or (seqT e h1) ih1 ih2
theorem CoR.word {K : PySem.W.Frag} {H : Hp} {v : V} {c : Cond} (h : CoR K H v c) : ∃ a r, v = .ref a ∧ SqT K H a (.str c.word :: r) := by
  cases h with
  | lacks h => exact ⟨_, _, rfl, h⟩
  | holds h1 h2 => exact ⟨_, _, rfl, h1⟩
  | stuck h => exact ⟨_, _, rfl, h⟩
  | few h => exact ⟨_, _, rfl, h⟩
  | not h1 _ => exact ⟨_, _, rfl, h1⟩
  | and h1 _ _ => exact ⟨_, _, rfl, h1⟩
  | or h1 _ _ => exact ⟨_, _, rfl, h1⟩
def Res.word : Res → Str
  | .won => wWon
  | .lost => wLost
  | .drawn => wDrawn
def Cond.ok (G : GD) : Cond → Prop
  | .holds _ _ fs => ∀ f ∈ fs, 0 ≤ f ∧ f < G.n
  | .not c => c.ok G
  | .and c d => c.ok G ∧ d.ok G
  | .or c d => c.ok G ∧ d.ok G
  | _ => True
/-- the numbers in a condition are small -/
def Cond.small : Cond → Prop
  | .lacks _ k => 0 ≤ k ∧ k ≤ 1
  | .holds _ k fs => (0 ≤ k ∧ k ≤ 1) ∧ fs.length ≤ 2
  | .few n => 0 ≤ n ∧ n ≤ 2
  | .not c => c.small
  | .and c d => c.small ∧ d.small
  | .or c d => c.small ∧ d.small
  | _ => True
structure ClOk (G : GD) : Prop where
  few : G.clauses.length ≤ 2
  each : ∀ c ∈ G.clauses, c.1.ok G ∧ c.1.small ∧ c.1.hgt ≤ 8

section
variable (K : PySem.W.Frag) (H : Hp)
def WayR (v : V) (r : List Int) : Prop := ∃ (a l : Addr) (x : Str), v = .ref a ∧ SqT K H a [.str x, .ref l] ∧ SqL K H l (r.map .int)
def ClR (v : V) (c : Cond × Res) : Prop := ∃ (a : Addr) (u : V), v = .ref a ∧ SqT K H a [u, .str c.2.word] ∧ CoR K H u c.1
def PpR (v : V) (p : Pg × Pg) : Prop := ∃ (a : Addr) (x y : V), v = .ref a ∧ SqT K H a [x, y] ∧ PgR K H x p.1 ∧ PgR K H y p.2
/-- the parts of a game -/
structure Parts (G : GD) (lw lc lp : Addr) : Prop where
  ways : ∃ vs, SqL K H lw vs ∧ All2 (WayR K H) vs G.ways
  clauses : ∃ vs, SqL K H lc vs ∧ All2 (ClR K H) vs G.clauses
  progs : ∃ vs, SqL K H lp vs ∧ All2 (PpR K H) vs G.progs
def bf (n : Int) (l : Addr) : List (Str × V) := [("size", .int n), ("ways", .ref l)]
def gf (b lk lc lp : Addr) : List (Str × V) := [("board", .ref b), ("kinds", .ref lk), ("clauses", .ref lc), ("programs", .ref lp)]
def GameAt (CG CB : Addr) (g : Addr) (G : GD) : Prop := ∃ (b lk lc lp lw dx dy : Addr), H g = some (.ins CG dx (gf b lk lc lp)) ∧ H b = some (.ins CB dy (bf G.n lw)) ∧ Parts K H G lw lc lp
def RulesAt (r : Addr) (G : GD) : Prop := ∃ (lw lk lc lp : Addr) (ks : List V), SqL K H r [.int G.n, .ref lw, .ref lk, .ref lc, .ref lp] ∧ SqL K H lk ks ∧ ks.length = G.kd ∧ Parts K H G lw lc lp
end
section
variable {K : PySem.W.Frag} {H H' : Hp} {G : GD}
theorem WayR.same (e : Same H H') {v : V} {r : List Int} (h : WayR K H v r) : WayR K H' v r := let ⟨a, l, x, e1, h1, h2⟩ := h; ⟨a, l, x, e1, seqT e h1, e.seq h2⟩
theorem ClR.same (e : Same H H') {v : V} {r : Cond × Res} (h : ClR K H v r) : ClR K H' v r := let ⟨a, x, e1, h1, h2⟩ := h; ⟨a, x, e1, seqT e h1, h2.same e⟩
theorem PpR.same (e : Same H H') {v : V} {r : Pg × Pg} (h : PpR K H v r) : PpR K H' v r := let ⟨a, x, y, e1, h1, h2, h3⟩ := h; ⟨a, x, y, e1, seqT e h1, h2.same e _ _, h3.same e _ _⟩
theorem Parts.same (e : Same H H') {lw lc lp : Addr} (h : Parts K H G lw lc lp) : Parts K H' G lw lc lp where
  ways := let ⟨vs, h1, h2⟩ := h.ways; ⟨vs, e.seq h1, h2.mono fun _ _ z => z.same e⟩
  clauses := let ⟨vs, h1, h2⟩ := h.clauses; ⟨vs, e.seq h1, h2.mono fun _ _ z => z.same e⟩
  progs := let ⟨vs, h1, h2⟩ := h.progs; ⟨vs, e.seq h1, h2.mono fun _ _ z => z.same e⟩
theorem GameAt.same {CG CB g : Addr} (e : Same H H') (h : GameAt K H CG CB g G) : GameAt K H' CG CB g G :=
  let ⟨b, lk, lc, lp, lw, dx, dy, h1, h2, h3⟩ := h
  ⟨b, lk, lc, lp, lw, dx, dy, e _ _ h1, e _ _ h2, h3.same e⟩
theorem RulesAt.same {r : Addr} (e : Same H H') (h : RulesAt K H r G) : RulesAt K H' r G :=
  let ⟨lw, lk, lc, lp, ks, h1, h2, h3, h4⟩ := h
  ⟨lw, lk, lc, lp, ks, e.seq h1, e.seq h2, h3, h4.same e⟩
theorem Rs.all {β : Type} [Enc β] {vs : List V} {bs : List β} (h : Rs K H vs bs) : All2 (R K H) vs bs := by
  induction h with
  | nil => exact .nil
  | cons h1 _ ih => exact .cons h1 ih
/-- a spot, a position at a -/
theorem R.same {β : Type} [Enc β] {v : V} {b : β} (e : Same H H') (h : R K H v b) : R K H' v b := h.fut (TK.same e)
theorem Rs.same {β : Type} [Enc β] {vs : List V} {bs : List β} (e : Same H H') (h : Rs K H vs bs) : Rs K H' vs bs := h.fut (TK.same e)
end
end Sk

/-! Sk: when a game is over, in plain Lean. -/
namespace Sk
open PySem L2 PySem.Spec PyProof.Rows
def sideFor (p : Psn) (foe : Bool) : Int := if foe = true then 1 - p.t else p.t
def Holds (G : GD) (p : Psn) : Cond → Prop
  | .lacks f k => ¬ manOf (sideFor p f) k ∈ p.m
  | .holds f k fs => ∃ x ∈ fs, at0 p.m x = manOf (sideFor p f) k
  | .stuck => ¬ ∃ mv, Moves G p mv
  | .few n => (full p.m : Int) ≤ n
  | .not c => ¬ Holds G p c
  | .and c d => Holds G p c ∧ Holds G p d
  | .or c d => Holds G p c ∨ Holds G p d
open Classical in
noncomputable def endF (G : GD) (p : Psn) : List (Cond × Res) → Option Res
  | [] => none
  | c :: cs => if Holds G p c.1 then some c.2 else endF G p cs
def resV : Option Res → V
  | none => .non
  | some r => .str r.word
def Res.over : Res → Val
  | .drawn => .drawn
  | .won => .val true 0
  | .lost => .val false 0
open Classical in
noncomputable def ovF (G : GD) (p : Psn) : Option Val := match endF G p G.clauses with
  | some r => some r.over
  | none => if ∃ mv, Moves G p mv then none else some (.val false 0)
theorem ovF_none {G : GD} {p : Psn} (h : endF G p G.clauses = none) : ((∃ mv, Moves G p mv) → ovF G p = none) ∧ ((¬ ∃ mv, Moves G p mv) → ovF G p = some (.val false 0)) := by
  unfold ovF
  rw [h]
  exact ⟨fun h => if_pos h, fun h => if_neg h⟩
theorem ovF_some {G : GD} {p : Psn} {r : Res} (h : endF G p G.clauses = some r) : ovF G p = some r.over := by
  unfold ovF
  rw [h]
/-- what follows p in the table -/
def NxE (G : GD) (p q : Psn) : Prop := endF G p G.clauses = none ∧ Nx G p q
def OvR (K : PySem.W.Frag) (H : Hp) (v : V) : Option Val → Prop
  | none => v = .non
  | some x => R K H v x
theorem full_eq (m : List Int) : full m = (m.filter fun x => !decide (x = 0)).length := by
  induction m with
  | nil => rfl
  | cons x m ih =>
    unfold full
    rw [ih]
    by_cases e : x = 0
    · rw [if_pos e, List.filter_cons_of_neg (by simp [e])]; omega
    · rw [if_neg e, List.filter_cons_of_pos (by simp [e]), List.length_cons]; omega
end Sk
namespace Sk
open PySem L2 PySem.Spec PyProof.Rows
open Classical in
/-- what follows p, sorted -/
noncomputable def nxF (G : GD) (p : Psn) : List Psn := if h : ∃ bs : List Psn, bs.Nodup ∧ ∀ q, q ∈ bs ↔ NxE G p q then srt (Classical.choose h) else []
theorem nxF_is {G : GD} {p : Psn} {bs : List Psn} (nd : bs.Nodup) (h : ∀ q, q ∈ bs ↔ NxE G p q) : nxF G p = srt bs := by
  have hx : ∃ bs : List Psn, bs.Nodup ∧ ∀ q, q ∈ bs ↔ NxE G p q := ⟨bs, nd, h⟩
  unfold nxF
  rw [dif_pos hx]
  have z := Classical.choose_spec hx
  exact srt_ext z.1 nd fun q => (z.2 q).trans (h q).symm
/-- the list of what follows: made from the list of 45 -/
theorem nxF_facts {G : GD} {p : Psn} (g : GOk G) (h : PosOk G p) : (nxF G p).Nodup ∧ (nxF G p).length ≤ 45 ∧ ∀ q, q ∈ nxF G p ↔ NxE G p q := by
  obtain ⟨L, hL1, hL2⟩ := nx_few g h
  have : ∃ bs : List Psn, bs.Nodup ∧ ∀ q, q ∈ bs ↔ NxE G p q := by
    clear hL1
    have key : ∀ L : List Psn, ∃ bs : List Psn, bs.Nodup ∧ ∀ q, q ∈ bs ↔ q ∈ L ∧ NxE G p q := by
      intro L
      induction L with
      | nil => exact ⟨[], List.nodup_nil, fun q => by simp⟩
      | cons x L ih =>
        obtain ⟨bs, n, e⟩ := ih
        by_cases c : x ∈ bs ∨ ¬ NxE G p x
        · refine ⟨bs, n, fun q => ?_⟩
          rw [e, List.mem_cons]
          constructor
          · rintro ⟨h1, h2⟩; exact ⟨.inr h1, h2⟩
          · rintro ⟨h1 | h1, h2⟩
            · subst h1
              rcases c with c | c
              · exact (e q).mp c
              · exact absurd h2 c
            · exact ⟨h1, h2⟩
        · have c1 : ¬ x ∈ bs := fun z => c (.inl z)
          have c2 : NxE G p x := Classical.byContradiction fun z => c (.inr z)
          refine ⟨x :: bs, List.nodup_cons.mpr ⟨c1, n⟩, fun q => ?_⟩
          rw [List.mem_cons, e, List.mem_cons]
          constructor
          · rintro (h1 | ⟨h1, h2⟩)
            · rw [h1]; exact ⟨.inl rfl, c2⟩
            · exact ⟨.inr h1, h2⟩
          · rintro ⟨h1 | h1, h2⟩
            · exact .inl h1
            · exact .inr ⟨h1, h2⟩
    obtain ⟨bs, n, e⟩ := key L
    exact ⟨bs, n, fun q => (e q).trans ⟨fun z => z.2, fun z => ⟨hL2 q z.2, z⟩⟩⟩
  obtain ⟨bs, n, e⟩ := this
  rw [nxF_is n e]
  refine ⟨srt_nd n, ?_, fun q => srt_mem.trans (e q)⟩
  rw [srt_len]
  exact Nat.le_trans (nd_le n fun q hq => hL2 q ((e q).mp hq).2) hL1
/-- where nothing is over there is a move -/
theorem nxF_some {G : GD} {p : Psn} (g : GOk G) (h : PosOk G p) (ho : ovF G p = none) : nxF G p ≠ [] := by
  cases hE : endF G p G.clauses with
  | some r => rw [ovF_some hE] at ho; cases ho
  | none =>
    have hm : ∃ mv, Moves G p mv := Classical.byContradiction fun z => by
      rw [(ovF_none hE).2 z] at ho
      cases ho
    obtain ⟨mv, hm⟩ := hm
    intro z
    have := ((nxF_facts g h).2.2 (aft p mv)).mpr ⟨hE, mv, hm, rfl⟩
    rw [z] at this
    cases this
/-- where it is over nothing follows -/
theorem nxF_over {G : GD} {p : Psn} (g : GOk G) (h : PosOk G p) {v : Val} (ho : ovF G p = some v) : nxF G p = [] := by
  have key : ∀ q, ¬ NxE G p q := fun q ⟨hE, mv, hm, _⟩ => by
    rw [(ovF_none hE).1 ⟨mv, hm⟩] at ho
    cases ho
  cases e : nxF G p with
  | nil => rfl
  | cons q r => exact absurd (((nxF_facts g h).2.2 q).mp (by rw [e]; exact List.mem_cons_self)) (key q)
theorem nxF_ok {G : GD} {p q : Psn} (g : GOk G) (h : PosOk G p) (hq : q ∈ nxF G p) : PosOk G q ∧ q.t = 1 - p.t := nx_ok g h (((nxF_facts g h).2.2 q).mp hq).2
theorem ovF_kind {G : GD} {p : Psn} {v : Val} (h : ovF G p = some v) : v = .drawn ∨ v = .val true 0 ∨ v = .val false 0 := by
  cases hE : endF G p G.clauses with
  | some r =>
    rw [ovF_some hE] at h
    have h := Option.some.inj h
    subst h
    cases r <;> simp [Res.over]
  | none =>
    by_cases c : ∃ mv, Moves G p mv
    · rw [(ovF_none hE).1 c] at h; cases h
    · rw [(ovF_none hE).2 c] at h; exact .inr (.inr (Option.some.inj h).symm)
end Sk

/-! Sk: rules in a shorter form. -/
namespace Sk
open PySem L2 PySem.Spec PyProof.Rows

theorem hu64 {A : Around} {k : Nat} (hr : Room k A) : A.units + 64 < cLine := hr.units
theorem hu65 {A : Around} {k : Nat} (hr : Room k A) : A.units + 65 < cLine := by have := hr.un; omega
section
variable {X : Cx}
/-- t + u, tuples: the sum stands somewhere -/
def rCatU (K : PySem.W.Frag) : R2 := fun x y H Q => ∃ a b xs ys, x = .ref a ∧ y = .ref b ∧ SqT K H a xs ∧ SqT K H b ys ∧ xs.length + ys.length ≤ sizeLine ∧ ∀ c H', Same H H' → SqT K H' c (xs ++ ys) → Q (.ref c) H'
theorem op_catU : OpR X (binaryOp .Add) (rCatU X.K) := by
  intro pins s σ H x y v u Q I rx ry h
  obtain ⟨a, b, xs, ys, e1, e2, h1, h2, hz, q⟩ := h
  refine op_catA pins s σ H x y v u Q I rx ry ⟨a, b, xs, ys, e1, e2, h1, h2, hz, fun e => q b H (fun _ _ z => z) ?_, fun _ e => q a H (fun _ _ z => z) ?_, fun _ _ p hp => q p _ (Same.new hp) (SqT.of upd_same)⟩
  · subst e; exact h2
  · subst e; rw [List.append_nil]; exact h1
def rSlU (K : PySem.W.Frag) : V → Option Int → Option Int → Hp → VK → Prop := fun x lo hi H Q => ∃ a xs, x = .ref a ∧ SqT K H a xs ∧ ∀ c H', Same H H' → SqT K H' c (cutV xs lo hi) → Q (.ref c) H'
theorem sl_tupU : SlR X (rSlU X.K) := by
  intro pins s σ H x v vl vu lo hi sl Q I rx hs pl pu h
  obtain ⟨a, xs, e, hx, q⟩ := h
  refine sl_tupA pins s σ H x v vl vu lo hi sl Q I rx hs pl pu ⟨a, xs, e, hx, fun hw => q a H (fun _ _ z => z) ?_, fun _ p hp => q p _ (Same.new hp) (SqT.of upd_same)⟩
  have e : cutV xs lo hi = xs := by
    unfold cutV
    rw [hw.1, hw.2]
    simp
  rw [e]
  exact hx
/-- a list that is made -/
def tLstU (t : TA) : TE := fun σ H Q => t σ H fun xs H1 => xs.length ≤ sizeLine ∧ ∀ p H', Same H1 H' → H1 p = none → H' p = some (.lst xs) → Q (.ref p) H'
end
theorem cut_lo (m : List V) (f : Nat) (h : f ≤ m.length) : cutV m none (some (f : Int)) = m.take f := by
  unfold cutV
  rw [HT.sIx_none, HT.sIx_nat, Nat.min_eq_left h]
  simp
theorem cut_hi (m : List V) (f : Nat) (h : f ≤ m.length) : cutV m (some (f : Int)) none = m.drop f := by
  unfold cutV
  rw [HT.sIx_none, HT.sIx_nat, Nat.min_eq_left h]
  rw [List.take_of_length_le (by rw [List.length_drop]; exact Nat.le_refl _)]
theorem cut_set {m : List Int} {f v : Int} (h0 : 0 ≤ f) (h1 : f < m.length) : cutV (m.map V.int) none (some f) ++ [V.int v] ++ cutV (m.map V.int) (some (f + 1)) none = (setM m f v).map V.int := by
  have ef : f = (f.toNat : Int) := by omega
  have ef1 : f + 1 = ((f.toNat + 1 : Nat) : Int) := by omega
  have hl : (m.map V.int).length = m.length := List.length_map _
  rw [ef1]
  rw [ef]
  rw [cut_lo _ _ (by rw [hl]; omega), cut_hi _ _ (by rw [hl]; omega)]
  unfold setM
  have e2 : ((f.toNat : Int)).toNat = f.toNat := Int.toNat_natCast _
  rw [e2]
  rw [List.set_eq_take_append_cons_drop, if_pos (by omega)]
  simp
theorem at_map {m : List Int} {f : Int} (h0 : 0 ≤ f) (h1 : f < m.length) : atI (m.map V.int) f = some (.int (at0 m f)) := by
  have ef : f = (f.toNat : Int) := by omega
  have hf : f.toNat < m.length := by omega
  rw [ef]
  refine atI_nat ?_
  unfold at0
  rw [Int.toNat_natCast, List.getElem?_map, List.getD_eq_getElem?_getD, List.getElem?_eq_getElem hf]
  rfl
theorem at_vs {vs : List V} {f : Int} {v : V} (h0 : 0 ≤ f) (h : vs[f.toNat]? = some v) : atI vs f = some v := by
  have ef : f = (f.toNat : Int) := by omega
  rw [ef]
  exact atI_nat h
/-- the fixed places of a tuple that is known -/
theorem at_0 {v : V} {r : List V} : atI (v :: r) 0 = some v := atI_nat (j := 0) rfl
theorem at_1 {u v : V} {r : List V} : atI (u :: v :: r) 1 = some v := atI_nat (j := 1) rfl
theorem at_2 {u v w : V} {r : List V} : atI (u :: v :: w :: r) 2 = some w := atI_nat (j := 2) rfl
theorem at_3 {u v w x : V} {r : List V} : atI (u :: v :: w :: x :: r) 3 = some x := atI_nat (j := 3) rfl
theorem at_4 {u v w x y : V} {r : List V} : atI (u :: v :: w :: x :: y :: r) 4 = some y := atI_nat (j := 4) rfl
theorem Same.rfl' {H : Hp} : Same H H := fun _ _ z => z
end Sk

/-! Sk: {k: v}, one pair, the key data made of tuples. -/
namespace Sk
open PySem L2 PySem.Spec PyProof.Rows
section
variable {X : Cx} (β : Type) [EncT β]
def tDisp1 (w : World) (K : PySem.W.Frag) (tk tv : TE) : TE := fun σ H Q => ∀ d, H d = none → ∀ ob0, DictAt w K (upd H d ob0) d ([] : List (β × V)) → tk σ (upd H d ob0) fun y H1 => tv σ H1 fun z H2 =>
  ∃ b : β, DictAt w K H2 d ([] : List (β × V)) ∧ R K H2 y b ∧ ∀ ob, DictAt w K (upd H2 d ob) d [(b, z)] → Q (.ref d) (upd H2 d ob)
theorem pe_disp1 {k v : Expr} {pos : Pos} {tk tv : TE} (hu : X.A.units + 64 < cLine) (hk : PE X k tk) (hv : PE X v tv) : PE X (.Dict [some k] [v] pos) (tDisp1 β X.w X.K tk tv) := by
  refine ⟨fun pins s σ H Q I h => ?_⟩
  rw [arm_eval_Dict, zip_pairTrees [some k] [v] X.env pos rfl rfl, dictDisplay_pairs _ (by simp [pairTrees]) (by simp [pairTrees])]
  refine wpAny_bind (wpAny_standAt (wpAny_bind ?_))
  unfold subDict
  obtain ⟨ob, I0, D0⟩ := dn_new β I
  refine wpAny_bind (wpAny_alloc ?_)
  refine wpAny_bind (wpAny_holding ?_)
  rw [if_pos (by simp [pairTrees])]
  refine wpAny_bind ?_
  refine pairTrees_cons_walk (thn (hk.run pins _ σ _ _ I0 (h _ (I.hok.fresh (Nat.le_refl _)) ob D0)) fun kv s1 ⟨y, H1, I1, r1, q1⟩ => thn (hv.run pins s1 σ H1 _ I1 q1) fun vv s2 ⟨z, H2, I2, r2, b, D2, hb, q2⟩ => pairTrees_nil_walk ?_)
  refine wpAny_holding ?_
  refine wpAny_bind ?_
  rw [List.forIn_cons]
  refine wpAny_bind (wpAny_bind (n_dictSet β (by show X.A.units + 64 < cLine; exact hu) I2 D2 hb r1 r2 (Nat.lt_of_lt_of_le (by decide : 0 < 1) (by decide)) fun ob2 s3 D3 I3 => wpAny_pure ?_))
  dsimp only
  rw [List.forIn_nil]
  exact wpAny_pure (wpAny_pure (wpAny_pure (wpAny_pure ⟨.ref s.heap.objs.size, _, I3, rfl, q2 ob2 D3⟩)))
end
end Sk

/-! Sk: keys of dicts, how many spots there are, ends of rows. -/
namespace Sk
open PySem L2 PySem.Spec PyProof.Rows
section
variable {β : Type} [Enc β]
abbrev keys (kvs : List (β × V)) : List β := kvs.map (·.1)
theorem keys_putK (kvs : List (β × V)) (b : β) (v : V) : (keys (putK kvs b v) = keys kvs ∧ b ∈ keys kvs) ∨ (keys (putK kvs b v) = keys kvs ++ [b] ∧ ¬ b ∈ keys kvs) := by
  cases z : valV kvs b with
  | none =>
    right
    have e : (kvs.any fun kv => decide (kv.1 = b)) = false := by rw [valV_any, z]; rfl
    refine ⟨?_, fun hb => ?_⟩
    · unfold putK
      rw [e]
      simp
    · obtain ⟨p, hp, e1⟩ := List.mem_map.mp hb
      have := List.any_eq_false.mp e p hp
      exact this (decide_eq_true e1)
  | some y =>
    left
    have e : (kvs.any fun kv => decide (kv.1 = b)) = true := by rw [valV_any, z]; rfl
    refine ⟨?_, ?_⟩
    · unfold putK
      rw [e]
      simp only [if_true]
      exact nd_map
    · obtain ⟨p, hp, e1⟩ := List.any_eq_true.mp e
      exact List.mem_map.mpr ⟨p, hp, of_decide_eq_true e1⟩
theorem mem_putK {kvs : List (β × V)} {b c : β} {v : V} : c ∈ keys (putK kvs b v) ↔ c ∈ keys kvs ∨ c = b := by
  rcases keys_putK kvs b v with ⟨e, h⟩ | ⟨e, h⟩
  · rw [e]
    constructor
    · exact .inl
    · rintro (h1 | h1)
      · exact h1
      · rw [h1]; exact h
  · rw [e, List.mem_append, List.mem_singleton]
theorem valV_isSome {kvs : List (β × V)} {b : β} : (valV kvs b).isSome = true ↔ b ∈ keys kvs := by
  rw [← valV_any, List.any_eq_true]
  constructor
  · rintro ⟨p, hp, e⟩; exact List.mem_map.mpr ⟨p, hp, of_decide_eq_true e⟩
  · intro h
    obtain ⟨p, hp, e⟩ := List.mem_map.mp h
    exact ⟨p, hp, decide_eq_true e⟩
theorem valV_putK {kvs : List (β × V)} {b c : β} {v : V} : valV (putK kvs b v) c = if c = b then some v else valV kvs c := by
  unfold putK
  split
  · rename_i h
    induction kvs with
    | nil => simp at h
    | cons p kvs ih =>
      rw [List.map_cons]
      by_cases e : p.1 = b
      · rw [if_pos e]
        by_cases e2 : c = b
        · rw [if_pos e2]
          show valV ((p.1, v) :: _) c = _
          rw [valV_pos (by rw [e, e2])]
        · rw [if_neg e2]
          have e3 : ¬ p.1 = c := fun z => e2 (by rw [← z, e])
          have q1 : valV (p :: kvs) c = valV kvs c := by show valV ((p.1, p.2) :: kvs) c = _; rw [valV_neg e3]
          try rw [q1]
          have e3' : ¬ ((p.1, v) : β × V).1 = c := e3
          rw [valV_neg e3']
          clear ih h q1
          induction kvs with
          | nil => rfl
          | cons q kvs ih2 =>
            rw [List.map_cons]
            by_cases e4 : q.1 = b
            · rw [if_pos e4]
              have e5 : ¬ q.1 = c := fun z => e2 (by rw [← z, e4])
              have e5' : ¬ ((q.1, v) : β × V).1 = c := e5
              rw [valV_neg e5', valV_neg e5]
              exact ih2
            · rw [if_neg e4]
              by_cases e5 : q.1 = c
              · rw [valV_pos e5, valV_pos e5]
              · rw [valV_neg e5, valV_neg e5]
                exact ih2
      · rw [if_neg e]
        have h' : (kvs.any fun kv => decide (kv.1 = b)) = true := by
          simp only [List.any_cons, decide_eq_false e, Bool.false_or] at h
          exact h
        by_cases e2 : p.1 = c
        · show valV ((p.1, p.2) :: _) c = _
          rw [valV_pos e2]
          have e3 : ¬ c = b := fun z => e (by rw [e2, z])
          rw [if_neg e3]
          show _ = valV ((p.1, p.2) :: kvs) c
          rw [valV_pos e2]
        · show valV ((p.1, p.2) :: _) c = _
          rw [valV_neg e2, ih h']
          show _ = if c = b then some v else valV ((p.1, p.2) :: kvs) c
          rw [valV_neg e2]
  · rename_i h
    have hn : ∀ p ∈ kvs, ¬ p.1 = b := fun p hp e => h (List.any_eq_true.mpr ⟨p, hp, decide_eq_true e⟩)
    clear h
    induction kvs with
    | nil =>
      show valV [(b, v)] c = _
      by_cases e : c = b
      · rw [if_pos e, valV_pos e.symm]
      · rw [if_neg e, valV_neg (fun z => e z.symm)]
    | cons p kvs ih =>
      have hp := hn p List.mem_cons_self
      have ih := ih fun q hq => hn q (List.mem_cons_of_mem _ hq)
      show valV ((p.1, p.2) :: (kvs ++ [(b, v)])) c = if c = b then some v else valV ((p.1, p.2) :: kvs) c
      by_cases e2 : p.1 = c
      · rw [valV_pos e2, valV_pos e2, if_neg fun z => hp (by rw [e2, z])]
      · rw [valV_neg e2, valV_neg e2]; exact ih
end
section
variable {β : Type} [EncT β]
theorem mem_putAll {c : β} : ∀ (more kvs : List (β × V)), c ∈ keys (putAll kvs more) ↔ c ∈ keys kvs ∨ c ∈ keys more
  | [], kvs => by simp [putAll]
  | p :: r, kvs => by
    have ih := mem_putAll (c := c) r (putK kvs p.1 p.2)
    show c ∈ keys (putAll (putK kvs p.1 p.2) r) ↔ _
    rw [ih, mem_putK]
    simp only [keys, List.map_cons, List.mem_cons]
    exact or_assoc
end
theorem apart_of {w : World} {G : GD} (g : GOk G) {kvs : List (Spot × V)} (nd : (keys kvs).Nodup) (h : ∀ b ∈ keys kvs, SpotK G b) : Apart w kvs := by
  have z := apart_spots (V := V) w g.n2 g.n5 nd fun b hb => (h b hb).ok g
  unfold Apart
  rw [List.map_map] at z
  exact z
/-- all spots -/
def univS (G : GD) : List Spot := spotsL G.n (allMen G.n)
theorem spotsL_len (ms : List (List Int)) : ∀ f, (spotsL f ms).length = f * (2 * ms.length)
  | 0 => by simp [spotsL]
  | f + 1 => by
    show (ms.map _ ++ (ms.map _ ++ spotsL f ms)).length = _
    rw [List.length_append, List.length_append, List.length_map, List.length_map, spotsL_len ms f, Nat.add_mul]
    omega
theorem spots_most {G : GD} (g : GOk G) {bs : List Spot} (nd : bs.Nodup) (h : ∀ b ∈ bs, SpotK G b) : bs.length ≤ 31250 := by
  have h1 : ∀ b ∈ bs, b ∈ univS G := fun b hb => by
    have hk := h b hb
    have ho := hk.ok g
    have hm := mem_allMen b.m fun x hx => ho.val x hx
    rw [ho.len] at hm
    exact mem_spotsL G.n ho.f0 ho.f1 ho.k0 ho.k1 hm
  have h2 := nd_le nd h1
  have e : (univS G).length = G.n * (2 * 5 ^ G.n) := by unfold univS; rw [spotsL_len, allMen_len]
  have h3 : 5 ^ G.n ≤ 5 ^ 5 := Nat.pow_le_pow_right (by decide) g.n5
  have e5 : 5 ^ 5 = 3125 := by decide
  have h4 : G.n * (2 * 5 ^ G.n) ≤ 5 * (2 * 3125) := Nat.mul_le_mul g.n5 (by omega)
  omega
theorem big {n : Nat} (h : n ≤ 1000000) : n ≤ sizeLine := by rw [sizeLine_eq]; omega
theorem big' {n : Nat} (h : n ≤ 1000000) : n < sizeLine := by rw [sizeLine_eq]; omega
section
variable {G : GD} {side : Int}
theorem endsR_snoc {p : Pg} : ∀ (ps : List Pg) {a b : Spot}, EndsR G side (ps ++ [p]) a b ↔ ∃ c, EndsR G side ps a c ∧ Ends G side p c b
  | [], a, b => by
    show EndsR G side [p] a b ↔ _
    simp only [EndsR]
    constructor
    · rintro ⟨c, h, e⟩; exact ⟨a, rfl, by rw [e]; exact h⟩
    · rintro ⟨c, e, h⟩; exact ⟨b, by rw [← e]; exact h, rfl⟩
  | q :: ps, a, b => by
    show EndsR G side (q :: (ps ++ [p])) a b ↔ _
    simp only [EndsR]
    constructor
    · rintro ⟨c, h, h2⟩
      obtain ⟨d, h3, h4⟩ := (endsR_snoc ps).mp h2
      exact ⟨d, ⟨c, h, h3⟩, h4⟩
    · rintro ⟨d, ⟨c, h, h3⟩, h4⟩
      exact ⟨c, h, (endsR_snoc ps).mpr ⟨d, h3, h4⟩⟩
theorem endsE_snoc {p : Pg} : ∀ (ps : List Pg) {a b : Spot}, EndsE G side (ps ++ [p]) a b ↔ EndsE G side ps a b ∨ Ends G side p a b
  | [], a, b => by
    show EndsE G side [p] a b ↔ _
    simp only [EndsE, or_false, false_or]
  | q :: ps, a, b => by
    show EndsE G side (q :: (ps ++ [p])) a b ↔ _
    simp only [EndsE]
    rw [endsE_snoc ps, or_assoc]
theorem oks_take {ps : List Pg} (h : oks G ps) : ∀ i, oks G (ps.take i) := by
  induction ps with
  | nil => intro i; rw [List.take_nil]; exact h
  | cons p ps ih =>
    intro i
    unfold oks at h
    cases i with
    | zero => unfold oks; trivial
    | succ i => rw [List.take_succ_cons]; unfold oks; exact ⟨h.1, ih h.2 i⟩
end
theorem take_one {α : Type} {l : List α} {i : Nat} {x : α} (h : l[i]? = some x) : l.take (i + 1) = l.take i ++ [x] := by rw [List.take_succ, h]; rfl
end Sk

/-! Sk: {..} over a walk. -/
namespace Sk
open PySem L2 PySem.Spec PyProof.Rows
section
variable {J : It} {n : Nat} {G : Hp → Prop} {Y : Nat → Hp → V → Hp → Prop}
theorem bk_it (w : Walk J n G Y) {g : TG} {tt : TT} {st : TSt} {vs : List Nat} {σ : L2.St} {H2 : Hp} {D : Addr} {Qd : Hp → Prop} (Pv : Nat → Hp → Prop) (h0 : Pv 0 H2) (hG : ∀ i H, i ≤ n → Pv i H → G H)
    (hs : ∀ i x H H', i < n → Pv i H → Y i H x H' → g x (wipe σ vs) H' fun σ2 H2 => wipe σ2 vs = wipe σ vs ∧ tt σ2 H2 fun b H3 => if b = true then st D σ2 H3 (Pv (i + 1)) else Pv (i + 1) H3) (hd : ∀ H, Pv n H → Qd H) :
    ∃ W : Nat → Nat → Hp → Prop, (∃ m, W 0 m H2) ∧ ∀ i m H, W i m H →
      (J.stop i H ∧ Qd H) ∨ (J.go i H ∧ ∃ Nx : Hp → Prop, (∀ H', Nx H' → ∃ m', m' < m ∧ W (i + 1) m' H') ∧ ∀ x H', J.yld i H x H' → g x (wipe σ vs) H' fun σ2 H2 => wipe σ2 vs = wipe σ vs ∧ tt σ2 H2 fun b H3 =>
        if b = true then st D σ2 H3 Nx else Nx H3) := by
  refine ⟨fun i m H => m = n - i ∧ i ≤ n ∧ Pv i H, ⟨n, by simp, Nat.zero_le _, h0⟩, ?_⟩
  rintro i m H ⟨rfl, hi, p⟩
  have q := hG i H hi p
  by_cases hlt : i < n
  · exact .inr ⟨w.goes i H hlt q, Pv (i + 1), fun H' p' => ⟨n - (i + 1), by omega, rfl, hlt, p'⟩, fun x H' y => hs i x H H' hlt p (w.yields i H x H' hlt q y)⟩
  · have e : i = n := by omega
    subst e
    exact .inl ⟨w.stops H q, hd H p⟩
end
/-- over a list that stands -/
theorem walkL {K : PySem.W.Frag} {a : Addr} {xs : List V} : Walk (Itl K a) xs.length (fun H => SqL K H a xs) (fun i H x H' => H' = H ∧ xs[i]? = some x) where
  goes i H hi h := ⟨xs, xs[i], h, by simp [hi]⟩
  stops H h := ⟨xs, h, Nat.le_refl _⟩
  yields i H x H' hi h y := ⟨y.1, y.2 xs h⟩
theorem walkT {K : PySem.W.Frag} {a : Addr} {xs : List V} : Walk (Itt K a) xs.length (fun H => SqT K H a xs) (fun i H x H' => H' = H ∧ xs[i]? = some x) where
  goes i H hi h := ⟨xs, xs[i], h, by simp [hi]⟩
  stops H h := ⟨xs, h, Nat.le_refl _⟩
  yields i H x H' hi h y := ⟨y.1, y.2 xs h⟩
theorem walkU {K : PySem.W.Frag} {a : Addr} {xs : List V} : Walk (ItU K a) xs.length (fun H => SqT K H a xs) (fun i H v H' => ∃ T x, v = .ref T ∧ H T = none ∧ H' = upd H T (.tup [.int (i : Nat), x]) ∧ xs[i]? = some x) where
  goes i H hi h := ⟨xs, xs[i], h, by simp [hi]⟩
  stops H h := ⟨xs, h, rfl⟩
  yields i H x H' hi h y := by
    obtain ⟨T, z, e, hn, e2, hx⟩ := y
    exact ⟨T, z, e, hn, e2, hx xs h⟩
end Sk

/-! Sk: rules whose reading names its K (for use within comprehensions). -/
namespace Sk
open PySem L2 PySem.Spec PyProof.Rows
section
variable {X : Cx} {K : PySem.W.Frag} {w : World}
theorem ix_listK (h : X.K = K) : IxR X (rIxL K) := h ▸ ix_list
theorem ix_tupK (h : X.K = K) : IxR X (rIxT K) := h ▸ ix_tup
theorem sl_listK (h : X.K = K) : SlR X (rSlL K) := h ▸ sl_list
theorem sl_tupK (h : X.K = K) : SlR X (rSlU K) := h ▸ sl_tupU
theorem op_catK (h : X.K = K) : OpR X (binaryOp .Add) (rCatU K) := h ▸ op_catU
theorem op_in_seqK (h : X.K = K) : OpR X (compareOp .In) (rIn K false) := h ▸ op_in_seq
theorem op_notIn_seqK (h : X.K = K) : OpR X (compareOp .NotIn) (rIn K true) := h ▸ op_notIn_seq
def rLenK (K : PySem.W.Frag) : List V → Hp → VK → Prop := fun xs H Q => ∃ p ys, xs = [.ref p] ∧ (SqL K H p ys ∨ SqT K H p ys) ∧ Q (.int ys.length) H
theorem call_len_seqK (h : X.K = K) : CallR X (.builtin "len") (rLenK K) := h ▸ call_len_seq
def rListK (K : PySem.W.Frag) : List V → Hp → VK → Prop := fun xs H Q => ∃ p ys, xs = [.ref p] ∧ (SqL K H p ys ∨ SqT K H p ys) ∧ ∀ l, H l = none → Q (.ref l) (upd H l (.lst ys))
theorem call_list_ofK (h : X.K = K) : CallR X (.type "list") (rListK K) := h ▸ call_list_of
theorem op_eqEK (β : Type) [Enc β] (h : X.K = K) (hu : X.A.units + 64 < cLine) : OpR X (compareOp .Eq) (rEqE β K) := h ▸ op_eqE β hu
theorem op_neEK (β : Type) [Enc β] (h : X.K = K) (hu : X.A.units + 64 < cLine) : OpR X (compareOp .NotEq) (rNeE β K) := h ▸ op_neE β hu
theorem op_inEK (β : Type) [Enc β] (h : X.K = K) (hu : X.A.units + 65 < cLine) : OpR X (compareOp .In) (rInE β K) := h ▸ op_inE β hu
theorem op_notInEK (β : Type) [Enc β] (h : X.K = K) (hu : X.A.units + 65 < cLine) : OpR X (compareOp .NotIn) (rNotInE β K) := h ▸ op_notInE β hu
theorem op_nInK (β : Type) [EncT β] (h : X.K = K) (hw : X.w = w) (hu : X.A.units + 64 < cLine) : OpR X (compareOp .In) (rNIn β w K) := h ▸ hw ▸ op_nIn β hu
theorem op_nNotInK (β : Type) [EncT β] (h : X.K = K) (hw : X.w = w) (hu : X.A.units + 64 < cLine) : OpR X (compareOp .NotIn) (rNNotIn β w K) := h ▸ hw ▸ op_nNotIn β hu
theorem pe_ngetK (β : Type) [EncT β] (h : X.K = K) (hw : X.w = w) {o i : Expr} {pos : Pos} {td ty : TE} (hu : X.A.units + 64 < cLine) (ho : PE X o td) (hi : PE X i ty) (hs : NoSl i) : PE X (.Subscript o i pos) (tNGet β w K td ty) := by
  subst h hw
  exact pe_nget β hu ho hi hs
end
end Sk

/-! Sk: valuing backwards, in plain Lean. -/
namespace Sk
open PySem L2 PySem.Spec PyProof.Rows
abbrev Bk := Psn → Option Val
def Bk.put (B : Bk) (p : Psn) (v : Val) : Bk := fun q => if q = p then some v else B q
theorem Bk.put_same {B : Bk} {p : Psn} {v : Val} : B.put p v p = some v := if_pos rfl
theorem Bk.put_ne {B : Bk} {p q : Psn} {v : Val} (h : ¬ q = p) : B.put p v q = B q := if_neg h
def Won (B : Bk) (q : Psn) : Prop := ∃ m, B q = some (.val true m)
open Classical in
/-- how many of what follows p are worked off and won -/
noncomputable def cntW (B : Bk) (PR : Psn → Psn → Prop) (p : Psn) (l : List Psn) : Nat := (l.filter fun q => decide (PR q p ∧ Won B q)).length
theorem cntW_le (B : Bk) (PR : Psn → Psn → Prop) (p : Psn) (l : List Psn) : cntW B PR p l ≤ l.length := List.length_filter_le _ _
open Classical in
theorem cntW_all {B : Bk} {PR : Psn → Psn → Prop} {p : Psn} {l : List Psn} (h : cntW B PR p l = l.length) : ∀ q ∈ l, PR q p ∧ Won B q := by
  intro q hq
  have z := List.length_filter_eq_length_iff.mp h q hq
  exact of_decide_eq_true z
open Classical in
theorem cntW_congr {B B' : Bk} {PR PR' : Psn → Psn → Prop} {p : Psn} {l : List Psn} (h : ∀ q ∈ l, (PR q p ∧ Won B q) ↔ (PR' q p ∧ Won B' q)) : cntW B PR p l = cntW B' PR' p l := by
  unfold cntW
  congr 1
  refine List.filter_congr fun q hq => ?_
  have := h q hq
  by_cases c : PR q p ∧ Won B q
  · rw [decide_eq_true c, decide_eq_true (this.mp c)]
  · rw [decide_eq_false c, decide_eq_false fun z => c (this.mpr z)]
open Classical in
theorem cntW_pos {B : Bk} {PR : Psn → Psn → Prop} {p x : Psn} {l : List Psn} (h : PR x p ∧ Won B x) : cntW B PR p (x :: l) = cntW B PR p l + 1 := by
  unfold cntW
  simp [List.filter_cons, h]
open Classical in
theorem cntW_neg {B : Bk} {PR : Psn → Psn → Prop} {p x : Psn} {l : List Psn} (h : ¬ (PR x p ∧ Won B x)) : cntW B PR p (x :: l) = cntW B PR p l := by
  unfold cntW
  have e : decide (PR x p ∧ Won B x) = false := decide_eq_false h
  simp only [List.filter_cons, e, Bool.false_eq_true, if_false]
/-- one more -/
theorem cntW_add {B B' : Bk} {PR PR' : Psn → Psn → Prop} {p q : Psn} : ∀ {l : List Psn}, l.Nodup → q ∈ l → ¬ (PR q p ∧ Won B q) → (PR' q p ∧ Won B' q) → (∀ r ∈ l, ¬ r = q → ((PR r p ∧ Won B r) ↔ (PR' r p ∧ Won B' r))) → cntW B' PR' p l = cntW B PR p l + 1
  | [], _, h, _, _, _ => by cases h
  | x :: l, nd, h, h1, h2, h3 => by
    rw [List.nodup_cons] at nd
    by_cases e : x = q
    · subst e
      have z : cntW B PR p l = cntW B' PR' p l := cntW_congr fun r hr => h3 r (List.mem_cons_of_mem _ hr) fun y => nd.1 (by rw [← y]; exact hr)
      rw [cntW_neg h1, cntW_pos h2, z]
    · have hq : q ∈ l := by
        rcases List.mem_cons.mp h with y | y
        · exact absurd y.symm e
        · exact y
      have z := cntW_add nd.2 hq h1 h2 fun r hr => h3 r (List.mem_cons_of_mem _ hr)
      have hx := h3 x List.mem_cons_self e
      by_cases c : PR x p ∧ Won B x
      · rw [cntW_pos (hx.mp c), cntW_pos c, z]
      · rw [cntW_neg fun y => c (hx.mpr y), cntW_neg c, z]
/-- the book while the rank r is at work: pairs that are worked off lie at ranks below r -/
structure BI0 (G : GD) (ts : List Psn) (B : Bk) (u : Psn → Int) (PR : Psn → Psn → Prop) (r : Int) : Prop where
  over : ∀ q ∈ ts, ∀ v, ovF G q = some v → B q = some v
  dom : ∀ q v, B q = some v → q ∈ ts
  won : ∀ p n, B p = some (.val true n) → ovF G p = none → 1 ≤ n ∧ ∃ q ∈ nxF G p, B q = some (.val false (n - 1))
  lost : ∀ p n, B p = some (.val false n) → ovF G p = none → 1 ≤ n ∧ (∀ q ∈ nxF G p, ∃ m, B q = some (.val true m) ∧ m ≤ n - 1) ∧ ∃ q ∈ nxF G p, B q = some (.val true (n - 1))
  drawn : ∀ p, B p = some .drawn → ovF G p = some .drawn
  nn : ∀ p w n, B p = some (.val w n) → 0 ≤ n
  P : ∀ q p, PR q p → q ∈ nxF G p ∧ p ∈ ts ∧ ∃ w m, m ≤ r - 1 ∧ B q = some (.val w m)
  L : ∀ q p m, PR q p → B q = some (.val false m) → B p ≠ none
  cnt : ∀ p ∈ ts, u p = (nxF G p).length - (cntW B PR p (nxF G p) : Int)
  pos : ∀ p ∈ ts, B p = none → u p ≠ 0
section
variable {G : GD} {ts : List Psn} {B : Bk} {u : Psn → Int} {PR : Psn → Psn → Prop} {r : Int}
/-- another pair; q is lost, p has no value yet -/
theorem BI0.lostNew (I : BI0 G ts B u PR r) (h1 : 1 ≤ r) {q p : Psn} (hq : q ∈ nxF G p) (hp : p ∈ ts) (hB : B q = some (.val false (r - 1))) (hn : B p = none) :
    BI0 G ts (B.put p (.val true r)) u (fun a b => PR a b ∨ (a = q ∧ b = p)) r := by
  have keep : ∀ {x : Psn} {v : Val}, B x = some v → B.put p (.val true r) x = some v := fun {x v} h => by rw [Bk.put_ne (fun e => by rw [e, hn] at h; cases h)]; exact h
  have back : ∀ {x : Psn} {v : Val}, B.put p (.val true r) x = some v → (x = p ∧ v = .val true r) ∨ (¬ x = p ∧ B x = some v) := fun {x v} h => by
    by_cases e : x = p
    · subst e; rw [Bk.put_same] at h; exact .inl ⟨rfl, (Option.some.inj h).symm⟩
    · rw [Bk.put_ne e] at h; exact .inr ⟨e, h⟩
  refine ⟨fun x hx v hv => keep (I.over x hx v hv), fun x v h => ?_, fun x n h ho => ?_, fun x n h ho => ?_, fun x h => ?_, fun x w n h => ?_, fun a b h => ?_, fun a b m h hb => ?_, fun x hx => ?_, fun x hx h => ?_⟩
  · rcases back h with ⟨e, _⟩ | ⟨_, h⟩
    · rw [e]; exact hp
    · exact I.dom x v h
  · rcases back h with ⟨e, ev⟩ | ⟨_, h⟩
    · injection ev with _ ev
      subst e ev
      exact ⟨h1, q, hq, keep hB⟩
    · obtain ⟨a, y, b, c⟩ := I.won x n h ho
      exact ⟨a, y, b, keep c⟩
  · rcases back h with ⟨_, ev⟩ | ⟨_, h⟩
    · injection ev with ev _
      cases ev
    · obtain ⟨a, b, y, c, d⟩ := I.lost x n h ho
      exact ⟨a, fun z hz => let ⟨m, e1, e2⟩ := b z hz; ⟨m, keep e1, e2⟩, y, c, keep d⟩
  · rcases back h with ⟨_, ev⟩ | ⟨_, h⟩
    · cases ev
    · exact I.drawn x h
  · rcases back h with ⟨_, ev⟩ | ⟨_, h⟩
    · injection ev with _ ev
      omega
    · exact I.nn x w n h
  · rcases h with h | ⟨e1, e2⟩
    · obtain ⟨a1, a2, w, m, a3, a4⟩ := I.P a b h
      exact ⟨a1, a2, w, m, a3, keep a4⟩
    · subst e1 e2
      exact ⟨hq, hp, false, r - 1, Int.le_refl _, keep hB⟩
  · by_cases e : b = p
    · rw [e, Bk.put_same]; simp
    · rw [Bk.put_ne e]
      rcases h with h | ⟨_, e2⟩
      · rcases back hb with ⟨_, ev⟩ | ⟨_, hb⟩
        · injection ev with ev _
          cases ev
        · exact I.L a b m h hb
      · exact absurd e2 e
  · rw [I.cnt x hx]
    have : cntW B PR x (nxF G x) = cntW (B.put p (.val true r)) (fun a b => PR a b ∨ (a = q ∧ b = p)) x (nxF G x) := by
      refine cntW_congr fun y hy => ?_
      constructor
      · rintro ⟨a, m, b⟩; exact ⟨.inl a, m, keep b⟩
      · rintro ⟨a, m, b⟩
        rcases a with a | ⟨a1, a2⟩
        · obtain ⟨_, _, w, m', _, b'⟩ := I.P y x a
          rw [keep b'] at b
          exact ⟨a, m, b'.trans b⟩
        · subst a1
          rw [keep hB] at b
          cases b
    rw [this]
  · by_cases e : x = p
    · rw [e, Bk.put_same] at h; cases h
    · rw [Bk.put_ne e] at h; exact I.pos x hx h
/-- another pair; q is lost, p has its value -/
theorem BI0.lostOld (I : BI0 G ts B u PR r) {q p : Psn} (hq : q ∈ nxF G p) (hp : p ∈ ts) (hB : B q = some (.val false (r - 1))) (hn : B p ≠ none) :
    BI0 G ts B u (fun a b => PR a b ∨ (a = q ∧ b = p)) r := by
  refine ⟨I.over, I.dom, I.won, I.lost, I.drawn, I.nn, fun a b h => ?_, fun a b m h hb => ?_, fun x hx => ?_, I.pos⟩
  · rcases h with h | ⟨e1, e2⟩
    · exact I.P a b h
    · subst e1 e2; exact ⟨hq, hp, false, r - 1, Int.le_refl _, hB⟩
  · rcases h with h | ⟨e1, e2⟩
    · exact I.L a b m h hb
    · subst e2; exact hn
  · rw [I.cnt x hx]
    have : cntW B PR x (nxF G x) = cntW B (fun a b => PR a b ∨ (a = q ∧ b = p)) x (nxF G x) := by
      refine cntW_congr fun y hy => ⟨fun ⟨a, b⟩ => ⟨.inl a, b⟩, fun ⟨a, b⟩ => ?_⟩
      rcases a with a | ⟨a1, a2⟩
      · exact ⟨a, b⟩
      · subst a1
        obtain ⟨m, b⟩ := b
        rw [hB] at b
        cases b
    rw [this]
/-- the count of p goes down by one; no value is given -/
theorem BI0.wonCnt (I : BI0 G ts B u PR r) {q p : Psn} (ok : ∀ p ∈ ts, (nxF G p).Nodup) (hq : q ∈ nxF G p) (hp : p ∈ ts) (hB : B q = some (.val true (r - 1))) (hPR : ¬ PR q p) (hz : B p = none → u p - 1 ≠ 0) :
    BI0 G ts B (fun x => if x = p then u p - 1 else u x) (fun a b => PR a b ∨ (a = q ∧ b = p)) r := by
  refine ⟨I.over, I.dom, I.won, I.lost, I.drawn, I.nn, fun a b h => ?_, fun a b m h hb => ?_, fun x hx => ?_, fun x hx h => ?_⟩
  · rcases h with h | ⟨e1, e2⟩
    · exact I.P a b h
    · subst e1 e2; exact ⟨hq, hp, true, r - 1, Int.le_refl _, hB⟩
  · rcases h with h | ⟨e1, e2⟩
    · exact I.L a b m h hb
    · subst e1; rw [hB] at hb; cases hb
  · by_cases e : x = p
    · subst e
      rw [if_pos rfl, I.cnt x hx]
      have := cntW_add (B := B) (B' := B) (PR := PR) (PR' := fun a b => PR a b ∨ (a = q ∧ b = x)) (p := x) (ok x hp) hq (fun z => hPR z.1) ⟨.inr ⟨rfl, rfl⟩, r - 1, hB⟩ fun y hy hne => ⟨fun ⟨a, b⟩ => ⟨.inl a, b⟩, fun ⟨a, b⟩ => by
        rcases a with a | ⟨a1, _⟩
        · exact ⟨a, b⟩
        · exact absurd a1 hne⟩
      rw [this]
      omega
    · rw [if_neg e, I.cnt x hx]
      have : cntW B PR x (nxF G x) = cntW B (fun a b => PR a b ∨ (a = q ∧ b = p)) x (nxF G x) := by
        refine cntW_congr fun y hy => ⟨fun ⟨a, b⟩ => ⟨.inl a, b⟩, fun ⟨a, b⟩ => ?_⟩
        rcases a with a | ⟨_, a2⟩
        · exact ⟨a, b⟩
        · exact absurd a2 e
      rw [this]
  · by_cases e : x = p
    · subst e; rw [if_pos rfl]; exact hz h
    · rw [if_neg e]; exact I.pos x hx h
/-- the count of p comes to nothing: p is lost -/
theorem BI0.wonNew (I : BI0 G ts B u PR r) (h1 : 1 ≤ r) {q p : Psn} (ok : ∀ p ∈ ts, (nxF G p).Nodup) (hq : q ∈ nxF G p) (hp : p ∈ ts) (hB : B q = some (.val true (r - 1))) (hPR : ¬ PR q p) (hz : u p - 1 = 0) (hn : B p = none) :
    BI0 G ts (B.put p (.val false r)) (fun x => if x = p then u p - 1 else u x) (fun a b => PR a b ∨ (a = q ∧ b = p)) r := by
  have hall : ∀ y ∈ nxF G p, (PR y p ∨ (y = q ∧ p = p)) ∧ Won B y := by
    refine cntW_all (B := B) (PR := fun a b => PR a b ∨ (a = q ∧ b = p)) ?_
    have := cntW_add (B := B) (B' := B) (PR := PR) (PR' := fun a b => PR a b ∨ (a = q ∧ b = p)) (p := p) (ok p hp) hq (fun z => hPR z.1) ⟨.inr ⟨rfl, rfl⟩, r - 1, hB⟩ fun y hy hne => ⟨fun ⟨a, b⟩ => ⟨.inl a, b⟩, fun ⟨a, b⟩ => by
      rcases a with a | ⟨a1, _⟩
      · exact ⟨a, b⟩
      · exact absurd a1 hne⟩
    have h2 := I.cnt p hp
    have h3 := cntW_le B PR p (nxF G p)
    omega
  have keep : ∀ {x : Psn} {v : Val}, B x = some v → B.put p (.val false r) x = some v := fun {x v} h => by rw [Bk.put_ne (fun e => by rw [e, hn] at h; cases h)]; exact h
  have back : ∀ {x : Psn} {v : Val}, B.put p (.val false r) x = some v → (x = p ∧ v = .val false r) ∨ (¬ x = p ∧ B x = some v) := fun {x v} h => by
    by_cases e : x = p
    · subst e; rw [Bk.put_same] at h; exact .inl ⟨rfl, (Option.some.inj h).symm⟩
    · rw [Bk.put_ne e] at h; exact .inr ⟨e, h⟩
  refine ⟨fun x hx v hv => keep (I.over x hx v hv), fun x v h => ?_, fun x n h ho => ?_, fun x n h ho => ?_, fun x h => ?_, fun x w n h => ?_, fun a b h => ?_, fun a b m h hb => ?_, fun x hx => ?_, fun x hx h => ?_⟩
  · rcases back h with ⟨e, _⟩ | ⟨_, h⟩
    · rw [e]; exact hp
    · exact I.dom x v h
  · rcases back h with ⟨_, ev⟩ | ⟨_, h⟩
    · injection ev with ev _
      cases ev
    · obtain ⟨a, y, b, c⟩ := I.won x n h ho
      exact ⟨a, y, b, keep c⟩
  · rcases back h with ⟨e, ev⟩ | ⟨_, h⟩
    · injection ev with _ ev
      subst e ev
      refine ⟨h1, fun y hy => ?_, q, hq, keep hB⟩
      obtain ⟨a, m, b⟩ := hall y hy
      refine ⟨m, keep b, ?_⟩
      rcases a with a | ⟨a, _⟩
      · obtain ⟨_, _, w', m', e1, e2⟩ := I.P y x a
        rw [e2] at b
        injection b with b
        injection b with _ b
        omega
      · subst a
        rw [hB] at b
        injection b with b
        injection b with _ b
        omega
    · obtain ⟨a, b, y, c, d⟩ := I.lost x n h ho
      exact ⟨a, fun z hz => let ⟨m, e1, e2⟩ := b z hz; ⟨m, keep e1, e2⟩, y, c, keep d⟩
  · rcases back h with ⟨_, ev⟩ | ⟨_, h⟩
    · cases ev
    · exact I.drawn x h
  · rcases back h with ⟨_, ev⟩ | ⟨_, h⟩
    · injection ev with _ ev
      omega
    · exact I.nn x w n h
  · rcases h with h | ⟨e1, e2⟩
    · obtain ⟨a1, a2, w, m, a3, a4⟩ := I.P a b h
      exact ⟨a1, a2, w, m, a3, keep a4⟩
    · subst e1 e2
      exact ⟨hq, hp, true, r - 1, Int.le_refl _, keep hB⟩
  · by_cases e : b = p
    · rw [e, Bk.put_same]; simp
    · rw [Bk.put_ne e]
      rcases h with h | ⟨_, e2⟩
      · obtain ⟨_, _, w', m', _, e2⟩ := I.P a b h
        rw [keep e2] at hb
        exact I.L a b m h (e2.trans hb)
      · exact absurd e2 e
  · have hw : ∀ y : Psn, (PR y x ∧ Won (B.put p (.val false r)) y) ↔ (PR y x ∧ Won B y) := fun y => by
      constructor
      · rintro ⟨a, m, b⟩
        obtain ⟨_, _, w', m', _, e2⟩ := I.P y x a
        rw [keep e2] at b
        exact ⟨a, m, e2.trans b⟩
      · rintro ⟨a, m, b⟩; exact ⟨a, m, keep b⟩
    by_cases e : x = p
    · subst e
      rw [if_pos rfl, I.cnt x hx]
      have := cntW_add (B := B) (B' := B.put x (.val false r)) (PR := PR) (PR' := fun a b => PR a b ∨ (a = q ∧ b = x)) (p := x) (ok x hp) hq (fun z => hPR z.1) ⟨.inr ⟨rfl, rfl⟩, r - 1, keep hB⟩ fun y hy hne => by
        rw [← hw]
        exact ⟨fun ⟨a, b⟩ => ⟨.inl a, b⟩, fun ⟨a, b⟩ => by
          rcases a with a | ⟨a1, _⟩
          · exact ⟨a, b⟩
          · exact absurd a1 hne⟩
      rw [this]
      omega
    · rw [if_neg e, I.cnt x hx]
      have : cntW B PR x (nxF G x) = cntW (B.put p (.val false r)) (fun a b => PR a b ∨ (a = q ∧ b = p)) x (nxF G x) := by
        refine cntW_congr fun y hy => ?_
        rw [← hw]
        refine ⟨fun ⟨a, b⟩ => ⟨.inl a, b⟩, fun ⟨a, b⟩ => ?_⟩
        rcases a with a | ⟨_, a2⟩
        · exact ⟨a, b⟩
        · exact absurd a2 e
      rw [this]
  · by_cases e : x = p
    · rw [e, Bk.put_same] at h; cases h
    · rw [Bk.put_ne e] at h
      rw [if_neg e]
      exact I.pos x hx h
theorem BI0.rel (I : BI0 G ts B u PR r) {PR' : Psn → Psn → Prop} (h : ∀ a b, PR a b ↔ PR' a b) : BI0 G ts B u PR' r := by
  have : PR = PR' := by funext a b; exact propext (h a b)
  rw [← this]
  exact I
theorem BI0.next (I : BI0 G ts B u PR r) {r' : Int} (h : r ≤ r') : BI0 G ts B u PR r' := { I with P := fun q p hq => let ⟨a, b, w, m, c, d⟩ := I.P q p hq; ⟨a, b, w, m, by omega, d⟩ }
/-- the whole book: what is known of its values -/
structure Book (G : GD) (ts : List Psn) (V : Psn → Val) : Prop where
  over : ∀ p ∈ ts, ∀ v, ovF G p = some v → V p = v
  won : ∀ p ∈ ts, ∀ n, V p = .val true n → ovF G p = none → 1 ≤ n ∧ ∃ q ∈ nxF G p, V q = .val false (n - 1)
  lost : ∀ p ∈ ts, ∀ n, V p = .val false n → ovF G p = none → 1 ≤ n ∧ (∀ q ∈ nxF G p, ∃ m, V q = .val true m ∧ m ≤ n - 1) ∧ ∃ q ∈ nxF G p, V q = .val true (n - 1)
  drawn : ∀ p ∈ ts, V p = .drawn → ovF G p = none → (∀ q ∈ nxF G p, ∀ n, ¬ V q = .val false n) ∧ ∃ q ∈ nxF G p, V q = .drawn
  nn : ∀ p ∈ ts, ∀ w n, V p = .val w n → 0 ≤ n
open Classical in
theorem BI0.book (I : BI0 G ts B u PR r) (cl : ∀ q ∈ ts, ∀ s ∈ nxF G q, s ∈ ts) (full : ∀ q w m, B q = some (.val w m) → ∀ p ∈ ts, q ∈ nxF G p → PR q p) : Book G ts (fun p => (B p).getD .drawn) := by
  have get : ∀ {p : Psn} {v : Val}, (B p).getD .drawn = v → v ≠ .drawn → B p = some v := fun {p v} h hne => by
    cases e : B p with
    | none => rw [e] at h; exact absurd h.symm hne
    | some x => rw [e] at h; rw [← h]; rfl
  refine ⟨fun p hp v hv => by show (B p).getD .drawn = v; rw [I.over p hp v hv]; rfl, fun p hp n h ho => ?_, fun p hp n h ho => ?_, fun p hp h ho => ?_, fun p hp w n h => I.nn p w n (get h (by simp))⟩
  · obtain ⟨a, q, b, c⟩ := I.won p n (get h (by simp)) ho
    exact ⟨a, q, b, by show (B q).getD .drawn = _; rw [c]; rfl⟩
  · obtain ⟨a, b, q, c, d⟩ := I.lost p n (get h (by simp)) ho
    exact ⟨a, fun q hq => let ⟨m, e1, e2⟩ := b q hq; ⟨m, by show (B q).getD .drawn = _; rw [e1]; rfl, e2⟩, q, c, by show (B q).getD .drawn = _; rw [d]; rfl⟩
  · have hBn : B p = none := by
      cases e : B p with
      | none => rfl
      | some x =>
        have h : (B p).getD .drawn = .drawn := h
        rw [e] at h
        have h : x = .drawn := h
        rw [h] at e
        rw [I.drawn p e] at ho
        cases ho
    have noL : ∀ q ∈ nxF G p, ∀ n, ¬ (B q).getD .drawn = .val false n := fun q hq n hv => by
      have hb := get hv (by simp)
      exact I.L q p n (full q false n hb p hp hq) hb hBn
    refine ⟨noL, ?_⟩
    apply Classical.byContradiction
    intro no
    have allW : ∀ q ∈ nxF G p, PR q p ∧ Won B q := fun q hq => by
      cases e : B q with
      | none => exact absurd ⟨q, hq, by show (B q).getD .drawn = _; rw [e]; rfl⟩ no
      | some x =>
        cases x with
        | drawn => exact absurd ⟨q, hq, by show (B q).getD .drawn = _; rw [e]; rfl⟩ no
        | val w m =>
          cases w with
          | true => exact ⟨full q true m e p hp hq, m, e⟩
          | false => exact absurd (by show (B q).getD .drawn = _; rw [e]; rfl) (noL q hq m)
    have h2 := I.cnt p hp
    have h3 : cntW B PR p (nxF G p) = (nxF G p).length := by
      unfold cntW
      exact List.length_filter_eq_length_iff.mpr fun q hq => decide_eq_true (allW q hq)
    exact I.pos p hp hBn (by omega)
end
end Sk

/-! Sk: the small defs. -/
namespace Sk
open PySem L2 PySem.Spec PyProof.Rows
variable {P : Program} {w : World} {K : PySem.W.Frag} {mg : Str → Option Value} {base : Heap}

def sp_man_of : Sp := fun vs H Q _ => ∃ s k : Int, vs = [.int s, .int k] ∧ 0 ≤ k ∧ k ≤ 1000 ∧ Q (.int (manOf s k)) H
theorem ok_man_of (T : Top K mg) : FnOk P w K mg base CX0 1 T.man_of.a T.man_of.fd P_man_of sp_man_of := by
  refine T.man_of.F.ok sc_man_of (fun vs H Q E h => ?_) (fun cdv A outer s H vs Q E hr h => ?_)
  · obtain ⟨s, k, rfl, _⟩ := h; rfl
  obtain ⟨s, k, rfl, h0, h1, q⟩ := h
  refine ⟨_, (pss_one (ps_ret (pe_op op_add (pe_op op_add pe_int (pe_op op_mul pe_int (pv 1))) (pv 0)))), ?_⟩
  refine ⟨_, rfl, _, _, rfl, rfl, .inl (by omega), _, _, rfl, rfl, _, rfl, _, _, rfl, rfl, ?_⟩
  exact q
def sp_side_of : Sp := fun vs H Q _ => ∃ m : Int, vs = [.int m] ∧ Q (.int (sideOf m)) H
theorem ok_side_of (T : Top K mg) : FnOk P w K mg base CX0 1 T.side_of.a T.side_of.fd P_side_of sp_side_of := by
  refine T.side_of.F.ok sc_side_of (fun vs H Q E h => ?_) (fun cdv A outer s H vs Q E hr h => ?_)
  · obtain ⟨s, rfl, _⟩ := h; rfl
  obtain ⟨m, rfl, q⟩ := h
  refine ⟨_, (pss_one (ps_ret (pe_op op_mod (pe_op op_sub (pv 0) pe_int) pe_int))), ?_⟩
  exact ⟨_, rfl, _, _, rfl, rfl, _, _, rfl, rfl, (by show (0 : Int) < 2; decide), q⟩
def sp_kind_of : Sp := fun vs H Q _ => ∃ m : Int, vs = [.int m] ∧ Q (.int (kindOf m)) H
theorem ok_kind_of (T : Top K mg) : FnOk P w K mg base CX0 1 T.kind_of.a T.kind_of.fd P_kind_of sp_kind_of := by
  refine T.kind_of.F.ok sc_kind_of (fun vs H Q E h => ?_) (fun cdv A outer s H vs Q E hr h => ?_)
  · obtain ⟨s, rfl, _⟩ := h; rfl
  obtain ⟨m, rfl, q⟩ := h
  refine ⟨_, (pss_one (ps_ret (pe_op op_fdiv (pe_op op_sub (pv 0) pe_int) pe_int))), ?_⟩
  exact ⟨_, rfl, _, _, rfl, rfl, _, _, rfl, rfl, ⟨by decide, by decide⟩, q⟩
def sp_with_man (K : PySem.W.Frag) : Sp := fun vs H Q _ => ∃ (a : Addr) (m : List Int) (f v : Int), vs = [.ref a, .int f, .int v] ∧ SqT K H a (m.map .int) ∧ 0 ≤ f ∧ f < m.length ∧ m.length ≤ 1000 ∧
  ∀ c H', Same H H' → SqT K H' c ((setM m f v).map .int) → Q (.ref c) H'
theorem ok_with_man (T : Top K mg) : FnOk P w K mg base CX0 1 T.with_man.a T.with_man.fd P_with_man (sp_with_man K) := by
  refine T.with_man.F.ok sc_with_man (fun vs H Q E h => ?_) (fun cdv A outer s H vs Q E hr h => ?_)
  · obtain ⟨s, m, f, v, rfl, _⟩ := h; rfl
  obtain ⟨a, m, f, v, rfl, ha, h0, h1, hz, q⟩ := h
  refine ⟨_, (pss_one (ps_ret (pe_op op_catU (pe_op op_catU (pe_slice sl_tupU (pv 0) po_none (po_some (pv 1))) (pe_tup (pa_cons (pv 2) pa_nil))) (pe_slice sl_tupU (pv 0) (po_some (pe_op op_add (pv 1) pe_int)) po_none)))), ?_⟩
  have hl : (m.map V.int).length = m.length := List.length_map _
  have l1 := cutV_length (m.map V.int) none (some f)
  have l2 := cutV_length (m.map V.int) (some (f + 1)) none
  have small : ∀ n : Nat, n ≤ 3000 → n ≤ sizeLine := fun n hn => Nat.le_trans hn (by decide)
  refine ⟨_, rfl, _, rfl, _, rfl, a, _, rfl, ha, fun c1 H1 e1 s1 => ?_⟩
  refine ⟨_, rfl, (by show 1 ≤ sizeLine; decide), fun p hp => ?_⟩
  have e2 : Same H1 (upd H1 p (.tup [.int v])) := Same.new hp
  refine ⟨c1, p, _, _, rfl, rfl, seqT e2 s1, SqT.of upd_same, small _ (by rw [List.length_singleton]; omega), fun c2 H2 e3 s2 => ?_⟩
  have e4 := (e1.trans e2).trans e3
  refine ⟨_, rfl, _, rfl, _, _, rfl, rfl, _, rfl, a, _, rfl, seqT e4 ha, fun c3 H3 e5 s3 => ?_⟩
  refine ⟨c2, c3, _, _, rfl, rfl, seqT e5 s2, s3, small _ (by rw [List.length_append, List.length_singleton]; omega), fun c4 H4 e6 s4 => ?_⟩
  rw [cut_set h0 h1] at s4
  exact q c4 H4 (e4.trans (e5.trans e6)) s4
end Sk

/-! Sk: is_as_told, step_ends. -/
namespace Sk
open PySem L2 PySem.Spec PyProof.Rows
variable {P : Program} {w : World} {K : PySem.W.Frag} {mg : Str → Option Value} {base : Heap}

def sp_told (K : PySem.W.Frag) : Sp := fun vs H Q _ => ∃ (v : V) (p : Pg) (side man : Int), vs = [v, .int side, .int man] ∧ PgR K H v p ∧ (p = .empty ∨ p = .own ∨ p = .foe ∨ ∃ k, p = .kin k) ∧ Q (.bl (told side p man)) H
theorem ok_is_as_told (T : Top K mg) : FnOk P w K mg base CX0 2 T.is_as_told.a T.is_as_told.fd P_is_as_told (sp_told K) := by
  refine T.is_as_told.F.ok sc_is_as_told (fun vs H Q E h => ?_) (fun cdv A outer s H vs Q E hr h => ?_)
  · obtain ⟨v, p, side, man, rfl, _⟩ := h; rfl
  obtain ⟨v, p, side, man, rfl, hp, hk, q⟩ := h
  refine ⟨_, (pss_cons (ps_if (pt_cmpR op_eq (pe_ix ix_tup (pv 0) pe_int (fun _ _ => rfl)) pe_str (nomark _))
      (pss_one (ps_ret (pe_cmpR op_eq (pv 2) pe_int (nomark _))))
      pss_nil)
    (pss_cons (ps_if (pt_cmpR op_eq (pv 2) pe_int (nomark _))
      (pss_one (ps_ret pe_bl))
      pss_nil)
    (pss_cons (ps_if (pt_cmpR op_eq (pe_ix ix_tup (pv 0) pe_int (fun _ _ => rfl)) pe_str (nomark _))
      (pss_one (ps_ret (pe_cmpR op_eq (pe_call (ok_kind_of T) (hr.mono (by decide)) rfl T.kind_of.m T.kind_of.k T.kind_of.b .nil pass0 (pa_cons (pv 2) pa_nil)) (pe_ix ix_tup (pv 0) pe_int (fun _ _ => rfl)) (nomark _))))
      pss_nil)
    (pss_one (ps_ret (pe_cmpR op_eq (pe_cmpR op_eq (pe_call (ok_side_of T) (hr.mono (by decide)) rfl T.side_of.m T.side_of.k T.side_of.b .nil pass0 (pa_cons (pv 2) pa_nil)) (pv 1) (nomark _)) (pe_cmpR op_eq (pe_ix ix_tup (pv 0) pe_int (fun _ _ => rfl)) pe_str (nomark _)) (nomark _))))))), ?_⟩
  obtain ⟨a, r, rfl, ha⟩ := hp.word
  rcases hk with rfl | rfl | rfl | ⟨k, rfl⟩
  · refine ⟨_, rfl, a, _, _, _, rfl, rfl, ha, at_0, rfl, _, rfl, ?_⟩
    refine ite2 (fun _ => ?_) (fun c => absurd (by decide +kernel) c)
    refine ⟨_, rfl, rfl, ?_⟩
    have e : decide (V.int man = V.int 0) = told side .empty man := by simp [told]
    show Q (.bl (decide (V.int man = V.int 0))) H
    rw [e]
    exact q
  · refine ⟨_, rfl, a, _, _, _, rfl, rfl, ha, at_0, rfl, _, rfl, ?_⟩
    refine ite2 (fun c => absurd c (by decide +kernel)) (fun _ => ?_)
    refine ⟨_, rfl, rfl, _, rfl, ite2 (fun c => ?_) (fun c => ?_)⟩
    · have c : man = 0 := by simpa using c
      have e : told side .own man = false := by simp [told, c]
      rw [e] at q
      exact q
    have c : ¬ man = 0 := by simpa using c
    refine ⟨_, rfl, a, _, _, _, rfl, rfl, ha, at_0, rfl, _, rfl, ?_⟩
    refine ite2 (fun c => absurd c (by decide +kernel)) (fun _ => ?_)
    refine ⟨_, rfl, man, rfl, _, rfl, rfl, _, rfl, a, _, _, _, rfl, rfl, ha, at_0, rfl, rfl, ?_⟩
    have e : decide (V.bl (decide (V.int (sideOf man) = V.int side)) = V.bl (decide (V.str Pg.own.word = V.str (Str.ofString "own")))) = told side .own man := by
      have e1 : decide (V.str Pg.own.word = V.str (Str.ofString "own")) = true := by decide +kernel
      rw [e1]
      by_cases z : sideOf man = side <;> simp [told, c, z]
    show Q (.bl (decide (V.bl (decide (V.int (sideOf man) = V.int side)) = V.bl (decide (V.str Pg.own.word = V.str (Str.ofString "own")))))) H
    rw [e]
    exact q
  · refine ⟨_, rfl, a, _, _, _, rfl, rfl, ha, at_0, rfl, _, rfl, ?_⟩
    refine ite2 (fun c => absurd c (by decide +kernel)) (fun _ => ?_)
    refine ⟨_, rfl, rfl, _, rfl, ite2 (fun c => ?_) (fun c => ?_)⟩
    · have c : man = 0 := by simpa using c
      have e : told side .foe man = false := by simp [told, c]
      rw [e] at q
      exact q
    have c : ¬ man = 0 := by simpa using c
    refine ⟨_, rfl, a, _, _, _, rfl, rfl, ha, at_0, rfl, _, rfl, ?_⟩
    refine ite2 (fun c => absurd c (by decide +kernel)) (fun _ => ?_)
    refine ⟨_, rfl, man, rfl, _, rfl, rfl, _, rfl, a, _, _, _, rfl, rfl, ha, at_0, rfl, rfl, ?_⟩
    have e : decide (V.bl (decide (V.int (sideOf man) = V.int side)) = V.bl (decide (V.str Pg.foe.word = V.str (Str.ofString "own")))) = told side .foe man := by
      have e1 : decide (V.str Pg.foe.word = V.str (Str.ofString "own")) = false := by decide +kernel
      rw [e1]
      by_cases z : sideOf man = side <;> simp [told, c, z]
    show Q (.bl (decide (V.bl (decide (V.int (sideOf man) = V.int side)) = V.bl (decide (V.str Pg.foe.word = V.str (Str.ofString "own")))))) H
    rw [e]
    exact q
  · have ha' : SqT K H a [.str wAt, .int k] := by
      cases hp with
      | one h1 h2 => simp at h2
      | kin h => exact h
    refine ⟨_, rfl, a, _, _, _, rfl, rfl, ha', at_0, rfl, _, rfl, ?_⟩
    refine ite2 (fun c => absurd c (by decide +kernel)) (fun _ => ?_)
    refine ⟨_, rfl, rfl, _, rfl, ite2 (fun c => ?_) (fun c => ?_)⟩
    · have c : man = 0 := by simpa using c
      have e : told side (.kin k) man = false := by simp [told, c]
      rw [e] at q
      exact q
    have c : ¬ man = 0 := by simpa using c
    refine ⟨_, rfl, a, _, _, _, rfl, rfl, ha', at_0, rfl, _, rfl, ?_⟩
    refine ite2 (fun _ => ?_) (fun c => absurd (by decide +kernel) c)
    refine ⟨_, rfl, man, rfl, _, rfl, a, _, _, _, rfl, rfl, ha', at_1, rfl, ?_⟩
    have e : decide (V.int (kindOf man) = V.int k) = told side (.kin k) man := by simp [told, c]
    show Q (.bl (decide (V.int (kindOf man) = V.int k))) H
    rw [e]
    exact q

def sp_step (T : Top K mg) : Sp := fun vs H Q _ => ∃ (g : Addr) (G : GD) (side : Int) (v u : V) (p : Pg) (s : Spot), vs = [.ref g, .int side, v, u] ∧ GameAt K H T.c_Game T.c_Board g G ∧ GOk G ∧ PgR K H v p ∧ p.leaf = true ∧ p.ok G ∧ R K H u s ∧ SpotK G s ∧
  ∀ l xs H', Same H H' → H l = none → H' l = some (.lst xs) → Rs K H' xs (stepE G side p s) → Q (.ref l) H'
theorem ok_step_ends (T : Top K mg) : FnOk P w K mg base CX0 3 T.step_ends.a T.step_ends.fd P_step_ends (sp_step T) := by
  refine T.step_ends.F.ok sc_step_ends (fun vs H Q E h => ?_) (fun cdv A outer s H vs Q E hr h => ?_)
  · obtain ⟨_, _, _, _, _, _, _, rfl, _⟩ := h; rfl
  obtain ⟨g, G, side, v, u, p, s, rfl, hg, gok, hp, hl, hpo, hu', hs, q⟩ := h
  have nd := sc_step_ends.nd
  refine ⟨_, (pss_cons (ps_asg (pv 3) (pg_tup rfl (pgs_cons (pg_name (i := 4) nd rfl (Or.inl rfl)) (pgs_cons (pg_name (i := 5) nd rfl (Or.inl rfl)) (pgs_cons (pg_name (i := 6) nd rfl (Or.inl rfl)) pgs_nil)))))
    (pss_cons (ps_set (i := 7) nd rfl (Or.inl rfl) (pe_ix ix_tup (pv 2) pe_int (fun _ _ => rfl)))
    (pss_cons (ps_if (pt_cmpR op_eq (pv 7) pe_str (nomark _))
      (pss_one (ps_ret (pe_lst (pa_cons (pv 3) pa_nil))))
      pss_nil)
    (pss_cons (ps_if (pt_cmpR op_eq (pv 7) pe_str (nomark _))
      (pss_cons (ps_set (i := 8) nd rfl (Or.inl rfl) (pe_ix ix_list (pe_ix ix_tup (pe_ix ix_list (pe_fld (pe_fld (pv 0) rfl) rfl) (pe_ix ix_tup (pv 2) pe_int (fun _ _ => rfl)) (fun _ _ => rfl)) pe_int (fun _ _ => rfl)) (pv 4) (fun _ _ => rfl)))
      (pss_cons (ps_if (pt_cmpR op_lt (pv 8) pe_int (nomark _))
        (pss_one (ps_ret (pe_lst pa_nil)))
        pss_nil)
      (pss_one (ps_ret (pe_lst (pa_cons (pe_tup (pa_cons (pv 8) (pa_cons (pv 5) (pa_cons (pv 6) pa_nil)))) pa_nil))))))
      pss_nil)
    (pss_cons (ps_if (pt_cmpR op_eq (pv 7) pe_str (nomark _))
      (pss_one (ps_ret (pe_lst (pa_cons (pe_tup (pa_cons (pv 4) (pa_cons (pv 5) (pa_cons (pe_ix ix_tup (pv 2) pe_int (fun _ _ => rfl)) pa_nil)))) pa_nil))))
      pss_nil)
    (pss_cons (ps_if (pt_cmpR op_eq (pv 7) pe_str (nomark _))
      (pss_cons (ps_if (pt_cmpR op_eq (pe_ix ix_tup (pv 5) (pv 4) (fun _ _ => rfl)) pe_int (nomark _))
        (pss_one (ps_ret (pe_lst pa_nil)))
        pss_nil)
      (pss_one (ps_ret (pe_lst (pa_cons (pe_tup (pa_cons (pv 4) (pa_cons (pe_call (ok_with_man T) (hr.mono (by decide)) rfl T.with_man.m T.with_man.k T.with_man.b .nil pass0 (pa_cons (pv 5) (pa_cons (pv 4) (pa_cons pe_int pa_nil)))) (pa_cons (pv 6) pa_nil)))) pa_nil)))))
      pss_nil)
    (pss_cons (ps_if (pt_val (pe_call (ok_is_as_told T) (hr.mono (by decide)) rfl T.is_as_told.m T.is_as_told.k T.is_as_told.b .nil pass0 (pa_cons (pv 2) (pa_cons (pv 1) (pa_cons (pe_ix ix_tup (pv 5) (pv 4) (fun _ _ => rfl)) pa_nil)))))
      (pss_one (ps_ret (pe_lst (pa_cons (pv 3) pa_nil))))
      pss_nil)
    (pss_one (ps_ret (pe_lst pa_nil)))))))))), ?_⟩
  obtain ⟨a, b, rfl, ha, hb⟩ := hu'.spot
  obtain ⟨c, r, rfl, hc⟩ := hp.word
  have f0 := hs.f0
  have f1 : s.f < s.m.length := by rw [hs.men.len]; exact hs.f1
  have z5 : s.m.length ≤ 1000 := by rw [hs.men.len]; have := gok.n5; omega
  -- one spot back
  have one : ∀ (H' : Hp) (v : V) (s' : Spot), Same H H' → R K H' v s' → stepE G side p s = [s'] → ∀ l, H' l = none → Q (.ref l) (upd H' l (.lst [v])) := fun H' v s' e hv es l hn =>
    q l [v] _ (e.trans (Same.new hn)) (e.free hn) upd_same (by rw [es]; exact .cons (hv.same (Same.new hn)) .nil)
  have zero : ∀ (H' : Hp), Same H H' → stepE G side p s = [] → ∀ l, H' l = none → Q (.ref l) (upd H' l (.lst [])) := fun H' e es l hn =>
    q l [] _ (e.trans (Same.new hn)) (e.free hn) upd_same (by rw [es]; exact .nil)
  have z1 : 1 ≤ sizeLine := by decide
  have z0 : 0 ≤ sizeLine := by decide
  have z3 : 3 ≤ sizeLine := by decide
  cases p with
  | rest =>
    refine ⟨_, rfl, a, _, rfl, ha, rfl, _, _, rfl, _, _, rfl, _, _, rfl, rfl, _, rfl, c, _, _, _, rfl, rfl, hc, at_0, _, rfl, rfl, _, rfl, ?_⟩
    refine ite2 (fun _ => ?_) (fun c => absurd (by decide +kernel) c)
    exact ⟨_, rfl, z1, one H _ s Same.rfl' hu' rfl⟩
  | go d =>
    have hc' : SqT K H c [.str wGo, .int d] := by
      cases hp with
      | one h1 h2 => simp at h2
      | go h => exact h
    unfold Pg.ok at hpo
    obtain ⟨b', lk, lc, lp, lw, dx, dy, g1, g2, g3⟩ := hg
    obtain ⟨ws, w1, w2⟩ := g3.ways
    have hd : d.toNat < G.ways.length := by omega
    obtain ⟨wv, we, wa, wl, wx, rfl, ww1, ww2⟩ := w2.get (List.getElem?_eq_getElem hd)
    have hrow := gok.way _ (List.getElem_mem hd)
    have ew : G.ways.getD d.toNat [] = G.ways[d.toNat] := by rw [List.getD_eq_getElem?_getD, List.getElem?_eq_getElem hd]; rfl
    have hf : s.f.toNat < (G.ways[d.toNat]).length := by rw [hrow.1]; have := hs.f1; omega
    have ev : atI ((G.ways[d.toNat]).map V.int) s.f = some (.int (wayAt G d s.f)) := by
      refine at_vs f0 ?_
      rw [List.getElem?_map, List.getElem?_eq_getElem hf]
      unfold wayAt
      rw [ew, List.getD_eq_getElem?_getD, List.getElem?_eq_getElem hf]
      rfl
    refine ⟨_, rfl, a, _, rfl, ha, rfl, _, _, rfl, _, _, rfl, _, _, rfl, rfl, _, rfl, c, _, _, _, rfl, rfl, hc', at_0, _, rfl, rfl, _, rfl, ?_⟩
    refine ite2 (fun c => absurd c (by decide +kernel)) (fun _ => ?_)
    refine ⟨_, rfl, rfl, _, rfl, ?_⟩
    refine ite2 (fun _ => ?_) (fun c => absurd (by decide +kernel) c)
    refine ⟨_, rfl, g, T.c_Game, dx, _, _, rfl, g1, T.Game.cl, T.n_Game_board, rfl, b', T.c_Board, dy, _, _, rfl, g2, T.Board.cl, T.n_Board_ways, rfl, ?_⟩
    refine ⟨_, rfl, c, _, _, _, rfl, rfl, hc', at_1, lw, _, _, _, rfl, rfl, w1, at_vs hpo.1 we, wa, _, _, _, rfl, rfl, ww1, at_1, _, rfl, wl, _, _, _, rfl, rfl, ww2, ev, ?_⟩
    refine ⟨_, rfl, _, _, rfl, rfl, _, rfl, ite2 (fun c => ?_) (fun c => ?_)⟩
    · have c : wayAt G d s.f < 0 := of_decide_eq_true c
      exact ⟨z0, zero H Same.rfl' (by simp only [stepE]; rw [if_pos c])⟩
    · have c : ¬ wayAt G d s.f < 0 := fun z => c (decide_eq_true z)
      refine ⟨_, rfl, _, rfl, _, rfl, z3, fun t ht => ⟨z1, one _ _ ⟨wayAt G d s.f, s.m, s.k⟩ (Same.new ht) (R.ofSpot (b := b) (SqT.of upd_same) (seqT (Same.new ht) hb)) (by simp only [stepE]; rw [if_neg c])⟩⟩
  | lay k =>
    have hc' : SqT K H c [.str wLay, .int k] := by
      cases hp with
      | one h1 h2 => simp at h2
      | lay h => exact h
    refine ⟨_, rfl, a, _, rfl, ha, rfl, _, _, rfl, _, _, rfl, _, _, rfl, rfl, _, rfl, c, _, _, _, rfl, rfl, hc', at_0, _, rfl, rfl, _, rfl, ?_⟩
    refine ite2 (fun c => absurd c (by decide +kernel)) (fun _ => ?_)
    refine ⟨_, rfl, rfl, _, rfl, ?_⟩
    refine ite2 (fun c => absurd c (by decide +kernel)) (fun _ => ?_)
    refine ⟨_, rfl, rfl, _, rfl, ?_⟩
    refine ite2 (fun _ => ?_) (fun c => absurd (by decide +kernel) c)
    refine ⟨_, rfl, _, rfl, _, rfl, c, _, _, _, rfl, rfl, hc', at_1, z3, fun t ht => ⟨z1, one _ _ ⟨s.f, s.m, k⟩ (Same.new ht) (R.ofSpot (b := b) (SqT.of upd_same) (seqT (Same.new ht) hb)) rfl⟩⟩
  | take =>
    refine ⟨_, rfl, a, _, rfl, ha, rfl, _, _, rfl, _, _, rfl, _, _, rfl, rfl, _, rfl, c, _, _, _, rfl, rfl, hc, at_0, _, rfl, rfl, _, rfl, ?_⟩
    refine ite2 (fun c => absurd c (by decide +kernel)) (fun _ => ?_)
    refine ⟨_, rfl, rfl, _, rfl, ?_⟩
    refine ite2 (fun c => absurd c (by decide +kernel)) (fun _ => ?_)
    refine ⟨_, rfl, rfl, _, rfl, ?_⟩
    refine ite2 (fun c => absurd c (by decide +kernel)) (fun _ => ?_)
    refine ⟨_, rfl, rfl, _, rfl, ?_⟩
    refine ite2 (fun _ => ?_) (fun c => absurd (by decide +kernel) c)
    refine ⟨_, rfl, _, rfl, b, _, _, _, rfl, rfl, hb, at_map f0 f1, rfl, _, rfl, ite2 (fun c => ?_) (fun c => ?_)⟩
    · have c : at0 s.m s.f = 0 := by simpa using c
      exact ⟨z0, zero H Same.rfl' (by simp only [stepE]; rw [if_pos c])⟩
    · have c : ¬ at0 s.m s.f = 0 := by simpa using c
      refine ⟨_, rfl, _, rfl, _, rfl, b, s.m, s.f, 0, rfl, hb, f0, f1, z5, fun d H1 e1 hd => ?_⟩
      refine ⟨_, rfl, z3, fun t ht => ⟨z1, one _ _ ⟨s.f, setM s.m s.f 0, s.k⟩ (e1.trans (Same.new ht)) (R.ofSpot (b := d) (SqT.of upd_same) (seqT (Same.new ht) hd)) (by simp only [stepE]; rw [if_neg c])⟩⟩
  | empty =>
    refine ⟨_, rfl, a, _, rfl, ha, rfl, _, _, rfl, _, _, rfl, _, _, rfl, rfl, _, rfl, c, _, _, _, rfl, rfl, hc, at_0, _, rfl, rfl, _, rfl, ?_⟩
    refine ite2 (fun c => absurd c (by decide +kernel)) (fun _ => ?_)
    refine ⟨_, rfl, rfl, _, rfl, ?_⟩
    refine ite2 (fun c => absurd c (by decide +kernel)) (fun _ => ?_)
    refine ⟨_, rfl, rfl, _, rfl, ?_⟩
    refine ite2 (fun c => absurd c (by decide +kernel)) (fun _ => ?_)
    refine ⟨_, rfl, rfl, _, rfl, ?_⟩
    refine ite2 (fun c => absurd c (by decide +kernel)) (fun _ => ?_)
    refine ⟨_, rfl, _, rfl, _, rfl, _, rfl, b, _, _, _, rfl, rfl, hb, at_map f0 f1, _, _, _, _, rfl, hp, .inl rfl, _, rfl, ite2 (fun c => ?_) (fun c => ?_)⟩
    · exact ⟨_, rfl, z1, one H _ s Same.rfl' hu' (by simp only [stepE]; rw [if_pos c])⟩
    · exact ⟨z0, zero H Same.rfl' (by simp only [stepE]; rw [if_neg c])⟩
  | own =>
    refine ⟨_, rfl, a, _, rfl, ha, rfl, _, _, rfl, _, _, rfl, _, _, rfl, rfl, _, rfl, c, _, _, _, rfl, rfl, hc, at_0, _, rfl, rfl, _, rfl, ?_⟩
    refine ite2 (fun c => absurd c (by decide +kernel)) (fun _ => ?_)
    refine ⟨_, rfl, rfl, _, rfl, ?_⟩
    refine ite2 (fun c => absurd c (by decide +kernel)) (fun _ => ?_)
    refine ⟨_, rfl, rfl, _, rfl, ?_⟩
    refine ite2 (fun c => absurd c (by decide +kernel)) (fun _ => ?_)
    refine ⟨_, rfl, rfl, _, rfl, ?_⟩
    refine ite2 (fun c => absurd c (by decide +kernel)) (fun _ => ?_)
    refine ⟨_, rfl, _, rfl, _, rfl, _, rfl, b, _, _, _, rfl, rfl, hb, at_map f0 f1, _, _, _, _, rfl, hp, .inr (.inl rfl), _, rfl, ite2 (fun c => ?_) (fun c => ?_)⟩
    · exact ⟨_, rfl, z1, one H _ s Same.rfl' hu' (by simp only [stepE]; rw [if_pos c])⟩
    · exact ⟨z0, zero H Same.rfl' (by simp only [stepE]; rw [if_neg c])⟩
  | foe =>
    refine ⟨_, rfl, a, _, rfl, ha, rfl, _, _, rfl, _, _, rfl, _, _, rfl, rfl, _, rfl, c, _, _, _, rfl, rfl, hc, at_0, _, rfl, rfl, _, rfl, ?_⟩
    refine ite2 (fun c => absurd c (by decide +kernel)) (fun _ => ?_)
    refine ⟨_, rfl, rfl, _, rfl, ?_⟩
    refine ite2 (fun c => absurd c (by decide +kernel)) (fun _ => ?_)
    refine ⟨_, rfl, rfl, _, rfl, ?_⟩
    refine ite2 (fun c => absurd c (by decide +kernel)) (fun _ => ?_)
    refine ⟨_, rfl, rfl, _, rfl, ?_⟩
    refine ite2 (fun c => absurd c (by decide +kernel)) (fun _ => ?_)
    refine ⟨_, rfl, _, rfl, _, rfl, _, rfl, b, _, _, _, rfl, rfl, hb, at_map f0 f1, _, _, _, _, rfl, hp, .inr (.inr (.inl rfl)), _, rfl, ite2 (fun c => ?_) (fun c => ?_)⟩
    · exact ⟨_, rfl, z1, one H _ s Same.rfl' hu' (by simp only [stepE]; rw [if_pos c])⟩
    · exact ⟨z0, zero H Same.rfl' (by simp only [stepE]; rw [if_neg c])⟩
  | kin k =>
    have hc' : SqT K H c [.str wAt, .int k] := by
      cases hp with
      | one h1 h2 => simp at h2
      | kin h => exact h
    refine ⟨_, rfl, a, _, rfl, ha, rfl, _, _, rfl, _, _, rfl, _, _, rfl, rfl, _, rfl, c, _, _, _, rfl, rfl, hc', at_0, _, rfl, rfl, _, rfl, ?_⟩
    refine ite2 (fun c => absurd c (by decide +kernel)) (fun _ => ?_)
    refine ⟨_, rfl, rfl, _, rfl, ?_⟩
    refine ite2 (fun c => absurd c (by decide +kernel)) (fun _ => ?_)
    refine ⟨_, rfl, rfl, _, rfl, ?_⟩
    refine ite2 (fun c => absurd c (by decide +kernel)) (fun _ => ?_)
    refine ⟨_, rfl, rfl, _, rfl, ?_⟩
    refine ite2 (fun c => absurd c (by decide +kernel)) (fun _ => ?_)
    refine ⟨_, rfl, _, rfl, _, rfl, _, rfl, b, _, _, _, rfl, rfl, hb, at_map f0 f1, _, _, _, _, rfl, hp, .inr (.inr (.inr ⟨k, rfl⟩)), _, rfl, ite2 (fun c => ?_) (fun c => ?_)⟩
    · exact ⟨_, rfl, z1, one H _ s Same.rfl' hu' (by simp only [stepE]; rw [if_pos c])⟩
    · exact ⟨z0, zero H Same.rfl' (by simp only [stepE]; rw [if_neg c])⟩
  | row ps => simp [Pg.leaf] at hl
  | either ps => simp [Pg.leaf] at hl
  | any p => simp [Pg.leaf] at hl
end Sk

/-! Sk: row_ends, any_ends, program_ends. -/
namespace Sk
open PySem L2 PySem.Spec PyProof.Rows
variable {P : Program} {w : World} {K : PySem.W.Frag} {mg : Str → Option Value} {base : Heap}

/-- a new dict of the spots at which the relation E ends -/
abbrev DictOf (w : World) (K : PySem.W.Frag) (H : Hp) (Q : VK) (E : Spot → Prop) : Prop := ∀ d kvs H', Same H H' → H d = none → DictAt w K H' d kvs → (∀ b : Spot, b ∈ keys kvs ↔ E b) → Q (.ref d) H'
def sp_pe (w : World) (T : Top K mg) (h : Nat) : Sp := fun vs H Q _ => ∃ (g : Addr) (G : GD) (side : Int) (v u : V) (p : Pg) (s : Spot), vs = [.ref g, .int side, v, u] ∧ GameAt K H T.c_Game T.c_Board g G ∧ GOk G ∧ PgR K H v p ∧ p.ok G ∧ p.hgt < h ∧ R K H u s ∧ SpotK G s ∧
  DictOf w K H Q (Ends G side p s)
def sp_row (w : World) (T : Top K mg) (h : Nat) : Sp := fun vs H Q _ => ∃ (g l : Addr) (G : GD) (side : Int) (vs' : List V) (u : V) (ps : List Pg) (s : Spot), vs = [.ref g, .int side, .ref l, u] ∧ GameAt K H T.c_Game T.c_Board g G ∧ GOk G ∧ SqL K H l vs' ∧ PgRs K H vs' ps ∧ oks G ps ∧ hgts ps < h ∧ R K H u s ∧ SpotK G s ∧
  DictOf w K H Q (EndsR G side ps s)
def sp_any (w : World) (T : Top K mg) (h : Nat) : Sp := fun vs H Q _ => ∃ (g : Addr) (G : GD) (side : Int) (v u : V) (p : Pg) (s : Spot), vs = [.ref g, .int side, v, u] ∧ GameAt K H T.c_Game T.c_Board g G ∧ GOk G ∧ PgR K H v p ∧ p.ok G ∧ p.hgt < h ∧ R K H u s ∧ SpotK G s ∧
  DictOf w K H Q (Star (Ends G side p) s)

theorem ok_row_ends (T : Top K mg) {n h : Nat} (Gp : FnOk P w K mg base CX0 n T.program_ends.a T.program_ends.fd P_program_ends (sp_pe w T h)) : FnOk P w K mg base CX0 (n + 1) T.row_ends.a T.row_ends.fd P_row_ends (sp_row w T h) := by
  refine T.row_ends.F.ok sc_row_ends (fun vs H Q E h => ?_) (fun cdv A outer s H vs Q E hr h => ?_)
  · obtain ⟨_, _, _, _, _, _, _, _, rfl, _⟩ := h; rfl
  obtain ⟨g, l, G, side, vs', u, ps, s, rfl, hg, gok, hl, hps, hok, hh, hu', hs, q⟩ := h
  have nd := sc_row_ends.nd
  have hu := hu64 hr
  refine ⟨_, (pss_cons (ps_set (i := 4) nd rfl (Or.inl rfl) (pe_disp1 Spot hu (pv 3) pe_bl))
    (pss_cons (ps_for PassesOwn.never rfl (pi_list (pv 2)) (pg_name (i := 5) nd rfl (Or.inl rfl))
      (pss_cons (ps_set (i := 6) nd rfl (Or.inl rfl) (pe_nnew Spot))
      (pss_cons (ps_for PassesOwn.never rfl (pi_n (pv 4)) (pg_name (i := 7) nd rfl (Or.inl rfl))
        (pss_one (ps_expr (pe_nm PySem.F.slot_dict_update (by rfl) (mt_nupd Spot hu) (pv 6) (pa_cons (pe_call (Gp) (hr) rfl T.program_ends.m T.program_ends.k T.program_ends.b .nil pass0 (pa_cons (pv 0) (pa_cons (pv 1) (pa_cons (pv 5) (pa_cons (pv 7) pa_nil))))) pa_nil)))))
      (pss_one (ps_set (i := 4) nd rfl (Or.inl rfl) (pv 6))))))
    (pss_one (ps_ret (pv 4))))), ?_⟩
  refine fun d hd ob0 D0 => ⟨_, rfl, s, D0, hu'.fut (TK.new hd), fun ob D1 => ?_⟩
  have e1 : Same H (upd (upd H d ob0) d ob) := Same.mut (Same.new hd) hd
  have hlen := hps.all.length
  refine ⟨_, rfl, l, rfl, ⟨_, e1.seq hl⟩, for_list (xs := vs') (fun i σ H1 => ∃ d kvs x5 x6 x7, σ = [some (.ref g), some (.int side), some (.ref l), some u, some (.ref d), x5, x6, x7] ∧ Same H H1 ∧ H d = none ∧ DictAt w K H1 d kvs ∧ ∀ b, b ∈ keys kvs ↔ EndsR G side (ps.take i) s b)
    ⟨d, _, _, _, _, rfl, e1, hd, D1, fun b => ?_⟩ (fun i σ H1 _ ⟨_, _, _, _, _, _, e, _⟩ => e.seq hl) (fun i x σ H1 hx hP => ?_) (fun σ H1 hP => ?_)⟩
  · simp [EndsR, keys]
  · obtain ⟨d, kvs, x5, x6, x7, rfl, e, hd, D, hk⟩ := hP
    obtain ⟨p, hp1, hp2⟩ := hps.all.get' hx
    have hpm : p ∈ ps := List.mem_of_getElem? hp1
    have pok := oks_mem hok p hpm
    have ph : p.hgt < h := Nat.lt_of_le_of_lt (hgts_mem hpm) hh
    intro d2 hd2 ob2 D2
    have hd2' : H d2 = none := e.free hd2
    have dne : d ≠ d2 := D.ne hd2
    obtain ⟨es, ep, D⟩ := D
    have D' : DictOn w K (upd H1 d2 ob2) d es ep kvs := D.fut (TK.new hd2) (upd_ne dne)
    refine ⟨_, rfl, d, es, ep, rfl, D'.ob, D'.sys, ?_⟩
    refine for_it (walk_n (w := w) (K := K) (d := d) (es := es) (ep := ep) (kvs := kvs)) (fun j σ H3 => ∃ kvs2 x7, σ = [some (.ref g), some (.int side), some (.ref l), some u, some (.ref d), some x, some (.ref d2), x7] ∧ Same H H3 ∧ DictOn w K H3 d es ep kvs ∧ DictAt w K H3 d2 kvs2 ∧ ∀ b, b ∈ keys kvs2 ↔ ∃ c ∈ keys (kvs.take j), Ends G side p c b)
      ⟨_, _, rfl, e.trans (Same.new hd2), D', D2, fun b => by simp [keys]⟩ (fun j σ H3 _ ⟨_, _, _, _, D, _⟩ => D) (fun j y σ H3 H3' hj hP hY => ?_) (fun σ H3 hP => ?_)
    · obtain ⟨kvs2, x7, rfl, e3, D3, D4, hk4⟩ := hP
      obtain ⟨rfl, c, cv, hc, hyc⟩ := hY
      have hcm : c ∈ keys kvs := List.mem_map.mpr ⟨_, List.mem_of_getElem? hc, rfl⟩
      have hcs : SpotK G c := (endsR_ok gok _ s c (oks_take hok i) hs ((hk c).mp hcm)).1
      obtain ⟨es4, ep4, D4⟩ := D4
      refine ⟨_, rfl, ⟨d2, es4, ep4, rfl, D4.ob⟩, _, rfl, _, rfl, _, rfl, _, rfl, g, G, side, x, y, p, c, rfl, hg.same e3, gok, hp2.same e3 _ _, pok, ph, hyc, hcs, fun d5 kvs5 H5 e5 n5 D5 k5 => ?_⟩
      have D4' : DictAt w K H3' d2 kvs2 := ⟨es4, ep4, D4⟩
      have D6 := D4'.same e5
      have z1 := spots_most gok D6.nd fun b hb => by
        obtain ⟨c', hc', hE⟩ := (hk4 b).mp hb
        obtain ⟨q1, hq1, eq1⟩ := List.mem_map.mp hc'
        have hm' : c' ∈ keys kvs := List.mem_map.mpr ⟨q1, List.mem_of_mem_take hq1, eq1⟩
        exact (ends_ok gok p c' b pok (endsR_ok gok _ s c' (oks_take hok i) hs ((hk c').mp hm')).1 hE).1
      have hs5 : ∀ b ∈ keys kvs5, SpotK G b := fun b hb => (ends_ok gok p c b pok hcs ((k5 b).mp hb)).1
      have z2 := spots_most gok D5.nd hs5
      rw [List.length_map] at z1 z2
      have z1 : kvs2.length ≤ 31250 := z1
      have z2 : kvs5.length ≤ 31250 := z2
      refine ⟨d2, d5, kvs2, kvs5, rfl, rfl, D6, D5, D4'.ne n5, apart_of gok D5.nd hs5, big (by omega), fun ob D7 => ?_⟩
      refine ⟨_, _, rfl, Same.mut (e3.trans e5) hd2', (D3.same e5).fut (TK.wr D6.noT) (upd_ne dne), D7, fun b => ?_⟩
      rw [mem_putAll, hk4, k5, take_one hc]
      simp only [keys, List.map_append, List.map_cons, List.map_nil, List.mem_append, List.mem_singleton]
      constructor
      · rintro (⟨c', h1, h2⟩ | h1)
        · exact ⟨c', .inl h1, h2⟩
        · exact ⟨c, .inr rfl, h1⟩
      · rintro ⟨c', h1 | h1, h2⟩
        · exact .inl ⟨c', h1, h2⟩
        · rw [h1] at h2; exact .inr h2
    · obtain ⟨kvs2, x7, rfl, e3, D3, D4, hk4⟩ := hP
      refine ⟨_, rfl, d2, kvs2, _, _, _, rfl, e3, hd2', D4, fun b => ?_⟩
      rw [hk4, List.take_length, take_one hp1, endsR_snoc]
      constructor
      · rintro ⟨c, h1, h2⟩; exact ⟨c, (hk c).mp h1, h2⟩
      · rintro ⟨c, h1, h2⟩; exact ⟨c, (hk c).mpr h1, h2⟩
  · obtain ⟨d, kvs, x5, x6, x7, rfl, e, hd, D, hk⟩ := hP
    rw [hlen, List.take_length] at hk
    exact ⟨_, rfl, q d kvs H1 e hd D hk⟩
end Sk

/-! Sk: any_ends, program_ends, spots, program_of. -/
namespace Sk
open PySem L2 PySem.Spec PyProof.Rows
variable {P : Program} {w : World} {K : PySem.W.Frag} {mg : Str → Option Value} {base : Heap}

theorem star_ok {G : GD} (g : GOk G) {side : Int} {p : Pg} {s b : Spot} (hp : p.ok G) (h : SpotK G s) (he : Star (Ends G side p) s b) : SpotK G b := by
  induction he with
  | refl => exact h
  | tail _ h2 ih => exact (ends_ok g p _ _ hp ih h2).1
theorem dl_mem {α : Type} {l : List α} {x : α} (h : x ∈ l.dropLast) : x ∈ l := by rw [List.dropLast_eq_take] at h; exact List.mem_of_mem_take h
theorem dl_last {α : Type} {l : List α} {x : α} (h : l[l.length - 1]? = some x) : l = l.dropLast ++ [x] := by
  have hne : l ≠ [] := fun e => by subst e; simp at h
  have e : l.getLast hne = x := by
    rw [List.getLast_eq_getElem]
    obtain ⟨h1, h2⟩ := List.getElem?_eq_some_iff.mp h
    exact h2
  rw [← e]
  exact (List.dropLast_concat_getLast hne).symm

theorem ok_any_ends (T : Top K mg) {n h : Nat} (Gp : FnOk P w K mg base CX0 n T.program_ends.a T.program_ends.fd P_program_ends (sp_pe w T h)) : FnOk P w K mg base CX0 (n + 1) T.any_ends.a T.any_ends.fd P_any_ends (sp_any w T h) := by
  refine T.any_ends.F.ok sc_any_ends (fun vs H Q E h => ?_) (fun cdv A outer s H vs Q E hr h => ?_)
  · obtain ⟨_, _, _, _, _, _, _, rfl, _⟩ := h; rfl
  obtain ⟨g, G, side, v, u, p, s, rfl, hg, gok, hp, pok, ph, hu', hs, q⟩ := h
  have nd := sc_any_ends.nd
  have hu := hu64 hr
  refine ⟨_, (pss_cons (ps_set (i := 4) nd rfl (Or.inl rfl) (pe_disp1 Spot hu (pv 3) pe_bl))
    (pss_cons (ps_set (i := 5) nd rfl (Or.inl rfl) (pe_lst (pa_cons (pv 3) pa_nil)))
    (pss_cons (ps_while PassesOwn.never (pt_cmpR op_gt (pe_callB call_len_seq rfl T.z_len PySem.boot_len (pa_cons (pv 5) pa_nil)) pe_int (nomark _))
      (pss_one (ps_for PassesOwn.never rfl (pi_n (pe_call (Gp) (hr) rfl T.program_ends.m T.program_ends.k T.program_ends.b .nil pass0 (pa_cons (pv 0) (pa_cons (pv 1) (pa_cons (pv 2) (pa_cons (pe_bm0 PySem.F.plainAttrs_list PySem.F.slot_list_pop PySem.F.type_list_pop mt_pop (pv 5)) pa_nil)))))) (pg_name (i := 6) nd rfl (Or.inl rfl))
        (pss_one (ps_if (pt_cmpR (op_nNotIn Spot hu) (pv 6) (pv 4) (by rfl))
          (pss_cons (ps_asg pe_bl (pg_sub (pv 4) (pv 6) (set_n Spot hu)))
          (pss_one (ps_expr (pe_bm PySem.F.plainAttrs_list PySem.F.slot_list_append PySem.F.type_list_append mt_append (pv 5) (pa_cons (pv 6) pa_nil)))))
          pss_nil)))))
    (pss_one (ps_ret (pv 4)))))), ?_⟩
  refine fun d hd ob0 D0 => ⟨_, rfl, s, D0, hu'.fut (TK.new hd), fun ob D1 => ?_⟩
  have e1 : Same H (upd (upd H d ob0) d ob) := Same.mut (Same.new hd) hd
  refine ⟨_, rfl, (by decide : 1 ≤ sizeLine), fun l hl => ?_⟩
  have hl0 : H l = none := e1.free hl
  have e2 := e1.trans (Same.new (o := .lst [u]) hl)
  have dl : d ≠ l := D1.ne hl
  refine ⟨fun m σ H1 => ∃ kvs xs bs x6, σ = [some (.ref g), some (.int side), some v, some u, some (.ref d), some (.ref l), x6] ∧ Same H H1 ∧ DictAt w K H1 d kvs ∧ H1 l = some (.lst xs) ∧ Rs K H1 xs bs ∧ (∀ b ∈ keys kvs, Star (Ends G side p) s b) ∧ s ∈ keys kvs ∧ (∀ b ∈ bs, b ∈ keys kvs) ∧
    (∀ b ∈ keys kvs, ¬ b ∈ bs → ∀ c, Ends G side p b c → c ∈ keys kvs) ∧ m = 2 * (31250 - kvs.length) + bs.length ∧ m ≤ 62501, ⟨_, [(s, .bl true)], [u], [s], _, rfl, e2, D1.fut (TK.new hl) (upd_ne dl), upd_same, .cons (hu'.same e2) .nil, ?_, ?_, ?_, ?_, rfl, by simp⟩, ?_⟩
  · intro b hb
    rw [show b = s by simpa [keys] using hb]
    exact .refl
  · simp [keys]
  · intro b hb
    rw [List.mem_singleton.mp hb]
    simp [keys]
  · intro b hb hn
    exact absurd (by simpa [keys] using hb) hn
  rintro m σ H1 ⟨kvs, xs, bs, x6, rfl, e3, D3, hl3, hxs, k1, k2, k3, k4, rfl, k5⟩
  refine ⟨_, rfl, l, xs, rfl, .inl (SqL.of hl3), _, _, rfl, rfl, _, rfl, ite2 (fun c => ?_) (fun c => ?_)⟩
  rotate_left
  · -- nothing waits
    have c : ¬ ((xs.length : Int) > 0) := fun z => c (decide_eq_true z)
    have hx0 : xs = [] := List.length_eq_zero_iff.mp (by omega)
    subst hx0
    have hb0 : bs = [] := hxs.nilL
    subst hb0
    refine ⟨_, rfl, q d kvs H1 e3 hd D3 fun b => ⟨k1 b, fun hb => ?_⟩⟩
    induction hb with
    | refl => exact k2
    | tail _ h2 ih => exact k4 _ ih (by simp) _ h2
  have c : (xs.length : Int) > 0 := of_decide_eq_true c
  obtain ⟨y, hy⟩ : ∃ y, xs[xs.length - 1]? = some y := ⟨xs[xs.length - 1]'(by omega), List.getElem?_eq_getElem _⟩
  obtain ⟨b0, hb0, hyb⟩ := hxs.get hy
  rw [hxs.length] at hb0
  have ebs := dl_last hb0
  have hb0m : b0 ∈ keys kvs := k3 b0 (List.mem_of_getElem? hb0)
  have hb0s : SpotK G b0 := star_ok gok pok hs (k1 b0 hb0m)
  have nl : NoT (H1 l) := by rw [hl3]; trivial
  have e4 : Same H (upd H1 l (.lst xs.dropLast)) := Same.mut e3 hl0
  have t4 : TK K H1 (upd H1 l (.lst xs.dropLast)) := TK.wr nl
  refine ⟨fun σ' H' => ∃ m', m' < 2 * (31250 - kvs.length) + bs.length ∧ ∃ kvs xs bs x6, σ' = [some (.ref g), some (.int side), some v, some u, some (.ref d), some (.ref l), x6] ∧ Same H H' ∧ DictAt w K H' d kvs ∧ H' l = some (.lst xs) ∧ Rs K H' xs bs ∧ (∀ b ∈ keys kvs, Star (Ends G side p) s b) ∧ s ∈ keys kvs ∧ (∀ b ∈ bs, b ∈ keys kvs) ∧
    (∀ b ∈ keys kvs, ¬ b ∈ bs → ∀ c, Ends G side p b c → c ∈ keys kvs) ∧ m' = 2 * (31250 - kvs.length) + bs.length ∧ m' ≤ 62501, fun σ' H' h => h, ?_⟩
  refine ⟨_, rfl, _, rfl, _, rfl, _, rfl, .inl ⟨rfl, _, SqL.of hl3⟩, l, xs, y, rfl, rfl, hl3, hy, g, G, side, v, y, p, b0, rfl, hg.same e4, gok, hp.same e4 _ _, pok, ph, hyb.fut t4, hb0s, fun d2 kvs2 H5 e5 n5 D5 hk5 => ?_⟩
  obtain ⟨es2, ep2, D5⟩ := D5
  have hl4 : upd H1 l (.lst xs.dropLast) l = some (.lst xs.dropLast) := upd_same
  have D4 : DictAt w K (upd H1 l (.lst xs.dropLast)) d kvs := D3.fut t4 (upd_ne dl)
  have d2l : l ≠ d2 := ne_of_none hl4 n5
  have d2d : d ≠ d2 := D4.ne n5
  refine ⟨d2, es2, ep2, rfl, D5.ob, D5.sys, ?_⟩
  refine for_it (walk_n (w := w) (K := K) (d := d2) (es := es2) (ep := ep2) (kvs := kvs2)) (fun j σ H6 => ∃ kvs' xs' bs' x6, σ = [some (.ref g), some (.int side), some v, some u, some (.ref d), some (.ref l), x6] ∧ Same H H6 ∧ DictOn w K H6 d2 es2 ep2 kvs2 ∧ DictAt w K H6 d kvs' ∧ H6 l = some (.lst xs') ∧ Rs K H6 xs' bs' ∧
      (∀ b ∈ keys kvs', Star (Ends G side p) s b) ∧ s ∈ keys kvs' ∧ b0 ∈ keys kvs' ∧ (∀ b ∈ bs', b ∈ keys kvs') ∧ (∀ b ∈ keys kvs', ¬ b ∈ bs' → ¬ b = b0 → ∀ c, Ends G side p b c → c ∈ keys kvs') ∧ (∀ c ∈ keys (kvs2.take j), c ∈ keys kvs') ∧ 2 * (31250 - kvs'.length) + bs'.length + 1 ≤ 2 * (31250 - kvs.length) + bs.length)
    ⟨kvs, xs.dropLast, bs.dropLast, _, rfl, e4.trans e5, D5, D4.same e5, e5 _ _ hl4, (hxs.dropLast.fut t4).same e5, k1, k2, hb0m, fun b hb => k3 b (dl_mem hb), fun b hb hn hne => ?_, fun c hc => by simp [keys] at hc, ?_⟩
    (fun j σ H6 _ ⟨_, _, _, _, _, _, D, _⟩ => D) (fun j z σ H6 H6' hj hP hY => ?_) (fun σ H6 hP => ?_)
  · refine k4 b hb fun hb' => ?_
    rw [ebs] at hb'
    rcases List.mem_append.mp hb' with z | z
    · exact hn z
    · exact hne (List.mem_singleton.mp z)
  · have : bs.length = bs.dropLast.length + 1 := by rw [ebs]; simp
    omega
  · obtain ⟨kvs', xs', bs', x6, rfl, e6, D6, D7, hl7, hx7, j1, j2, j2', j3, j4, j5, j6⟩ := hP
    obtain ⟨rfl, c, cv, hc, hzc⟩ := hY
    have hcE : Ends G side p b0 c := (hk5 c).mp (List.mem_map.mpr ⟨_, List.mem_of_getElem? hc, rfl⟩)
    have hcS : Star (Ends G side p) s c := .tail (j1 b0 j2') hcE
    refine ⟨_, rfl, _, rfl, d, kvs', c, rfl, D7, hzc, _, rfl, ite2 (fun cc => ?_) (fun cc => ?_)⟩
    · have hcn : ¬ c ∈ keys kvs' := fun z => by rw [valV_isSome.mpr z] at cc; exact absurd cc (by decide)
      have hm1 := spots_most gok D7.nd fun b hb => star_ok gok pok hs (j1 b hb)
      rw [List.length_map] at hm1
      have hm1 : kvs'.length ≤ 31250 := hm1
      refine ⟨_, rfl, _, rfl, d, kvs', c, rfl, D7, hzc, big' (by omega), fun ob D8 => ?_⟩
      have t8 : TK K H6' (upd H6' d ob) := TK.wr D7.noT
      have hl8 : upd H6' d ob l = some (.lst xs') := by rw [upd_ne dl.symm]; exact hl7
      have e8 : Same H (upd H6' d ob) := Same.mut e6 hd
      have hk8 : keys (putK kvs' c (.bl true)) = keys kvs' ++ [c] := by
        rcases keys_putK kvs' c (.bl true) with ⟨_, h⟩ | ⟨h, _⟩
        · exact absurd h hcn
        · exact h
      have hlen8 : (putK kvs' c (.bl true)).length = kvs'.length + 1 := by
        have z := congrArg List.length hk8
        simp [keys] at z
        exact z
      have hm8 := spots_most gok D8.nd fun b hb => by
        rcases mem_putK.mp hb with z | z
        · exact star_ok gok pok hs (j1 b z)
        · rw [z]; exact star_ok gok pok hs hcS
      rw [List.length_map, hlen8] at hm8
      have hbl : bs'.length ≤ 100000 := by omega
      have hxl := hx7.length
      refine ⟨_, rfl, .inl ⟨rfl, _, SqL.of hl8⟩, _, rfl, l, xs', z, rfl, rfl, hl8, big' (by omega), ?_⟩
      have nl8 : NoT (upd H6' d ob l) := by rw [hl8]; trivial
      have t9 : TK K (upd H6' d ob) (upd (upd H6' d ob) l (.lst (xs' ++ [z]))) := TK.wr nl8
      have tt := t8.trans t9
      refine ⟨putK kvs' c (.bl true), xs' ++ [z], bs' ++ [c], _, rfl, Same.mut e8 hl0, D6.fut tt (by rw [upd_ne d2l.symm, upd_ne d2d.symm]), D8.fut t9 (upd_ne dl), upd_same, (hx7.fut tt).snoc (hzc.fut tt), ?_, mem_putK.mpr (.inl j2), mem_putK.mpr (.inl j2'), ?_, ?_, ?_, ?_⟩
      · intro b hb
        rcases mem_putK.mp hb with z | z
        · exact j1 b z
        · rw [z]; exact hcS
      · intro b hb
        rcases List.mem_append.mp hb with z | z
        · exact mem_putK.mpr (.inl (j3 b z))
        · exact mem_putK.mpr (.inr (List.mem_singleton.mp z))
      · intro b hb hn hne c' hc'
        rcases mem_putK.mp hb with z | z
        · exact mem_putK.mpr (.inl (j4 b z (fun y => hn (List.mem_append_left _ y)) hne c' hc'))
        · exact absurd (List.mem_append_right _ (List.mem_singleton.mpr z)) hn
      · intro c' hc'
        rw [take_one hc, keys, List.map_append, List.mem_append] at hc'
        rcases hc' with z | z
        · exact mem_putK.mpr (.inl (j5 c' z))
        · exact mem_putK.mpr (.inr (List.mem_singleton.mp z))
      · rw [hlen8, List.length_append, List.length_singleton]
        omega
    · have hcy : c ∈ keys kvs' := by
        cases z : (valV kvs' c).isSome with
        | true => exact valV_isSome.mp z
        | false => rw [z] at cc; exact absurd rfl cc
      refine ⟨kvs', xs', bs', _, rfl, e6, D6, D7, hl7, hx7, j1, j2, j2', j3, j4, ?_, j6⟩
      intro c' hc'
      rw [take_one hc, keys, List.map_append, List.mem_append] at hc'
      rcases hc' with z | z
      · exact j5 c' z
      · rw [List.mem_singleton.mp z]; exact hcy
  · obtain ⟨kvs', xs', bs', x6, rfl, e6, D6, D7, hl7, hx7, j1, j2, j2', j3, j4, j5, j6⟩ := hP
    refine ⟨_, by omega, kvs', xs', bs', _, rfl, e6, D7, hl7, hx7, j1, j2, j3, ?_, rfl, by omega⟩
    intro b hb hn c' hc'
    by_cases e : b = b0
    · subst e
      rw [List.take_length] at j5
      exact j5 c' ((hk5 c').mpr hc')
    · exact j4 b hb hn e c' hc'
end Sk

/-! Sk: program_ends, spots. -/
namespace Sk
open PySem L2 PySem.Spec PyProof.Rows
variable {P : Program} {w : World} {K : PySem.W.Frag} {mg : Str → Option Value} {base : Heap}

theorem leaf_word {p : Pg} (h : p.leaf = true) : decide (V.str p.word = V.str wRow) = false ∧ decide (V.str p.word = V.str wEither) = false ∧ decide (V.str p.word = V.str wAny) = false := by
  cases p with
  | row ps => simp [Pg.leaf] at h
  | either ps => simp [Pg.leaf] at h
  | any p => simp [Pg.leaf] at h
  | go d => exact (by decide +kernel : decide (V.str wGo = V.str wRow) = false ∧ decide (V.str wGo = V.str wEither) = false ∧ decide (V.str wGo = V.str wAny) = false)
  | empty => exact (by decide +kernel : decide (V.str wEmpty = V.str wRow) = false ∧ decide (V.str wEmpty = V.str wEither) = false ∧ decide (V.str wEmpty = V.str wAny) = false)
  | own => exact (by decide +kernel : decide (V.str wOwn = V.str wRow) = false ∧ decide (V.str wOwn = V.str wEither) = false ∧ decide (V.str wOwn = V.str wAny) = false)
  | foe => exact (by decide +kernel : decide (V.str wFoe = V.str wRow) = false ∧ decide (V.str wFoe = V.str wEither) = false ∧ decide (V.str wFoe = V.str wAny) = false)
  | kin k => exact (by decide +kernel : decide (V.str wAt = V.str wRow) = false ∧ decide (V.str wAt = V.str wEither) = false ∧ decide (V.str wAt = V.str wAny) = false)
  | take => exact (by decide +kernel : decide (V.str wTake = V.str wRow) = false ∧ decide (V.str wTake = V.str wEither) = false ∧ decide (V.str wTake = V.str wAny) = false)
  | lay k => exact (by decide +kernel : decide (V.str wLay = V.str wRow) = false ∧ decide (V.str wLay = V.str wEither) = false ∧ decide (V.str wLay = V.str wAny) = false)
  | rest => exact (by decide +kernel : decide (V.str wRest = V.str wRow) = false ∧ decide (V.str wRest = V.str wEither) = false ∧ decide (V.str wRest = V.str wAny) = false)
theorem leaf_or (p : Pg) : p.leaf = true ∨ (∃ ps, p = .row ps) ∨ (∃ ps, p = .either ps) ∨ ∃ q, p = .any q := by
  cases p <;> simp [Pg.leaf]

theorem step_pe (T : Top K mg) {n h : Nat} (hn : 3 ≤ n) (Gp : FnOk P w K mg base CX0 n T.program_ends.a T.program_ends.fd P_program_ends (sp_pe w T h)) : FnOk P w K mg base CX0 (n + 2) T.program_ends.a T.program_ends.fd P_program_ends (sp_pe w T (h + 1)) := by
  refine T.program_ends.F.ok sc_program_ends (fun vs H Q E h => ?_) (fun cdv A outer s H vs Q E hr hh => ?_)
  · obtain ⟨_, _, _, _, _, _, _, rfl, _⟩ := h; rfl
  obtain ⟨g, G, side, v, u, p, s, rfl, hg, gok, hp, pok, ph, hu', hs, q⟩ := hh
  have nd := sc_program_ends.nd
  have hu := hu64 hr
  refine ⟨_, (pss_cons (ps_if (pt_cmpR op_eq (pe_ix ix_tup (pv 2) pe_int (fun _ _ => rfl)) pe_str (nomark _))
      (pss_one (ps_ret (pe_call (ok_row_ends T Gp) (hr.mono (by omega)) rfl T.row_ends.m T.row_ends.k T.row_ends.b .nil pass0 (pa_cons (pv 0) (pa_cons (pv 1) (pa_cons (pe_ix ix_tup (pv 2) pe_int (fun _ _ => rfl)) (pa_cons (pv 3) pa_nil)))))))
      pss_nil)
    (pss_cons (ps_if (pt_cmpR op_eq (pe_ix ix_tup (pv 2) pe_int (fun _ _ => rfl)) pe_str (nomark _))
      (pss_cons (ps_set (i := 4) nd rfl (Or.inl rfl) (pe_nnew Spot))
      (pss_cons (ps_for PassesOwn.never rfl (pi_list (pe_ix ix_tup (pv 2) pe_int (fun _ _ => rfl))) (pg_name (i := 5) nd rfl (Or.inl rfl))
        (pss_one (ps_expr (pe_nm PySem.F.slot_dict_update (by rfl) (mt_nupd Spot hu) (pv 4) (pa_cons (pe_call (Gp) (hr.mono (by omega)) rfl T.program_ends.m T.program_ends.k T.program_ends.b .nil pass0 (pa_cons (pv 0) (pa_cons (pv 1) (pa_cons (pv 5) (pa_cons (pv 3) pa_nil))))) pa_nil)))))
      (pss_one (ps_ret (pv 4)))))
      pss_nil)
    (pss_cons (ps_if (pt_cmpR op_eq (pe_ix ix_tup (pv 2) pe_int (fun _ _ => rfl)) pe_str (nomark _))
      (pss_one (ps_ret (pe_call (ok_any_ends T Gp) (hr.mono (by omega)) rfl T.any_ends.m T.any_ends.k T.any_ends.b .nil pass0 (pa_cons (pv 0) (pa_cons (pv 1) (pa_cons (pe_ix ix_tup (pv 2) pe_int (fun _ _ => rfl)) (pa_cons (pv 3) pa_nil)))))))
      pss_nil)
    (pss_one (ps_ret (pe_bk (own := [("end", 6)]) (g := gName 6) (tt := tYes) (form_dict Spot hu (fun _ _ _ _ _ => (pv 6)) (fun _ _ _ _ _ => pe_bl)) rfl rfl nd (pi_list (pe_call (ok_step_ends T) (hr.mono (by omega)) rfl T.step_ends.m T.step_ends.k T.step_ends.b .nil pass0 (pa_cons (pv 0) (pa_cons (pv 1) (pa_cons (pv 2) (pa_cons (pv 3) pa_nil)))))) (blkOk_by (N := N_program_ends) (sc := defScope s_program_ends) (by decide +kernel)) (fun _ _ _ _ _ => (pg_name (i := 6) nd rfl (Or.inl rfl))) (fun _ _ _ _ _ => pts_nil))))))), ?_⟩
  rcases leaf_or p with hl | ⟨ps, rfl⟩ | ⟨ps, rfl⟩ | ⟨p, rfl⟩
  · obtain ⟨a, r, rfl, ha⟩ := hp.word
    obtain ⟨w1, w2, w3⟩ := leaf_word hl
    refine ⟨_, rfl, a, _, _, _, rfl, rfl, ha, at_0, rfl, _, rfl, ite2 (fun c => absurd (c.symm.trans w1) (by decide)) (fun _ => ?_)⟩
    refine ⟨_, rfl, a, _, _, _, rfl, rfl, ha, at_0, rfl, _, rfl, ite2 (fun c => absurd (c.symm.trans w2) (by decide)) (fun _ => ?_)⟩
    refine ⟨_, rfl, a, _, _, _, rfl, rfl, ha, at_0, rfl, _, rfl, ite2 (fun c => absurd (c.symm.trans w3) (by decide)) (fun _ => ?_)⟩
    refine ⟨_, rfl, _, rfl, _, rfl, _, rfl, g, G, side, .ref a, u, p, s, rfl, hg, gok, hp, hl, pok, hu', hs, fun l xs H1 e1 n1 hl1 hx1 => ⟨l, rfl, ⟨_, SqL.of hl1⟩, fun D hD ob0 D0 => ?_⟩⟩
    refine bk_it (walkL (K := K) (a := l) (xs := xs)) (fun i H2 => ∃ kvs, Same H1 H2 ∧ DictAt w K H2 D kvs ∧ kvs.length ≤ i ∧ ∀ b, b ∈ keys kvs ↔ b ∈ (stepE G side p s).take i) ⟨[], Same.new hD, D0, Nat.zero_le _, fun b => by simp [keys]⟩ (fun i H2 _ ⟨_, e, _⟩ => SqL.of (e _ _ hl1)) (fun i x H2 H2' hi hP hY => ?_) (fun H2 hP => ?_)
    · obtain ⟨kvs, e2, D2, hz, hk⟩ := hP
      obtain ⟨rfl, hx⟩ := hY
      obtain ⟨b, hb, hR⟩ := hx1.get hx
      have hlen := hx1.length
      have := step_len (G := G) side p s
      refine ⟨rfl, _, rfl, kvs, b, D2, hR.same e2, big' (by omega), fun ob D3 => ⟨_, Same.mut e2 hD, D3, ?_, fun c => ?_⟩⟩
      · have := length_putK kvs b (.bl true)
        omega
      · rw [mem_putK, hk, take_one hb, List.mem_append, List.mem_singleton]
    · obtain ⟨kvs, e2, D2, hz, hk⟩ := hP
      rw [hx1.length, List.take_length] at hk
      exact q D kvs H2 (e1.trans e2) (e1.free hD) D2 fun b => (hk b).trans (ends_leaf hl).symm
  · cases hp with
    | one h1 h2 => simp at h2
    | @row a l vs _ ha hvs hps =>
      unfold Pg.ok at pok
      unfold Pg.hgt at ph
      refine ⟨_, rfl, a, _, _, _, rfl, rfl, ha, at_0, rfl, _, rfl, ?_⟩
      refine ite2 (fun _ => ?_) (fun c => absurd (by decide +kernel) c)
      refine ⟨_, rfl, _, rfl, _, rfl, a, _, _, _, rfl, rfl, ha, at_1, _, rfl, g, l, G, side, vs, u, ps, s, rfl, hg, gok, hvs, hps, pok, by omega, hu', hs, fun d kvs H' e n D hk => q d kvs H' e n D fun b => (hk b).trans (by unfold Ends; exact Iff.rfl)⟩
  · cases hp with
    | one h1 h2 => simp at h2
    | @either a l vs _ ha hvs hps =>
      unfold Pg.ok at pok
      unfold Pg.hgt at ph
      refine ⟨_, rfl, a, _, _, _, rfl, rfl, ha, at_0, rfl, _, rfl, ?_⟩
      refine ite2 (fun c => absurd c (by decide +kernel)) (fun _ => ?_)
      refine ⟨_, rfl, a, _, _, _, rfl, rfl, ha, at_0, rfl, _, rfl, ?_⟩
      refine ite2 (fun _ => ?_) (fun c => absurd (by decide +kernel) c)
      intro d hd ob D0
      have e1 : Same H (upd H d ob) := Same.new hd
      have hlen := hps.all.length
      refine ⟨_, rfl, a, _, _, _, rfl, rfl, seqT e1 ha, at_1, l, rfl, ⟨_, e1.seq hvs⟩, ?_⟩
      refine for_it (walkL (K := K) (a := l) (xs := vs)) (fun i σ H1 => ∃ kvs x5 x6, σ = [some (.ref g), some (.int side), some (.ref a), some u, some (.ref d), x5, x6] ∧ Same H H1 ∧ DictAt w K H1 d kvs ∧ ∀ b, b ∈ keys kvs ↔ EndsE G side (ps.take i) s b)
        ⟨_, _, _, rfl, e1, D0, fun b => by simp [EndsE, keys]⟩ (fun i σ H1 _ ⟨_, _, _, _, e, _⟩ => e.seq hvs) (fun i x σ H1 H1' hi hP hY => ?_) (fun σ H1 hP => ?_)
      · obtain ⟨kvs, x5, x6, rfl, e, D, hk⟩ := hP
        obtain ⟨rfl, hx⟩ := hY
        obtain ⟨p, hp1, hp2⟩ := hps.all.get' hx
        have hpm : p ∈ ps := List.mem_of_getElem? hp1
        have pk := oks_mem pok p hpm
        have pg : p.hgt < h := by have := hgts_mem hpm; omega
        obtain ⟨es, ep, D⟩ := D
        refine ⟨_, rfl, ⟨d, es, ep, rfl, D.ob⟩, _, rfl, _, rfl, _, rfl, _, rfl, g, G, side, x, u, p, s, rfl, hg.same e, gok, hp2.same e _ _, pk, pg, hu'.same e, hs, fun d5 kvs5 H5 e5 n5 D5 k5 => ?_⟩
        have D' : DictAt w K H1' d kvs := ⟨es, ep, D⟩
        have hs1 : ∀ b ∈ keys kvs, SpotK G b := fun b hb => (endsE_ok gok _ s b (oks_take pok i) hs ((hk b).mp hb)).1
        have hs5 : ∀ b ∈ keys kvs5, SpotK G b := fun b hb => (ends_ok gok p s b pk hs ((k5 b).mp hb)).1
        have z1 := spots_most gok D'.nd hs1
        have z2 := spots_most gok D5.nd hs5
        rw [List.length_map] at z1 z2
        have z1 : kvs.length ≤ 31250 := z1
        have z2 : kvs5.length ≤ 31250 := z2
        refine ⟨d, d5, kvs, kvs5, rfl, rfl, D'.same e5, D5, D'.ne n5, apart_of gok D5.nd hs5, big (by omega), fun ob D7 => ⟨_, _, _, rfl, Same.mut (e.trans e5) hd, D7, fun b => ?_⟩⟩
        rw [mem_putAll, hk, k5, take_one hp1, endsE_snoc]
      · obtain ⟨kvs, x5, x6, rfl, e, D, hk⟩ := hP
        rw [hlen, List.take_length] at hk
        exact ⟨_, rfl, q d kvs H1 e hd D fun b => (hk b).trans (by unfold Ends; exact Iff.rfl)⟩
  · cases hp with
    | one h1 h2 => simp at h2
    | @any a v _ ha hv =>
      unfold Pg.ok at pok
      unfold Pg.hgt at ph
      refine ⟨_, rfl, a, _, _, _, rfl, rfl, ha, at_0, rfl, _, rfl, ?_⟩
      refine ite2 (fun c => absurd c (by decide +kernel)) (fun _ => ?_)
      refine ⟨_, rfl, a, _, _, _, rfl, rfl, ha, at_0, rfl, _, rfl, ?_⟩
      refine ite2 (fun c => absurd c (by decide +kernel)) (fun _ => ?_)
      refine ⟨_, rfl, a, _, _, _, rfl, rfl, ha, at_0, rfl, _, rfl, ?_⟩
      refine ite2 (fun _ => ?_) (fun c => absurd (by decide +kernel) c)
      refine ⟨_, rfl, _, rfl, _, rfl, a, _, _, _, rfl, rfl, ha, at_1, _, rfl, g, G, side, v, u, p, s, rfl, hg, gok, hv, pok.2, by omega, hu', hs, fun d kvs H' e n D hk => q d kvs H' e n D fun b => (hk b).trans (by unfold Ends; exact Iff.rfl)⟩
theorem ok_pe (T : Top K mg) : ∀ h : Nat, FnOk P w K mg base CX0 (3 + 2 * h) T.program_ends.a T.program_ends.fd P_program_ends (sp_pe w T h)
  | 0 => by
    have no : ∀ vs H Q E, ¬ sp_pe w T 0 vs H Q E := fun vs H Q E ⟨_, _, _, _, _, p, _, _, _, _, _, _, h, _⟩ => Nat.not_lt_zero _ h
    exact ⟨fun vs H Q E h => absurd h (no vs H Q E), fun A outer s H args us vs Q E _ _ _ _ h => absurd h (no vs H Q E)⟩
  | h + 1 => step_pe (n := 3 + 2 * h) T (Nat.le_add_right _ _) (ok_pe T h)
theorem ok_program_ends (T : Top K mg) : FnOk P w K mg base CX0 21 T.program_ends.a T.program_ends.fd P_program_ends (sp_pe w T 9) := ok_pe T 9

/-- a new list of what R tells, sorted -/
abbrev ListOf {β : Type} [EncS β] (K : PySem.W.Frag) (H : Hp) (Q : VK) (E : β → Prop) : Prop := ∀ l xs bs H', Same H H' → H l = none → H' l = some (.lst xs) → Rs K H' xs (srt bs) → bs.Nodup → (∀ b : β, b ∈ bs ↔ E b) → Q (.ref l) H'
def sp_spots (K : PySem.W.Frag) (T : Top K mg) : Sp := fun vs H Q _ => ∃ (g : Addr) (G : GD) (side : Int) (v u : V) (p : Pg) (s : Spot), vs = [.ref g, .int side, v, u] ∧ GameAt K H T.c_Game T.c_Board g G ∧ GOk G ∧ PgR K H v p ∧ p.ok G ∧ p.hgt ≤ 8 ∧ R K H u s ∧ SpotK G s ∧
  ListOf K H Q (Ends G side p s)
theorem ok_spots (T : Top K mg) : FnOk P w K mg base CX0 22 T.spots.a T.spots.fd P_spots (sp_spots K T) := by
  refine T.spots.F.ok sc_spots (fun vs H Q E h => ?_) (fun cdv A outer s H vs Q E hr hh => ?_)
  · obtain ⟨_, _, _, _, _, _, _, rfl, _⟩ := h; rfl
  obtain ⟨g, G, side, v, u, p, s, rfl, hg, gok, hp, pok, ph, hu', hs, q⟩ := hh
  have nd := sc_spots.nd
  have hu := hu64 hr
  refine ⟨_, (pss_one (ps_ret (pe_callB (cr_sortD Spot rfl hu) rfl T.z_sorted (by decide +kernel) (pa_cons (pe_call (ok_program_ends T) (hr.mono (by decide)) rfl T.program_ends.m T.program_ends.k T.program_ends.b .nil pass0 (pa_cons (pv 0) (pa_cons (pv 1) (pa_cons (pv 2) (pa_cons (pv 3) pa_nil))))) pa_nil)))), ?_⟩
  refine ⟨_, rfl, _, rfl, _, rfl, _, rfl, g, G, side, v, u, p, s, rfl, hg, gok, hp, pok, by omega, hu', hs, fun d kvs H1 e1 n1 D1 hk => ?_⟩
  exact ⟨d, kvs, rfl, D1, fun l xs hl hx => q l xs (keys kvs) _ (e1.trans (Same.new hl)) (e1.free hl) upd_same hx D1.nd hk⟩
end Sk

/-! Sk: program_of, man_runs, runs, moves, after. -/
namespace Sk
open PySem L2 PySem.Spec PyProof.Rows
variable {P : Program} {w : World} {K : PySem.W.Frag} {mg : Str → Option Value} {base : Heap}

def sp_program_of (K : PySem.W.Frag) (T : Top K mg) : Sp := fun vs H Q _ => ∃ (g : Addr) (G : GD) (man : Int) (pp : Pg × Pg), vs = [.ref g, .int man] ∧ GameAt K H T.c_Game T.c_Board g G ∧ 0 ≤ kindOf man ∧ G.progs[(kindOf man).toNat]? = some pp ∧
  ∀ v, PgR K H v (if sideOf man = 0 then pp.1 else pp.2) → Q v H
theorem ok_program_of (T : Top K mg) : FnOk P w K mg base CX0 2 T.program_of.a T.program_of.fd P_program_of (sp_program_of K T) := by
  refine T.program_of.F.ok sc_program_of (fun vs H Q E h => ?_) (fun cdv A outer s H vs Q E hr hh => ?_)
  · obtain ⟨_, _, _, _, rfl, _⟩ := h; rfl
  obtain ⟨g, G, man, pp, rfl, hg, h0, h1, q⟩ := hh
  refine ⟨_, (pss_one (ps_ret (pe_ix ix_tup (pe_ix ix_list (pe_fld (pv 0) rfl) (pe_call (ok_kind_of T) (hr.mono (by decide)) rfl T.kind_of.m T.kind_of.k T.kind_of.b .nil pass0 (pa_cons (pv 1) pa_nil)) (fun _ _ => rfl)) (pe_call (ok_side_of T) (hr.mono (by decide)) rfl T.side_of.m T.side_of.k T.side_of.b .nil pass0 (pa_cons (pv 1) pa_nil)) (fun _ _ => rfl)))), ?_⟩
  obtain ⟨b', lk, lc, lp, lw, dx, dy, g1, g2, g3⟩ := hg
  obtain ⟨ps, p1, p2⟩ := g3.progs
  obtain ⟨v, e1, a, x, y, rfl, hv, hx, hy⟩ := p2.get h1
  have side01 : sideOf man = 0 ∨ sideOf man = 1 := by unfold sideOf; omega
  refine ⟨_, rfl, g, T.c_Game, dx, _, _, rfl, g1, T.Game.cl, T.n_Game_programs, rfl, _, rfl, man, rfl, lp, _, _, _, rfl, rfl, p1, at_vs h0 e1, _, rfl, man, rfl, ?_⟩
  rcases side01 with e | e
  · refine ⟨a, _, _, x, rfl, rfl, hv, by rw [e]; exact at_0, q x ?_⟩
    rw [if_pos e]
    exact hx
  · refine ⟨a, _, _, y, rfl, rfl, hv, by rw [e]; exact at_1, q y ?_⟩
    rw [if_neg (by rw [e]; decide)]
    exact hy

def sp_after (K : PySem.W.Frag) (T : Top K mg) : Sp := fun vs H Q _ => ∃ (g : Addr) (G : GD) (u v : V) (p : Psn) (mv : Mv), vs = [.ref g, u, v] ∧ GOk G ∧ R K H u p ∧ PosOk G p ∧ R K H v mv ∧ (0 ≤ mv.s ∧ mv.s < G.n) ∧ (0 ≤ mv.f ∧ mv.f < G.n) ∧ (0 ≤ mv.k ∧ mv.k ≤ 1) ∧ (∀ x ∈ mv.t, 0 ≤ x ∧ x < G.n) ∧
  ∀ a H', Same H H' → R K H' (.ref a) (aft p mv) → Q (.ref a) H'
theorem ok_after (T : Top K mg) : FnOk P w K mg base CX0 2 T.after.a T.after.fd P_after (sp_after K T) := by
  refine T.after.F.ok sc_after (fun vs H Q E h => ?_) (fun cdv A outer s H vs Q E hr hh => ?_)
  · obtain ⟨_, _, _, _, _, _, rfl, _⟩ := h; rfl
  obtain ⟨g, G, u, v, p, mv, rfl, gok, hp, pok, hm, hs, hf, hk, ht, q⟩ := hh
  have nd := sc_after.nd
  refine ⟨_, (pss_cons (ps_asg (pv 2) (pg_tup rfl (pgs_cons (pg_name (i := 3) nd rfl (Or.inl rfl)) (pgs_cons (pg_name (i := 4) nd rfl (Or.inl rfl)) (pgs_cons (pg_name (i := 5) nd rfl (Or.inl rfl)) (pgs_cons (pg_name (i := 6) nd rfl (Or.inl rfl)) pgs_nil))))))
    (pss_cons (ps_asg (pv 1) (pg_tup rfl (pgs_cons (pg_name (i := 7) nd rfl (Or.inl rfl)) (pgs_cons (pg_name (i := 8) nd rfl (Or.inl rfl)) pgs_nil))))
    (pss_cons (ps_set (i := 9) nd rfl (Or.inl rfl) (pe_call (ok_with_man T) (hr.mono (by decide)) rfl T.with_man.m T.with_man.k T.with_man.b .nil pass0 (pa_cons (pv 8) (pa_cons (pv 3) (pa_cons pe_int pa_nil)))))
    (pss_cons (ps_for PassesOwn.never rfl (pi_tup (pv 5)) (pg_name (i := 10) nd rfl (Or.inl rfl))
      (pss_one (ps_set (i := 9) nd rfl (Or.inl rfl) (pe_call (ok_with_man T) (hr.mono (by decide)) rfl T.with_man.m T.with_man.k T.with_man.b .nil pass0 (pa_cons (pv 9) (pa_cons (pv 10) (pa_cons pe_int pa_nil)))))))
    (pss_one (ps_ret (pe_tup (pa_cons (pe_op op_sub pe_int (pv 7)) (pa_cons (pe_call (ok_with_man T) (hr.mono (by decide)) rfl T.with_man.m T.with_man.k T.with_man.b .nil pass0 (pa_cons (pv 9) (pa_cons (pv 4) (pa_cons (pe_call (ok_man_of T) (hr.mono (by decide)) rfl T.man_of.m T.man_of.k T.man_of.b .nil pass0 (pa_cons (pv 7) (pa_cons (pv 6) pa_nil))) pa_nil)))) pa_nil))))))))), ?_⟩
  obtain ⟨a, b, rfl, ha, hb⟩ := hp.pos
  obtain ⟨c, d, rfl, hc, hd⟩ := hm.mv
  have len : ∀ m : List Int, m.length = G.n → m.length ≤ 1000 := fun m h => by rw [h]; have := gok.n5; omega
  refine ⟨_, rfl, c, _, rfl, hc, rfl, _, _, rfl, _, _, rfl, _, _, rfl, _, _, rfl, rfl, _, rfl, a, _, rfl, ha, rfl, _, _, rfl, _, _, rfl, rfl, ?_⟩
  have hl := pok.men.len
  refine ⟨_, rfl, _, rfl, b, p.m, mv.s, 0, rfl, hb, hs.1, by rw [hl]; exact hs.2, len _ hl, fun x H1 e1 hx => ?_⟩
  refine ⟨_, rfl, d, rfl, ⟨_, seqT e1 hd⟩, ?_⟩
  refine for_it (walkT (K := K) (a := d) (xs := mv.t.map .int)) (fun i σ H2 => ∃ x xi, σ = [some (.ref g), some (.ref a), some (.ref c), some (.int mv.s), some (.int mv.f), some (.ref d), some (.int mv.k), some (.int p.t), some (.ref b), some (.ref x), xi] ∧ Same H H2 ∧ SqT K H2 x (((mv.t.take i).foldl (fun m pl => setM m pl 0) (setM p.m mv.s 0)).map .int))
    ⟨x, _, rfl, e1, hx⟩ (fun i σ H2 _ ⟨_, _, _, e, _⟩ => seqT e hd) (fun i y σ H2 H2' hi hP hY => ?_) (fun σ H2 hP => ?_)
  · obtain ⟨x, xi, rfl, e2, hx⟩ := hP
    obtain ⟨rfl, hy⟩ := hY
    rw [List.getElem?_map] at hy
    obtain ⟨pl, hpl, rfl⟩ := Option.map_eq_some_iff.mp hy
    have hpm := ht pl (List.mem_of_getElem? hpl)
    have hl2 : ((mv.t.take i).foldl (fun m pl => setM m pl 0) (setM p.m mv.s 0)).length = G.n := (fold0_ok (pok.men.set (f := mv.s) (Int.le_refl 0) (by omega)) (mv.t.take i)).1.len
    refine ⟨_, rfl, _, rfl, x, _, pl, 0, rfl, hx, hpm.1, by rw [hl2]; exact hpm.2, len _ hl2, fun x' H3 e3 hx' => ⟨x', _, rfl, e2.trans e3, ?_⟩⟩
    rw [take_one hpl, List.foldl_append]
    exact hx'
  · obtain ⟨x, xi, rfl, e2, hx⟩ := hP
    rw [List.length_map, List.take_length] at hx
    have hl2 : (mv.t.foldl (fun m pl => setM m pl 0) (setM p.m mv.s 0)).length = G.n := (fold0_ok (pok.men.set (f := mv.s) (Int.le_refl 0) (by omega)) mv.t).1.len
    refine ⟨_, rfl, _, _, rfl, rfl, _, rfl, _, rfl, _, rfl, _, rfl, p.t, mv.k, rfl, hk.1, by omega, x, _, mv.f, manOf p.t mv.k, rfl, hx, hf.1, by rw [hl2]; exact hf.2, len _ hl2, fun x' H3 e3 hx' => ?_⟩
    refine ⟨(by decide : 2 ≤ sizeLine), fun t hn => ?_⟩
    have e4 := Same.new (o := .tup [.int (1 - p.t), .ref x']) hn
    exact q t _ (e2.trans (e3.trans e4)) (R.ofPos (p := aft p mv) (SqT.of upd_same) (seqT e4 hx'))
end Sk

/-! Sk: man_runs, runs, moves. -/
namespace Sk
open PySem L2 PySem.Spec PyProof.Rows
variable {P : Program} {w : World} {K : PySem.W.Frag} {mg : Str → Option Value} {base : Heap}

def PairR (K : PySem.W.Frag) (H : Hp) (v : V) (mv : Mv) : Prop := ∃ (a b : Addr) (c : V), v = .ref a ∧ SqT K H a [.ref b, c] ∧ R K H (.ref b) mv
theorem PairR.fut {H H' : Hp} (e : TK K H H') {v : V} {mv : Mv} (h : PairR K H v mv) : PairR K H' v mv := let ⟨a, b, c, e1, h1, h2⟩ := h; ⟨a, b, c, e1, e _ _ h1, h2.fut e⟩
def goneTo (i : Nat) (a b : List Int) : List Int := ((List.range i).filter fun i => !decide (a.getD i 0 = b.getD i 0)).map fun (i : Nat) => (i : Int)
theorem goneTo_len (n : Nat) (a b : List Int) : (goneTo n a b).length ≤ n := gone_len n a b
theorem goneTo_succ (i : Nat) (a b : List Int) : goneTo (i + 1) a b = if a.getD i 0 = b.getD i 0 then goneTo i a b else goneTo i a b ++ [(i : Int)] := by
  unfold goneTo
  rw [List.range_succ, List.filter_append, List.map_append]
  by_cases c : a.getD i 0 = b.getD i 0
  · rw [if_pos c]
    have : (List.filter (fun i => !decide (a.getD i 0 = b.getD i 0)) [i]) = [] := by simp only [List.filter_cons, c, decide_true, Bool.not_true, Bool.false_eq_true, if_false, List.filter_nil]
    rw [this]
    simp
  · rw [if_neg c]
    have : (List.filter (fun i => !decide (a.getD i 0 = b.getD i 0)) [i]) = [i] := by simp only [List.filter_cons, c, decide_false, Bool.not_false, if_true, List.filter_nil]
    rw [this]
    rfl
theorem at_i {m : List Int} {i : Nat} (h : i < m.length) : atI (m.map V.int) (0 + (i : Int)) = some (.int (m.getD i 0)) := by
  have e : (0 : Int) + (i : Int) = (i : Int) := by omega
  rw [e]
  refine atI_nat ?_
  rw [List.getElem?_map, List.getD_eq_getElem?_getD, List.getElem?_eq_getElem h]
  rfl
def sp_man_runs (K : PySem.W.Frag) (T : Top K mg) : Sp := fun vs H Q _ => ∃ (g : Addr) (G : GD) (u : V) (p : Psn) (st : Int), vs = [.ref g, u, .int st] ∧ GameAt K H T.c_Game T.c_Board g G ∧ GOk G ∧ R K H u p ∧ PosOk G p ∧ (0 ≤ st ∧ st < G.n) ∧ Own p st ∧
  ∀ l xs mvs H', Same H H' → H l = none → H' l = some (.lst xs) → All2 (PairR K H') xs mvs → (∀ mv, mv ∈ mvs ↔ IsMv G p st mv) → Q (.ref l) H'
theorem ok_man_runs (T : Top K mg) : FnOk P w K mg base CX0 23 T.man_runs.a T.man_runs.fd P_man_runs (sp_man_runs K T) := by
  refine T.man_runs.F.ok sc_man_runs (fun vs H Q E h => ?_) (fun cdv A outer s H vs Q E hr hh => ?_)
  · obtain ⟨_, _, _, _, _, rfl, _⟩ := h; rfl
  obtain ⟨g, G, u, p, st, rfl, hg, gok, hp, pok, hst, own, q⟩ := hh
  have nd := sc_man_runs.nd
  have hu := hu64 hr
  refine ⟨_, (pss_cons (ps_asg (pv 1) (pg_tup rfl (pgs_cons (pg_name (i := 3) nd rfl (Or.inl rfl)) (pgs_cons (pg_name (i := 4) nd rfl (Or.inl rfl)) pgs_nil))))
    (pss_cons (ps_set (i := 5) nd rfl (Or.inl rfl) (pe_ix ix_tup (pv 4) (pv 2) (fun _ _ => rfl)))
    (pss_cons (ps_set (i := 6) nd rfl (Or.inr rfl) (pe_call (ok_with_man T) (hr.mono (by decide)) rfl T.with_man.m T.with_man.k T.with_man.b .nil pass0 (pa_cons (pv 4) (pa_cons (pv 2) (pa_cons pe_int pa_nil)))))
    (pss_cons (ps_set (i := 7) nd rfl (Or.inl rfl) (pe_lst pa_nil))
    (pss_cons (ps_for PassesOwn.never rfl (pi_list (pe_call (ok_spots T) (hr.mono (by decide)) rfl T.spots.m T.spots.k T.spots.b .nil pass0 (pa_cons (pv 0) (pa_cons (pv 3) (pa_cons (pe_call (ok_program_of T) (hr.mono (by decide)) rfl T.program_of.m T.program_of.k T.program_of.b .nil pass0 (pa_cons (pv 0) (pa_cons (pv 5) pa_nil))) (pa_cons (pe_tup (pa_cons (pv 2) (pa_cons (pv 6) (pa_cons (pe_call (ok_kind_of T) (hr.mono (by decide)) rfl T.kind_of.m T.kind_of.k T.kind_of.b .nil pass0 (pa_cons (pv 5) pa_nil)) pa_nil)))) pa_nil)))))) (pg_tup rfl (pgs_cons (pg_name (i := 8) nd rfl (Or.inl rfl)) (pgs_cons (pg_name (i := 9) nd rfl (Or.inr rfl)) (pgs_cons (pg_name (i := 10) nd rfl (Or.inl rfl)) pgs_nil))))
      (pss_cons (ps_set (i := 11) nd rfl (Or.inl rfl) (pe_callTy call_tuple_of rfl T.z_tuple (by decide +kernel) (pa_cons (pe_lc (own := [("place", 13)]) (g := gName 13) rfl nd (pi_range1 rfl T.z_range (pa_cons (pe_callB call_len_seq rfl T.z_len PySem.boot_len (pa_cons (pv 4) pa_nil)) pa_nil)) (blkOk_by (N := N_man_runs) (sc := defScope s_man_runs) (by decide +kernel)) (fun _ _ _ _ _ => (pg_name (i := 13) nd rfl (Or.inl rfl))) (fun _ _ _ _ _ => (pts_one (pt_cmpR op_ne (pe_ix (ix_tupK (K := K) rfl) (pv 6) (pv 13) (fun _ _ => rfl)) (pe_ix (ix_tupK (K := K) rfl) (pv 9) (pv 13) (fun _ _ => rfl)) (nomark _)))) (fun _ _ _ _ _ => (pv 13))) pa_nil)))
      (pss_cons (ps_set (i := 12) nd rfl (Or.inl rfl) (pe_call (ok_with_man T) (hr.mono (by decide)) rfl T.with_man.m T.with_man.k T.with_man.b .nil pass0 (pa_cons (pv 9) (pa_cons (pv 8) (pa_cons (pe_call (ok_man_of T) (hr.mono (by decide)) rfl T.man_of.m T.man_of.k T.man_of.b .nil pass0 (pa_cons (pv 3) (pa_cons (pv 10) pa_nil))) pa_nil)))))
      (pss_one (ps_if (PW.pt (pw_and (pt_cmpR op_eq (pe_ix ix_tup (pv 9) (pv 8) (fun _ _ => rfl)) pe_int (nomark _)) (pw_and1 (pt_cmpR (op_neE (List Int) hu) (pv 12) (pv 4) (nomark _)))))
        (pss_one (ps_expr (pe_bm PySem.F.plainAttrs_list PySem.F.slot_list_append PySem.F.type_list_append mt_append (pv 7) (pa_cons (pe_tup (pa_cons (pe_tup (pa_cons (pv 2) (pa_cons (pv 8) (pa_cons (pv 11) (pa_cons (pv 10) pa_nil))))) (pa_cons (pv 12) pa_nil))) pa_nil))))
        pss_nil)))))
    (pss_one (ps_ret (pv 7)))))))), ?_⟩
  obtain ⟨a, b, rfl, ha, hb⟩ := hp.pos
  have hl := pok.men.len
  have z5 : ∀ m : List Int, m.length = G.n → m.length ≤ 1000 := fun m h => by rw [h]; have := gok.n5; omega
  have hsl : st < p.m.length := by rw [hl]; exact hst.2
  refine ⟨_, rfl, a, _, rfl, ha, rfl, _, _, rfl, _, _, rfl, rfl, ?_⟩
  refine ⟨_, rfl, _, rfl, b, _, _, _, rfl, rfl, hb, at_map hst.1 hsl, ?_⟩
  refine ⟨_, rfl, _, rfl, b, p.m, st, 0, rfl, hb, hst.1, hsl, z5 _ hl, fun lf H1 e1 hlf => ?_⟩
  refine ⟨(by decide : 0 ≤ sizeLine), fun f hf => ?_⟩
  have e2 := e1.trans (Same.new (o := .lst []) hf)
  have hf0 : H f = none := e1.free hf
  have hlf2 := seqT (Same.new (o := .lst []) hf) hlf
  obtain ⟨pp, _, hpp, epp⟩ := prog_ok gok pok hst.1 hst.2 own.1
  obtain ⟨pk1, pk2, pk3⟩ := prog_facts gok pok hst.1 hst.2 own.1
  obtain ⟨lk1, lk2⟩ := lift_ok pok hst.1 hst.2 own.1
  have k0 := (kind_ok pok hst.1 hst.2 own.1).1
  refine ⟨_, rfl, _, rfl, _, rfl, _, rfl, g, G, _, pp, rfl, hg.same e2, k0, hpp, fun v hv => ?_⟩
  rw [own.2, ← epp] at hv
  refine ⟨_, rfl, _, rfl, _, rfl, _, rfl, (by decide : 3 ≤ sizeLine), fun t ht => ?_⟩
  have e3 := Same.new (o := .tup [.int st, .ref lf, .int (kindOf (at0 p.m st))]) ht
  have e4 := e2.trans e3
  refine ⟨g, G, p.t, v, .ref t, _, liftS p st, rfl, hg.same e4, gok, hv.same e3 _ _, pk1, pk3, R.ofSpot (p := liftS p st) (SqT.of upd_same) (seqT e3 hlf2), lk1, fun l xs bs H5 e5 n5 hl5 hx5 nd5 k5 => ?_⟩
  have hfl : f ≠ l := ne_of_none (e3 _ _ (show upd H1 f (.lst []) f = some (.lst []) from upd_same)) n5
  have hf5 : H5 f = some (.lst []) := e5 _ _ (e3 _ _ upd_same)
  have sOk : ∀ s ∈ srt bs, SpotK G s := fun s hs => (ends_ok gok _ _ s pk1 lk1 ((k5 s).mp (srt_mem.mp hs))).1
  refine ⟨l, rfl, ⟨_, SqL.of hl5⟩, ?_⟩
  have nfew : (srt bs).length ≤ 31250 := spots_most gok (srt_nd nd5) sOk
  refine for_it (walkL (K := K) (a := l) (xs := xs)) (fun i σ H2 => ∃ xs' mvs x8 x9 x10 x11 x12 x13, σ = [some (.ref g), some (.ref a), some (.int st), some (.int p.t), some (.ref b), some (.int (at0 p.m st)), some (.ref lf), some (.ref f), x8, x9, x10, x11, x12, x13] ∧ Same H H2 ∧ H2 l = some (.lst xs) ∧ Rs K H2 xs (srt bs) ∧ SqT K H2 lf ((setM p.m st 0).map .int) ∧
      H2 f = some (.lst xs') ∧ All2 (PairR K H2) xs' mvs ∧ xs'.length ≤ i ∧ ∀ mv, mv ∈ mvs ↔ ∃ s ∈ (srt bs).take i, at0 s.m s.f = 0 ∧ ¬ behind p s = p.m ∧ mv = mvOf G p st s)
    ⟨[], [], _, _, _, _, _, _, rfl, e4.trans e5, hl5, hx5, seqT e5 (seqT e3 hlf2), hf5, .nil, Nat.zero_le _, fun mv => by simp⟩ (fun i σ H2 _ ⟨_, _, _, _, _, _, _, _, _, _, h, _⟩ => SqL.of h) (fun i x σ H2 H2' hi hP hY => ?_) (fun σ H2 hP => ?_)
  · obtain ⟨xs', mvs, x8, x9, x10, x11, x12, x13, rfl, e6, hl6, hx6, hlf6, hf6, hm6, hz6, hk6⟩ := hP
    obtain ⟨rfl, hx⟩ := hY
    obtain ⟨s, hs, hR⟩ := hx6.get hx
    have sk := sOk s (List.mem_of_getElem? hs)
    obtain ⟨c, d, rfl, hc, hd⟩ := hR.spot
    have sl := sk.men.len
    have f1 : s.f < s.m.length := by rw [sl]; exact sk.f1
    refine ⟨c, _, rfl, hc, rfl, _, _, rfl, _, _, rfl, _, _, rfl, rfl, ?_⟩
    -- taken
    refine ⟨_, rfl, b, _, rfl, .inr (seqT e6 hb), _, rfl, by rw [List.length_map, hl]; have := gok.n5; omega, by rw [List.length_map, hl]; have := gok.n5; omega, ?_⟩
    intro D hD
    have en : ((p.m.map V.int).length : Int).toNat = G.n := by rw [List.length_map, hl]; exact Int.toNat_natCast _
    refine lc_range (lo := 0) (n := ((p.m.map V.int).length : Int).toNat) (fun i H3 => ∃ acc, H3 = upd H2' D (.lst acc) ∧ acc = (goneTo i (setM p.m st 0) s.m).map .int) ⟨[], rfl, rfl⟩ (fun i H3 hi3 hP3 => ?_) (fun H3 hP3 => ?_)
    · obtain ⟨acc, rfl, rfl⟩ := hP3
      rw [en] at hi3
      have e7 := Same.new (o := .lst ((goneTo i (setM p.m st 0) s.m).map .int)) hD
      have la : i < (setM p.m st 0).length := by unfold setM; rw [List.length_set, hl]; exact hi3
      refine ⟨rfl, _, rfl, _, rfl, lf, _, _, _, rfl, rfl, seqT e7 hlf6, at_i la, _, rfl, _, rfl, d, _, _, _, rfl, rfl, seqT e7 hd, at_i (by rw [sl]; exact hi3), rfl, _, rfl, ite2 (fun cc => ?_) (fun cc => ?_)⟩
      · have cc : ¬ (setM p.m st 0).getD i 0 = s.m.getD i 0 := by simpa using cc
        refine ⟨_, rfl, _, upd_same, big' ?_, _, upd_upd, ?_⟩
        · rw [List.length_map]
          have := goneTo_len i (setM p.m st 0) s.m
          have := gok.n5
          omega
        · rw [goneTo_succ, if_neg cc, List.map_append]
          have e0 : (0 : Int) + (i : Int) = (i : Int) := by omega
          rw [e0]
          rfl
      · have cc : (setM p.m st 0).getD i 0 = s.m.getD i 0 := by simpa using cc
        exact ⟨_, rfl, by rw [goneTo_succ, if_pos cc]⟩
    · obtain ⟨acc, rfl, rfl⟩ := hP3
      rw [en]
      have e7 := Same.new (o := .lst ((goneTo G.n (setM p.m st 0) s.m).map .int)) hD
      refine ⟨D, _, rfl, .inl ⟨SqL.of upd_same, fun tk htk => ?_⟩⟩
      have e8 := Same.new (o := .tup ((goneTo G.n (setM p.m st 0) s.m).map .int)) htk
      have e9 := e7.trans e8
      have htk2 : SqT K (upd (upd H2' D (.lst ((goneTo G.n (setM p.m st 0) s.m).map .int))) tk (.tup ((goneTo G.n (setM p.m st 0) s.m).map .int))) tk ((goneTo G.n (setM p.m st 0) s.m).map .int) := SqT.of upd_same
      -- behind
      refine ⟨_, rfl, _, rfl, _, rfl, _, rfl, p.t, s.k, rfl, sk.k0, by have := sk.k1; have := gok.k2; omega, d, s.m, s.f, manOf p.t s.k, rfl, seqT e9 hd, sk.f0, f1, z5 _ sl, fun bh H8 e10 hbh => ?_⟩
      have e11 := e9.trans e10
      have tkmem : (srt bs).take (i + 1) = (srt bs).take i ++ [s] := take_one hs
      have fl : f ≠ l := hfl
      -- the way on where nothing is added
      have skip : ¬ (at0 s.m s.f = 0 ∧ ¬ behind p s = p.m) → ∃ xs' mvs, H8 l = some (.lst xs) ∧ Rs K H8 xs (srt bs) ∧ SqT K H8 lf ((setM p.m st 0).map .int) ∧ H8 f = some (.lst xs') ∧ All2 (PairR K H8) xs' mvs ∧ xs'.length ≤ i + 1 ∧ ∀ mv, mv ∈ mvs ↔ ∃ s ∈ (srt bs).take (i + 1), at0 s.m s.f = 0 ∧ ¬ behind p s = p.m ∧ mv = mvOf G p st s := fun no => by
        refine ⟨xs', mvs, e11 _ _ hl6, hx6.same e11, seqT e11 hlf6, e11 _ _ hf6, hm6.mono fun _ _ z => z.fut (TK.same e11), Nat.le_succ_of_le hz6, fun mv => ?_⟩
        rw [hk6, tkmem]
        constructor
        · rintro ⟨s', h1, h2⟩; exact ⟨s', List.mem_append_left _ h1, h2⟩
        · rintro ⟨s', h1, h2, h3, h4⟩
          rcases List.mem_append.mp h1 with z | z
          · exact ⟨s', z, h2, h3, h4⟩
          · rw [List.mem_singleton.mp z] at h2 h3; exact absurd ⟨h2, h3⟩ no
      refine ⟨_, rfl, _, rfl, d, _, _, _, rfl, rfl, seqT e11 hd, at_map sk.f0 f1, rfl, _, rfl, ite2 (fun c1 => ?_) (fun c1 => ?_)⟩
      · have c1 : at0 s.m s.f = 0 := by simpa using c1
        refine ⟨_, rfl, _, rfl, behind p s, p.m, R.ofInts hbh, R.ofInts (seqT (e6.trans e11) hb), _, rfl, ite2 (fun c2 => ?_) (fun c2 => ?_)⟩
        · have c2 : ¬ behind p s = p.m := by simpa using c2
          refine ⟨_, rfl, .inl ⟨rfl, _, SqL.of (e11 _ _ hf6)⟩, _, rfl, _, rfl, _, rfl, _, rfl, (by decide : 4 ≤ sizeLine), fun t1 h1 => ⟨_, rfl, (by decide : 2 ≤ sizeLine), fun t2 h2 => ?_⟩⟩
          have e12 := Same.new (o := .tup [.int st, .int s.f, .ref tk, .int s.k]) h1
          have e13 := e12.trans (Same.new (o := .tup [.ref t1, .ref bh]) h2)
          have hf14 := e13 _ _ (e11 _ _ hf6)
          refine ⟨f, xs', _, rfl, rfl, hf14, big' (by have := hx6.length; omega), ?_⟩
          have nt := (show NoT (upd (upd H8 t1 (.tup [.int st, .int s.f, .ref tk, .int s.k])) t2 (.tup [.ref t1, .ref bh]) f) by rw [hf14]; trivial)
          have tt : TK K H2' (upd (upd (upd H8 t1 (.tup [.int st, .int s.f, .ref tk, .int s.k])) t2 (.tup [.ref t1, .ref bh])) f (.lst (xs' ++ [.ref t2]))) := (TK.same (e11.trans e13)).trans (TK.wr nt)
          refine ⟨_, mvs ++ [mvOf G p st s], _, _, _, _, _, _, rfl, Same.mut ((e6.trans e11).trans e13) hf0, ?_, hx6.fut tt, tt _ _ hlf6, upd_same, (hm6.mono fun _ _ z => z.fut tt).snoc ?_, by rw [List.length_append, List.length_singleton]; omega, fun mv => ?_⟩
          · rw [upd_ne fl.symm]
            exact e13 _ _ (e11 _ _ hl6)
          · have q1 : SqT K (upd (upd H8 t1 (.tup [.int st, .int s.f, .ref tk, .int s.k])) t2 (.tup [.ref t1, .ref bh])) t1 [.int st, .int s.f, .ref tk, .int s.k] := seqT (Same.new h2) (SqT.of upd_same)
            have q2 : SqT K (upd (upd H8 t1 (.tup [.int st, .int s.f, .ref tk, .int s.k])) t2 (.tup [.ref t1, .ref bh])) t2 [.ref t1, .ref bh] := SqT.of upd_same
            exact ⟨t2, t1, _, rfl, TK.wr nt _ _ q2, (R.ofMv (p := mvOf G p st s) q1 (seqT (e10.trans e13) htk2)).fut (TK.wr nt)⟩
          · rw [List.mem_append, hk6, tkmem, List.mem_singleton]
            constructor
            · rintro (⟨s', h1, h2⟩ | h1)
              · exact ⟨s', List.mem_append_left _ h1, h2⟩
              · exact ⟨s, List.mem_append_right _ (List.mem_singleton.mpr rfl), c1, c2, h1⟩
            · rintro ⟨s', h1, h2, h3, h4⟩
              rcases List.mem_append.mp h1 with z | z
              · exact .inl ⟨s', z, h2, h3, h4⟩
              · rw [List.mem_singleton.mp z] at h4; exact .inr h4
        · have c2 : behind p s = p.m := by simpa using c2
          obtain ⟨ys, mvs', r1, r2, r3, r4, r5, r6, r7⟩ := skip (fun z => z.2 c2)
          exact ⟨ys, mvs', _, _, _, _, _, _, rfl, e6.trans e11, r1, r2, r3, r4, r5, r6, r7⟩
      · have c1 : ¬ at0 s.m s.f = 0 := by simpa using c1
        obtain ⟨ys, mvs', r1, r2, r3, r4, r5, r6, r7⟩ := skip (fun z => c1 z.1)
        exact ⟨ys, mvs', _, _, _, _, _, _, rfl, e6.trans e11, r1, r2, r3, r4, r5, r6, r7⟩
  · obtain ⟨xs', mvs, x8, x9, x10, x11, x12, x13, rfl, e6, hl6, hx6, hlf6, hf6, hm6, hz6, hk6⟩ := hP
    rw [hx5.length, List.take_length] at hk6
    refine ⟨_, rfl, q f xs' mvs H2 e6 hf0 hf6 hm6 fun mv => (hk6 mv).trans ?_⟩
    constructor
    · rintro ⟨s, h1, h2, h3, h4⟩; exact ⟨s, ⟨(k5 s).mp (srt_mem.mp h1), h2, h3⟩, h4⟩
    · rintro ⟨s, ⟨h1, h2, h3⟩, h4⟩; exact ⟨s, srt_mem.mpr ((k5 s).mpr h1), h2, h3, h4⟩
end Sk

/-! Sk: runs, moves, has_man. -/
namespace Sk
open PySem L2 PySem.Spec PyProof.Rows
variable {P : Program} {w : World} {K : PySem.W.Frag} {mg : Str → Option Value} {base : Heap}

def sp_runs (w : World) (K : PySem.W.Frag) (T : Top K mg) : Sp := fun vs H Q _ => ∃ (g : Addr) (G : GD) (u : V) (p : Psn), vs = [.ref g, u] ∧ GameAt K H T.c_Game T.c_Board g G ∧ GOk G ∧ R K H u p ∧ PosOk G p ∧
  ∀ d kvs H', Same H H' → H d = none → DictAt w K H' d kvs → (∀ mv : Mv, mv ∈ keys kvs ↔ Moves G p mv) → Q (.ref d) H'
/-- a move from one of the first i fields -/
def MovesTo (G : GD) (p : Psn) (i : Nat) (mv : Mv) : Prop := ∃ st : Int, 0 ≤ st ∧ st < i ∧ st < G.n ∧ Own p st ∧ IsMv G p st mv
theorem movesTo_all {G : GD} {p : Psn} {i : Nat} {mv : Mv} (h : MovesTo G p i mv) : Moves G p mv := let ⟨st, h0, _, h1, h2, h3⟩ := h; ⟨st, h0, h1, h2, h3⟩
theorem ok_runs (T : Top K mg) : FnOk P w K mg base CX0 24 T.runs.a T.runs.fd P_runs (sp_runs w K T) := by
  refine T.runs.F.ok sc_runs (fun vs H Q E h => ?_) (fun cdv A outer s H vs Q E hr hh => ?_)
  · obtain ⟨_, _, _, _, rfl, _⟩ := h; rfl
  obtain ⟨g, G, u, p, rfl, hg, gok, hp, pok, q⟩ := hh
  have nd := sc_runs.nd
  have hu := hu64 hr
  refine ⟨_, (pss_cons (ps_asg (pv 1) (pg_tup rfl (pgs_cons (pg_name (i := 2) nd rfl (Or.inl rfl)) (pgs_cons (pg_name (i := 3) nd rfl (Or.inl rfl)) pgs_nil))))
    (pss_cons (ps_set (i := 4) nd rfl (Or.inl rfl) (pe_nnew Mv))
    (pss_cons (ps_for PassesOwn.never rfl (pi_enumT rfl T.z_enumerate (pa_cons (pv 3) pa_nil)) (pg_tup rfl (pgs_cons (pg_name (i := 5) nd rfl (Or.inl rfl)) (pgs_cons (pg_name (i := 6) nd rfl (Or.inl rfl)) pgs_nil)))
      (pss_one (ps_if (PW.pt (pw_and (pt_cmpR op_ne (pv 6) pe_int (nomark _)) (pw_and1 (pt_cmpR op_eq (pe_call (ok_side_of T) (hr.mono (by decide)) rfl T.side_of.m T.side_of.k T.side_of.b .nil pass0 (pa_cons (pv 6) pa_nil)) (pv 2) (nomark _)))))
        (pss_one (ps_for PassesOwn.never rfl (pi_list (pe_call (ok_man_runs T) (hr.mono (by decide)) rfl T.man_runs.m T.man_runs.k T.man_runs.b .nil pass0 (pa_cons (pv 0) (pa_cons (pv 1) (pa_cons (pv 5) pa_nil))))) (pg_tup rfl (pgs_cons (pg_name (i := 7) nd rfl (Or.inl rfl)) (pgs_cons (pg_name (i := 8) nd rfl (Or.inl rfl)) pgs_nil)))
          (pss_one (ps_asg (pv 8) (pg_sub (pv 4) (pv 7) (set_n Mv hu))))))
        pss_nil)))
    (pss_one (ps_ret (pv 4)))))), ?_⟩
  obtain ⟨a, b, rfl, ha, hb⟩ := hp.pos
  have hl := pok.men.len
  obtain ⟨L, hL1, hL2⟩ := moves_few gok pok
  have few : ∀ kvs : List (Mv × V), (keys kvs).Nodup → (∀ mv ∈ keys kvs, Moves G p mv) → kvs.length ≤ 45 := fun kvs nd h => by
    have z := nd_le nd fun mv hm => hL2 mv (h mv hm)
    rw [List.length_map] at z
    exact Nat.le_trans z hL1
  refine ⟨_, rfl, a, _, rfl, ha, rfl, _, _, rfl, _, _, rfl, rfl, ?_⟩
  intro d hd ob D0
  have e1 : Same H (upd H d ob) := Same.new hd
  refine ⟨_, rfl, b, _, rfl, seqT e1 hb, ?_⟩
  refine for_it (walkU (K := K) (a := b) (xs := p.m.map .int)) (fun i σ H2 => ∃ kvs x5 x6 x7 x8, σ = [some (.ref g), some (.ref a), some (.int p.t), some (.ref b), some (.ref d), x5, x6, x7, x8] ∧ Same H H2 ∧ DictAt w K H2 d kvs ∧ ∀ mv, mv ∈ keys kvs ↔ MovesTo G p i mv)
    ⟨[], _, _, _, _, rfl, e1, D0, fun mv => ⟨fun h => by simp [keys] at h, fun ⟨st, h0, h1, _⟩ => by omega⟩⟩ (fun i σ H2 _ ⟨_, _, _, _, _, _, e, _⟩ => seqT e hb) (fun i v σ H2 H2' hi hP hY => ?_) (fun σ H2 hP => ?_)
  · obtain ⟨kvs, x5, x6, x7, x8, rfl, e2, D, hk⟩ := hP
    obtain ⟨t, x, rfl, ht, rfl, hx⟩ := hY
    rw [List.length_map, hl] at hi
    rw [List.getElem?_map] at hx
    obtain ⟨man, hman, rfl⟩ := Option.map_eq_some_iff.mp hx
    have hat : at0 p.m (i : Int) = man := by
      unfold at0
      rw [Int.toNat_natCast, List.getD_eq_getElem?_getD, hman]
      rfl
    have e3 := e2.trans (Same.new (o := .tup [.int (i : Nat), .int man]) ht)
    have D3 : DictAt w K (upd H2 t (.tup [.int (i : Nat), .int man])) d kvs := D.same (Same.new ht)
    have skip : ¬ Own p i → ∀ mv, mv ∈ keys kvs ↔ MovesTo G p (i + 1) mv := fun no mv => by
      rw [hk]
      constructor
      · rintro ⟨st, h0, h1, h2⟩; exact ⟨st, h0, by omega, h2⟩
      · rintro ⟨st, h0, h1, h2, h3, h4⟩
        refine ⟨st, h0, ?_, h2, h3, h4⟩
        have : st ≠ (i : Int) := fun e => by subst e; exact no h3
        omega
    refine ⟨t, _, rfl, SqT.of upd_same, rfl, _, _, rfl, _, _, rfl, rfl, ?_⟩
    refine ⟨_, rfl, rfl, _, rfl, ite2 (fun c1 => ?_) (fun c1 => ?_)⟩
    · have c1 : ¬ man = 0 := by simpa using c1
      refine ⟨_, rfl, man, rfl, _, rfl, rfl, _, rfl, ite2 (fun c2 => ?_) (fun c2 => ?_)⟩
      · have c2 : sideOf man = p.t := by simpa using c2
        have own : Own p (i : Int) := ⟨by rw [hat]; exact c1, by rw [hat]; exact c2⟩
        refine ⟨_, rfl, _, rfl, _, rfl, g, G, .ref a, p, (i : Int), rfl, hg.same e3, gok, hp.same e3, pok, ⟨by omega, by omega⟩, own, fun l xs mvs H5 e5 n5 hl5 hm5 k5 => ?_⟩
        refine ⟨l, rfl, ⟨_, SqL.of hl5⟩, ?_⟩
        have dl : d ≠ l := D3.ne n5
        refine for_it (walkL (K := K) (a := l) (xs := xs)) (fun j σ H6 => ∃ kvs x7 x8, σ = [some (.ref g), some (.ref a), some (.int p.t), some (.ref b), some (.ref d), some (.int (i : Int)), some (.int man), x7, x8] ∧ Same H H6 ∧ H6 l = some (.lst xs) ∧ All2 (PairR K H6) xs mvs ∧ DictAt w K H6 d kvs ∧ ∀ mv, mv ∈ keys kvs ↔ MovesTo G p i mv ∨ mv ∈ mvs.take j)
          ⟨kvs, _, _, rfl, e3.trans e5, hl5, hm5, D3.same e5, fun mv => by rw [hk]; simp⟩ (fun j σ H6 _ ⟨_, _, _, _, _, h, _⟩ => SqL.of h) (fun j y σ H6 H6' hj hP hY => ?_) (fun σ H6 hP => ?_)
        · obtain ⟨kvs6, x7, x8, rfl, e6, hl6, hm6, D6, hk6⟩ := hP
          obtain ⟨rfl, hy⟩ := hY
          obtain ⟨mv, hmv, a1, b1, c, rfl, h1, h2⟩ := hm6.get' hy
          have hmem : IsMv G p (i : Int) mv := (k5 mv).mp (List.mem_of_getElem? hmv)
          have h45 := few kvs6 D6.nd fun mv' hm' => by
            rcases (hk6 mv').mp hm' with z | z
            · exact movesTo_all z
            · exact ⟨(i : Int), by omega, by omega, own, (k5 mv').mp (List.mem_of_mem_take z)⟩
          refine ⟨a1, _, rfl, h1, rfl, _, _, rfl, _, _, rfl, rfl, ?_⟩
          refine ⟨_, rfl, _, rfl, _, rfl, d, kvs6, mv, rfl, D6, h2, big' (by omega), fun ob D7 => ?_⟩
          have tt : TK K H6' (upd H6' d ob) := TK.wr D6.noT
          refine ⟨_, _, _, rfl, Same.mut e6 hd, by rw [upd_ne dl.symm]; exact hl6, hm6.mono fun _ _ z => z.fut tt, D7, fun mv' => ?_⟩
          rw [mem_putK, hk6, take_one hmv, List.mem_append, List.mem_singleton, or_assoc]
        · obtain ⟨kvs6, x7, x8, rfl, e6, hl6, hm6, D6, hk6⟩ := hP
          refine ⟨kvs6, _, _, _, _, rfl, e6, D6, fun mv => ?_⟩
          rw [hk6, hm6.length, List.take_length, k5]
          constructor
          · rintro (⟨st, h0, h1, h2⟩ | h)
            · exact ⟨st, h0, by omega, h2⟩
            · exact ⟨(i : Int), by omega, by omega, by omega, own, h⟩
          · rintro ⟨st, h0, h1, h2, h3, h4⟩
            by_cases e : st = (i : Int)
            · subst e; exact .inr h4
            · exact .inl ⟨st, h0, by omega, h2, h3, h4⟩
      · have c2 : ¬ sideOf man = p.t := by simpa using c2
        exact ⟨kvs, _, _, _, _, rfl, e3, D3, skip fun z => c2 (by have := z.2; rw [hat] at this; exact this)⟩
    · have c1 : man = 0 := by simpa using c1
      exact ⟨kvs, _, _, _, _, rfl, e3, D3, skip fun z => z.1 (by rw [hat]; exact c1)⟩
  · obtain ⟨kvs, x5, x6, x7, x8, rfl, e2, D, hk⟩ := hP
    refine ⟨_, rfl, q d kvs H2 e2 hd D fun mv => (hk mv).trans ⟨movesTo_all, fun ⟨st, h0, h1, h2, h3⟩ => ⟨st, h0, ?_, h1, h2, h3⟩⟩⟩
    rw [List.length_map, hl]
    exact h1
def sp_moves (K : PySem.W.Frag) (T : Top K mg) : Sp := fun vs H Q _ => ∃ (g : Addr) (G : GD) (u : V) (p : Psn), vs = [.ref g, u] ∧ GameAt K H T.c_Game T.c_Board g G ∧ GOk G ∧ R K H u p ∧ PosOk G p ∧ ListOf K H Q (Moves G p)
theorem ok_moves (T : Top K mg) : FnOk P w K mg base CX0 25 T.moves.a T.moves.fd P_moves (sp_moves K T) := by
  refine T.moves.F.ok sc_moves (fun vs H Q E h => ?_) (fun cdv A outer s H vs Q E hr hh => ?_)
  · obtain ⟨_, _, _, _, rfl, _⟩ := h; rfl
  obtain ⟨g, G, u, p, rfl, hg, gok, hp, pok, q⟩ := hh
  have nd := sc_moves.nd
  have hu := hu64 hr
  refine ⟨_, (pss_one (ps_ret (pe_callB (cr_sortD Mv rfl hu) rfl T.z_sorted (by decide +kernel) (pa_cons (pe_call (ok_runs T) (hr.mono (by decide)) rfl T.runs.m T.runs.k T.runs.b .nil pass0 (pa_cons (pv 0) (pa_cons (pv 1) pa_nil))) pa_nil)))), ?_⟩
  refine ⟨_, rfl, _, rfl, g, G, u, p, rfl, hg, gok, hp, pok, fun d kvs H1 e1 n1 D1 hk => ?_⟩
  exact ⟨d, kvs, rfl, D1, fun l xs hl hx => q l xs (keys kvs) _ (e1.trans (Same.new hl)) (e1.free hl) upd_same hx D1.nd hk⟩
end Sk

/-! Sk: has_man, holds. -/
namespace Sk
open PySem L2 PySem.Spec PyProof.Rows
variable {P : Program} {w : World} {K : PySem.W.Frag} {mg : Str → Option Value} {base : Heap}

/-- a truth, in the heap or a longer one -/
abbrev BoolOf (H : Hp) (Q : VK) (E : Prop) : Prop := ∀ (b : Bool) H', Same H H' → (b = true ↔ E) → Q (.bl b) H'
def sp_has_man (K : PySem.W.Frag) : Sp := fun vs H Q _ => ∃ (a l : Addr) (m fs : List Int) (man : Int), vs = [.ref a, .int man, .ref l] ∧ SqT K H a (m.map .int) ∧ SqL K H l (fs.map .int) ∧ (∀ f ∈ fs, 0 ≤ f ∧ f < m.length) ∧ fs.length ≤ 1000 ∧ BoolOf H Q (∃ f ∈ fs, at0 m f = man)
theorem ok_has_man (T : Top K mg) : FnOk P w K mg base CX0 1 T.has_man.a T.has_man.fd P_has_man (sp_has_man K) := by
  refine T.has_man.F.ok sc_has_man (fun vs H Q E h => ?_) (fun cdv A outer s H vs Q E hr hh => ?_)
  · obtain ⟨_, _, _, _, _, rfl, _⟩ := h; rfl
  obtain ⟨a, l, m, fs, man, rfl, ha, hl, hf, hz, q⟩ := hh
  have nd := sc_has_man.nd
  refine ⟨_, (pss_one (ps_ret (pe_callB (cr_any rfl) rfl T.z_any (by decide +kernel) (pa_cons (pe_lc (own := [("field", 3)]) (g := gName 3) (tt := tYes) rfl nd (pi_list (pv 2)) (blkOk_by (N := N_has_man) (sc := defScope s_has_man) (by decide +kernel)) (fun _ _ _ _ _ => (pg_name (i := 3) nd rfl (Or.inl rfl))) (fun _ _ _ _ _ => pts_nil) (fun _ _ _ _ _ => (pe_cmpR op_eq (pe_ix (ix_tupK (K := K) rfl) (pv 0) (pv 3) (fun _ _ => rfl)) (pv 1) (nomark _)))) pa_nil)))), ?_⟩
  refine ⟨_, rfl, l, rfl, ⟨_, hl⟩, fun D hD => ?_⟩
  refine lc_it (walkL (K := K) (a := l) (xs := fs.map .int)) (fun i H2 => H2 = upd H D (.lst (((fs.take i).map fun f => decide (V.int (at0 m f) = V.int man)).map V.bl))) rfl (fun i H2 _ e => by rw [e]; exact (Same.new hD).seq hl) (fun i x H2 H2' hi hP hY => ?_) (fun H2 hP => ?_)
  · subst hP
    obtain ⟨rfl, hx⟩ := hY
    rw [List.getElem?_map] at hx
    obtain ⟨f, hfi, rfl⟩ := Option.map_eq_some_iff.mp hx
    have hfm := hf f (List.mem_of_getElem? hfi)
    have e1 := Same.new (o := .lst (((fs.take i).map fun f => decide (V.int (at0 m f) = V.int man)).map V.bl)) hD
    refine ⟨rfl, _, rfl, _, rfl, a, _, _, _, rfl, rfl, seqT e1 ha, at_map hfm.1 hfm.2, _, rfl, rfl, _, upd_same, big' ?_, ?_⟩
    · rw [List.length_map, List.length_map, List.length_take]
      omega
    · rw [upd_upd, take_one hfi, List.map_append, List.map_append]
      rfl
  · subst hP
    rw [List.length_map, List.take_length]
    refine ⟨D, _, rfl, SqL.of upd_same, q _ _ (Same.new hD) ?_⟩
    rw [List.any_eq_true]
    constructor
    · rintro ⟨b, hb, e⟩
      obtain ⟨f, hf, e2⟩ := List.mem_map.mp hb
      have e : b = true := e
      rw [e] at e2
      exact ⟨f, hf, by simpa using e2⟩
    · rintro ⟨f, hf, e⟩
      exact ⟨true, List.mem_map.mpr ⟨f, hf, by simp [e]⟩, rfl⟩
end Sk

/-! Sk: holds. -/
namespace Sk
open PySem L2 PySem.Spec PyProof.Rows
variable {P : Program} {w : World} {K : PySem.W.Frag} {mg : Str → Option Value} {base : Heap}

def sp_holds (K : PySem.W.Frag) (T : Top K mg) (h : Nat) : Sp := fun vs H Q _ => ∃ (g : Addr) (G : GD) (u v : V) (p : Psn) (c : Cond), vs = [.ref g, u, v] ∧ GameAt K H T.c_Game T.c_Board g G ∧ GOk G ∧ R K H u p ∧ PosOk G p ∧ CoR K H v c ∧ c.ok G ∧ c.small ∧ c.hgt < h ∧ BoolOf H Q (Holds G p c)
theorem inV_ints (x : Int) (m : List Int) : inV (.int x) (m.map V.int) = decide (x ∈ m) := by
  unfold inV
  rw [List.any_map]
  induction m with
  | nil => simp
  | cons y m ih =>
    rw [List.any_cons, ih]
    show ((y == x) || decide (x ∈ m)) = decide (x ∈ y :: m)
    by_cases e : y = x
    · subst e; simp
    · have e2 : ¬ x = y := fun z => e z.symm
      simp [e, e2]
theorem flat_ints (m : List Int) : (m.map V.int).all flatV = true := by
  rw [List.all_map]
  induction m with
  | nil => rfl
  | cons y m ih => rw [List.all_cons, ih]; rfl
theorem step_holds (T : Top K mg) {n h : Nat} (hn : 25 ≤ n) (Gh : FnOk P w K mg base CX0 n T.holds.a T.holds.fd P_holds (sp_holds K T h)) : FnOk P w K mg base CX0 (n + 1) T.holds.a T.holds.fd P_holds (sp_holds K T (h + 1)) := by
  refine T.holds.F.ok sc_holds (fun vs H Q E h => ?_) (fun cdv A outer s H vs Q E hr hh => ?_)
  · obtain ⟨_, _, _, _, _, _, rfl, _⟩ := h; rfl
  obtain ⟨g, G, u, v, p, c, rfl, hg, gok, hp, pok, hc, cok, csm, ch, q⟩ := hh
  have nd := sc_holds.nd
  have hu := hu64 hr
  refine ⟨_, (pss_cons (ps_asg (pv 1) (pg_tup rfl (pgs_cons (pg_name (i := 3) nd rfl (Or.inl rfl)) (pgs_cons (pg_name (i := 4) nd rfl (Or.inl rfl)) pgs_nil))))
    (pss_cons (ps_set (i := 5) nd rfl (Or.inl rfl) (pe_ix ix_tup (pv 2) pe_int (fun _ _ => rfl)))
    (pss_cons (ps_if (pt_cmpR op_eq (pv 5) pe_str (nomark _))
      (pss_one (ps_ret (pe_not (pe_call (Gh) (hr.mono (by omega)) rfl T.holds.m T.holds.k T.holds.b .nil pass0 (pa_cons (pv 0) (pa_cons (pv 1) (pa_cons (pe_ix ix_tup (pv 2) pe_int (fun _ _ => rfl)) pa_nil)))))))
      pss_nil)
    (pss_cons (ps_if (pt_cmpR op_eq (pv 5) pe_str (nomark _))
      (pss_one (ps_ret (pe_and (pe_call (Gh) (hr.mono (by omega)) rfl T.holds.m T.holds.k T.holds.b .nil pass0 (pa_cons (pv 0) (pa_cons (pv 1) (pa_cons (pe_ix ix_tup (pv 2) pe_int (fun _ _ => rfl)) pa_nil)))) (pe_one (pe_call (Gh) (hr.mono (by omega)) rfl T.holds.m T.holds.k T.holds.b .nil pass0 (pa_cons (pv 0) (pa_cons (pv 1) (pa_cons (pe_ix ix_tup (pv 2) pe_int (fun _ _ => rfl)) pa_nil))))))))
      pss_nil)
    (pss_cons (ps_if (pt_cmpR op_eq (pv 5) pe_str (nomark _))
      (pss_one (ps_ret (pe_or (pe_call (Gh) (hr.mono (by omega)) rfl T.holds.m T.holds.k T.holds.b .nil pass0 (pa_cons (pv 0) (pa_cons (pv 1) (pa_cons (pe_ix ix_tup (pv 2) pe_int (fun _ _ => rfl)) pa_nil)))) (pe_one (pe_call (Gh) (hr.mono (by omega)) rfl T.holds.m T.holds.k T.holds.b .nil pass0 (pa_cons (pv 0) (pa_cons (pv 1) (pa_cons (pe_ix ix_tup (pv 2) pe_int (fun _ _ => rfl)) pa_nil))))))))
      pss_nil)
    (pss_cons (ps_if (pt_cmpR op_eq (pv 5) pe_str (nomark _))
      (pss_one (ps_ret (pe_cmpR op_eq (pe_callB call_len_seq rfl T.z_len PySem.boot_len (pa_cons (pe_call (ok_moves T) (hr.mono (by omega)) rfl T.moves.m T.moves.k T.moves.b .nil pass0 (pa_cons (pv 0) (pa_cons (pv 1) pa_nil))) pa_nil)) pe_int (nomark _))))
      pss_nil)
    (pss_cons (ps_if (pt_cmpR op_eq (pv 5) pe_str (nomark _))
      (pss_one (ps_ret (pe_cmpR op_le (pe_callB call_len_seq rfl T.z_len PySem.boot_len (pa_cons (pe_lc (own := [("man", 6)]) (g := gName 6) rfl nd (pi_tup (pv 4)) (blkOk_by (N := N_holds) (sc := defScope s_holds) (by decide +kernel)) (fun _ _ _ _ _ => (pg_name (i := 6) nd rfl (Or.inl rfl))) (fun _ _ _ _ _ => (pts_one (pt_cmpR op_ne (pv 6) pe_int (nomark _)))) (fun _ _ _ _ _ => (pv 6))) pa_nil)) (pe_ix ix_tup (pv 2) pe_int (fun _ _ => rfl)) (nomark _))))
      pss_nil)
    (pss_cons (ps_if (pt_cmpR op_in_seq (pv 5) (pe_tup (pa_cons pe_str (pa_cons pe_str pa_nil))) (by rfl))
      (pss_one (ps_set (i := 6) nd rfl (Or.inl rfl) (pe_call (ok_man_of T) (hr.mono (by omega)) rfl T.man_of.m T.man_of.k T.man_of.b .nil pass0 (pa_cons (pv 3) (pa_cons (pe_ix ix_tup (pv 2) pe_int (fun _ _ => rfl)) pa_nil)))))
      (pss_one (ps_set (i := 6) nd rfl (Or.inl rfl) (pe_call (ok_man_of T) (hr.mono (by omega)) rfl T.man_of.m T.man_of.k T.man_of.b .nil pass0 (pa_cons (pe_op op_sub pe_int (pv 3)) (pa_cons (pe_ix ix_tup (pv 2) pe_int (fun _ _ => rfl)) pa_nil))))))
    (pss_cons (ps_if (pt_cmpR op_in_seq (pv 5) (pe_tup (pa_cons pe_str (pa_cons pe_str pa_nil))) (by rfl))
      (pss_one (ps_ret (pe_cmpR op_notIn_seq (pv 6) (pv 4) (by rfl))))
      pss_nil)
    (pss_one (ps_ret (pe_call (ok_has_man T) (hr.mono (by omega)) rfl T.has_man.m T.has_man.k T.has_man.b .nil pass0 (pa_cons (pv 4) (pa_cons (pv 6) (pa_cons (pe_ix ix_tup (pv 2) pe_int (fun _ _ => rfl)) pa_nil))))))))))))))), ?_⟩
  obtain ⟨a, b, rfl, ha, hb⟩ := hp.pos
  have hl := pok.men.len
  refine ⟨_, rfl, a, _, rfl, ha, rfl, _, _, rfl, _, _, rfl, rfl, ?_⟩
  cases hc with
  | @not d v c hd hv =>
    unfold Cond.ok at cok
    unfold Cond.small at csm
    unfold Cond.hgt at ch
    refine ⟨_, rfl, d, _, _, _, rfl, rfl, hd, at_0, ?_⟩
    refine ⟨_, rfl, rfl, _, rfl, ?_⟩
    refine ite2 (fun _ => ?_) (fun c => absurd (by decide +kernel) c)
    refine ⟨_, rfl, _, rfl, _, rfl, d, _, _, _, rfl, rfl, hd, at_1, g, G, .ref a, v, p, c, rfl, hg, gok, hp, pok, hv, cok, csm, by omega, fun b1 H1 e1 k1 => ⟨b1, rfl, q _ _ e1 ?_⟩⟩
    unfold Holds
    rw [← k1]
    cases b1 <;> simp
  | @and d v1 v2 c1 c2 hd hv1 hv2 =>
    unfold Cond.ok at cok
    unfold Cond.small at csm
    unfold Cond.hgt at ch
    refine ⟨_, rfl, d, _, _, _, rfl, rfl, hd, at_0, ?_⟩
    refine ⟨_, rfl, rfl, _, rfl, ?_⟩
    refine ite2 (fun c => absurd c (by decide +kernel)) (fun _ => ?_)
    refine ⟨_, rfl, rfl, _, rfl, ?_⟩
    refine ite2 (fun _ => ?_) (fun c => absurd (by decide +kernel) c)
    refine ⟨_, rfl, _, rfl, _, rfl, d, _, _, _, rfl, rfl, hd, at_1, g, G, .ref a, v1, p, c1, rfl, hg, gok, hp, pok, hv1, cok.1, csm.1, by omega, fun b1 H1 e1 k1 => ⟨b1, rfl, ?_⟩⟩
    cases b1 with
    | true =>
      refine ⟨_, rfl, _, rfl, _, rfl, d, _, _, _, rfl, rfl, seqT e1 hd, at_2, g, G, .ref a, v2, p, c2, rfl, hg.same e1, gok, hp.same e1, pok, hv2.same e1, cok.2, csm.2, by omega, fun b2 H2 e2 k2 => q _ _ (e1.trans e2) ?_⟩
      unfold Holds
      rw [← k1, k2]
      simp
    | false =>
      refine q _ _ e1 ?_
      unfold Holds
      rw [← k1]
      simp
  | @or d v1 v2 c1 c2 hd hv1 hv2 =>
    unfold Cond.ok at cok
    unfold Cond.small at csm
    unfold Cond.hgt at ch
    refine ⟨_, rfl, d, _, _, _, rfl, rfl, hd, at_0, ?_⟩
    refine ⟨_, rfl, rfl, _, rfl, ?_⟩
    refine ite2 (fun c => absurd c (by decide +kernel)) (fun _ => ?_)
    refine ⟨_, rfl, rfl, _, rfl, ?_⟩
    refine ite2 (fun c => absurd c (by decide +kernel)) (fun _ => ?_)
    refine ⟨_, rfl, rfl, _, rfl, ?_⟩
    refine ite2 (fun _ => ?_) (fun c => absurd (by decide +kernel) c)
    refine ⟨_, rfl, _, rfl, _, rfl, d, _, _, _, rfl, rfl, hd, at_1, g, G, .ref a, v1, p, c1, rfl, hg, gok, hp, pok, hv1, cok.1, csm.1, by omega, fun b1 H1 e1 k1 => ⟨b1, rfl, ?_⟩⟩
    cases b1 with
    | false =>
      refine ⟨_, rfl, _, rfl, _, rfl, d, _, _, _, rfl, rfl, seqT e1 hd, at_2, g, G, .ref a, v2, p, c2, rfl, hg.same e1, gok, hp.same e1, pok, hv2.same e1, cok.2, csm.2, by omega, fun b2 H2 e2 k2 => q _ _ (e1.trans e2) ?_⟩
      unfold Holds
      rw [← k1, k2]
      simp
    | true =>
      refine q _ _ e1 ?_
      unfold Holds
      rw [← k1]
      simp
  | @stuck d hd =>
    refine ⟨_, rfl, d, _, _, _, rfl, rfl, hd, at_0, ?_⟩
    refine ⟨_, rfl, rfl, _, rfl, ?_⟩
    refine ite2 (fun c => absurd c (by decide +kernel)) (fun _ => ?_)
    refine ⟨_, rfl, rfl, _, rfl, ?_⟩
    refine ite2 (fun c => absurd c (by decide +kernel)) (fun _ => ?_)
    refine ⟨_, rfl, rfl, _, rfl, ?_⟩
    refine ite2 (fun c => absurd c (by decide +kernel)) (fun _ => ?_)
    refine ⟨_, rfl, rfl, _, rfl, ?_⟩
    refine ite2 (fun _ => ?_) (fun c => absurd (by decide +kernel) c)
    refine ⟨_, rfl, _, rfl, g, G, .ref a, p, rfl, hg, gok, hp, pok, fun l xs bs H1 e1 n1 hl1 hx1 nd1 k1 => ⟨l, xs, rfl, .inl (SqL.of hl1), rfl, q _ _ e1 ?_⟩⟩
    have hlen : xs.length = bs.length := by rw [hx1.length, srt_len]
    unfold Holds
    rw [hlen]
    constructor
    · intro z ⟨mv, hmv⟩
      have z : (bs.length : Int) = 0 := by simpa using z
      have hb0 : bs = [] := List.length_eq_zero_iff.mp (by omega)
      have := (k1 mv).mpr hmv
      rw [hb0] at this
      cases this
    · intro z
      cases bs with
      | nil => rfl
      | cons mv _ => exact absurd ⟨mv, (k1 mv).mp List.mem_cons_self⟩ z
  | @few d n hd =>
    refine ⟨_, rfl, d, _, _, _, rfl, rfl, hd, at_0, ?_⟩
    refine ⟨_, rfl, rfl, _, rfl, ?_⟩
    refine ite2 (fun c => absurd c (by decide +kernel)) (fun _ => ?_)
    refine ⟨_, rfl, rfl, _, rfl, ?_⟩
    refine ite2 (fun c => absurd c (by decide +kernel)) (fun _ => ?_)
    refine ⟨_, rfl, rfl, _, rfl, ?_⟩
    refine ite2 (fun c => absurd c (by decide +kernel)) (fun _ => ?_)
    refine ⟨_, rfl, rfl, _, rfl, ?_⟩
    refine ite2 (fun c => absurd c (by decide +kernel)) (fun _ => ?_)
    refine ⟨_, rfl, rfl, _, rfl, ?_⟩
    refine ite2 (fun _ => ?_) (fun c => absurd (by decide +kernel) c)
    refine ⟨_, rfl, b, rfl, ⟨_, hb⟩, fun D hD => ?_⟩
    refine lc_it (walkT (K := K) (a := b) (xs := p.m.map .int)) (fun i H2 => H2 = upd H D (.lst (((p.m.take i).filter fun x => !decide (x = 0)).map V.int))) (by simp) (fun i H2 _ e => by rw [e]; exact seqT (Same.new hD) hb) (fun i x H2 H2' hi hP hY => ?_) (fun H2 hP => ?_)
    · subst hP
      obtain ⟨rfl, hx⟩ := hY
      rw [List.getElem?_map] at hx
      obtain ⟨m, hm, rfl⟩ := Option.map_eq_some_iff.mp hx
      refine ⟨rfl, _, rfl, rfl, _, rfl, ite2 (fun cc => ?_) (fun cc => ?_)⟩
      · have cc : ¬ m = 0 := by simpa using cc
        refine ⟨_, rfl, _, upd_same, big' ?_, ?_⟩
        · rw [List.length_map]
          have h1 := List.length_filter_le (fun x : Int => !decide (x = 0)) (p.m.take i)
          rw [List.length_take] at h1
          have := gok.n5
          omega
        · rw [upd_upd, take_one hm, List.filter_append, List.map_append]
          have : List.filter (fun x : Int => !decide (x = 0)) [m] = [m] := by simp [cc]
          rw [this]
          rfl
      · have cc : m = 0 := by simpa using cc
        show upd H D _ = upd H D _
        rw [take_one hm, List.filter_append]
        have : List.filter (fun x : Int => !decide (x = 0)) [m] = [] := by simp [cc]
        rw [this, List.append_nil]
    · subst hP
      have e1 := Same.new (o := .lst (((p.m.take (p.m.map V.int).length).filter fun x => !decide (x = 0)).map V.int)) hD
      refine ⟨D, _, rfl, .inl (SqL.of upd_same), _, rfl, d, _, _, _, rfl, rfl, seqT e1 hd, at_1, _, _, rfl, rfl, q _ _ e1 ?_⟩
      unfold Holds
      rw [List.length_map, List.length_map, List.take_length, ← full_eq]
      simp
  | @lacks d f k hd =>
    unfold Cond.small at csm
    cases f with
    | false =>
      have hd : SqT K H d [.str wLacks, .int k] := hd
      refine ⟨_, rfl, d, _, _, _, rfl, rfl, hd, at_0, ?_⟩
      refine ⟨_, rfl, rfl, _, rfl, ?_⟩
      refine ite2 (fun c => absurd c (by decide +kernel)) (fun _ => ?_)
      refine ⟨_, rfl, rfl, _, rfl, ?_⟩
      refine ite2 (fun c => absurd c (by decide +kernel)) (fun _ => ?_)
      refine ⟨_, rfl, rfl, _, rfl, ?_⟩
      refine ite2 (fun c => absurd c (by decide +kernel)) (fun _ => ?_)
      refine ⟨_, rfl, rfl, _, rfl, ?_⟩
      refine ite2 (fun c => absurd c (by decide +kernel)) (fun _ => ?_)
      refine ⟨_, rfl, rfl, _, rfl, ?_⟩
      refine ite2 (fun c => absurd c (by decide +kernel)) (fun _ => ?_)
      refine ⟨_, rfl, (by decide : 2 ≤ sizeLine), fun t1 ht1 => ⟨t1, _, rfl, .inr (SqT.of upd_same), rfl, rfl, _, rfl, ?_⟩⟩
      have e1 := Same.new (o := .tup [.str (Str.ofString "lacks"), .str (Str.ofString "holds")]) ht1
      refine ite2 (fun _ => ?_) (fun c => absurd (by decide +kernel) c)
      refine ⟨_, rfl, _, rfl, d, _, _, _, rfl, rfl, seqT e1 hd, at_1, p.t, k, rfl, by omega, by omega, ?_⟩
      refine ⟨_, rfl, (by decide : 2 ≤ sizeLine), fun t2 ht2 => ⟨t2, _, rfl, .inr (SqT.of upd_same), rfl, rfl, _, rfl, ?_⟩⟩
      have e2 := e1.trans (Same.new (o := .tup [.str (Str.ofString "lacks"), .str (Str.ofString "foelacks")]) ht2)
      refine ite2 (fun _ => ?_) (fun c => absurd (by decide +kernel) c)
      refine ⟨_, rfl, _, rfl, b, _, rfl, .inr (seqT e2 hb), rfl, flat_ints _, q _ _ e2 ?_⟩
      unfold Holds
      rw [if_pos rfl, inV_ints]
      simp [sideFor]
    | true =>
      have hd : SqT K H d [.str wFoelacks, .int k] := hd
      refine ⟨_, rfl, d, _, _, _, rfl, rfl, hd, at_0, ?_⟩
      refine ⟨_, rfl, rfl, _, rfl, ?_⟩
      refine ite2 (fun c => absurd c (by decide +kernel)) (fun _ => ?_)
      refine ⟨_, rfl, rfl, _, rfl, ?_⟩
      refine ite2 (fun c => absurd c (by decide +kernel)) (fun _ => ?_)
      refine ⟨_, rfl, rfl, _, rfl, ?_⟩
      refine ite2 (fun c => absurd c (by decide +kernel)) (fun _ => ?_)
      refine ⟨_, rfl, rfl, _, rfl, ?_⟩
      refine ite2 (fun c => absurd c (by decide +kernel)) (fun _ => ?_)
      refine ⟨_, rfl, rfl, _, rfl, ?_⟩
      refine ite2 (fun c => absurd c (by decide +kernel)) (fun _ => ?_)
      refine ⟨_, rfl, (by decide : 2 ≤ sizeLine), fun t1 ht1 => ⟨t1, _, rfl, .inr (SqT.of upd_same), rfl, rfl, _, rfl, ?_⟩⟩
      have e1 := Same.new (o := .tup [.str (Str.ofString "lacks"), .str (Str.ofString "holds")]) ht1
      refine ite2 (fun c => absurd c (by decide +kernel)) (fun _ => ?_)
      refine ⟨_, rfl, _, _, rfl, rfl, _, rfl, d, _, _, _, rfl, rfl, seqT e1 hd, at_1, 1 - p.t, k, rfl, by omega, by omega, ?_⟩
      refine ⟨_, rfl, (by decide : 2 ≤ sizeLine), fun t2 ht2 => ⟨t2, _, rfl, .inr (SqT.of upd_same), rfl, rfl, _, rfl, ?_⟩⟩
      have e2 := e1.trans (Same.new (o := .tup [.str (Str.ofString "lacks"), .str (Str.ofString "foelacks")]) ht2)
      refine ite2 (fun _ => ?_) (fun c => absurd (by decide +kernel) c)
      refine ⟨_, rfl, _, rfl, b, _, rfl, .inr (seqT e2 hb), rfl, flat_ints _, q _ _ e2 ?_⟩
      unfold Holds
      rw [if_pos rfl, inV_ints]
      simp [sideFor]
  | @holds d l f k fs hd hl2 =>
    unfold Cond.ok at cok
    unfold Cond.small at csm
    cases f with
    | false =>
      have hd : SqT K H d [.str wHolds, .int k, .ref l] := hd
      refine ⟨_, rfl, d, _, _, _, rfl, rfl, hd, at_0, ?_⟩
      refine ⟨_, rfl, rfl, _, rfl, ?_⟩
      refine ite2 (fun c => absurd c (by decide +kernel)) (fun _ => ?_)
      refine ⟨_, rfl, rfl, _, rfl, ?_⟩
      refine ite2 (fun c => absurd c (by decide +kernel)) (fun _ => ?_)
      refine ⟨_, rfl, rfl, _, rfl, ?_⟩
      refine ite2 (fun c => absurd c (by decide +kernel)) (fun _ => ?_)
      refine ⟨_, rfl, rfl, _, rfl, ?_⟩
      refine ite2 (fun c => absurd c (by decide +kernel)) (fun _ => ?_)
      refine ⟨_, rfl, rfl, _, rfl, ?_⟩
      refine ite2 (fun c => absurd c (by decide +kernel)) (fun _ => ?_)
      refine ⟨_, rfl, (by decide : 2 ≤ sizeLine), fun t1 ht1 => ⟨t1, _, rfl, .inr (SqT.of upd_same), rfl, rfl, _, rfl, ?_⟩⟩
      have e1 := Same.new (o := .tup [.str (Str.ofString "lacks"), .str (Str.ofString "holds")]) ht1
      refine ite2 (fun _ => ?_) (fun c => absurd (by decide +kernel) c)
      refine ⟨_, rfl, _, rfl, d, _, _, _, rfl, rfl, seqT e1 hd, at_1, p.t, k, rfl, by omega, by omega, ?_⟩
      refine ⟨_, rfl, (by decide : 2 ≤ sizeLine), fun t2 ht2 => ⟨t2, _, rfl, .inr (SqT.of upd_same), rfl, rfl, _, rfl, ?_⟩⟩
      have e2 := e1.trans (Same.new (o := .tup [.str (Str.ofString "lacks"), .str (Str.ofString "foelacks")]) ht2)
      refine ite2 (fun c => absurd c (by decide +kernel)) (fun _ => ?_)
      refine ⟨_, rfl, _, rfl, _, rfl, d, _, _, _, rfl, rfl, seqT e2 hd, at_2, b, l, p.m, fs, _, rfl, seqT e2 hb, e2.seq hl2, ?_, by omega, fun b3 H3 e3 k3 => q _ _ (e2.trans e3) ?_⟩
      · intro x hx
        rw [hl]
        exact cok x hx
      · rw [k3]
        unfold Holds
        simp [sideFor]
    | true =>
      have hd : SqT K H d [.str wFoeholds, .int k, .ref l] := hd
      refine ⟨_, rfl, d, _, _, _, rfl, rfl, hd, at_0, ?_⟩
      refine ⟨_, rfl, rfl, _, rfl, ?_⟩
      refine ite2 (fun c => absurd c (by decide +kernel)) (fun _ => ?_)
      refine ⟨_, rfl, rfl, _, rfl, ?_⟩
      refine ite2 (fun c => absurd c (by decide +kernel)) (fun _ => ?_)
      refine ⟨_, rfl, rfl, _, rfl, ?_⟩
      refine ite2 (fun c => absurd c (by decide +kernel)) (fun _ => ?_)
      refine ⟨_, rfl, rfl, _, rfl, ?_⟩
      refine ite2 (fun c => absurd c (by decide +kernel)) (fun _ => ?_)
      refine ⟨_, rfl, rfl, _, rfl, ?_⟩
      refine ite2 (fun c => absurd c (by decide +kernel)) (fun _ => ?_)
      refine ⟨_, rfl, (by decide : 2 ≤ sizeLine), fun t1 ht1 => ⟨t1, _, rfl, .inr (SqT.of upd_same), rfl, rfl, _, rfl, ?_⟩⟩
      have e1 := Same.new (o := .tup [.str (Str.ofString "lacks"), .str (Str.ofString "holds")]) ht1
      refine ite2 (fun c => absurd c (by decide +kernel)) (fun _ => ?_)
      refine ⟨_, rfl, _, _, rfl, rfl, _, rfl, d, _, _, _, rfl, rfl, seqT e1 hd, at_1, 1 - p.t, k, rfl, by omega, by omega, ?_⟩
      refine ⟨_, rfl, (by decide : 2 ≤ sizeLine), fun t2 ht2 => ⟨t2, _, rfl, .inr (SqT.of upd_same), rfl, rfl, _, rfl, ?_⟩⟩
      have e2 := e1.trans (Same.new (o := .tup [.str (Str.ofString "lacks"), .str (Str.ofString "foelacks")]) ht2)
      refine ite2 (fun c => absurd c (by decide +kernel)) (fun _ => ?_)
      refine ⟨_, rfl, _, rfl, _, rfl, d, _, _, _, rfl, rfl, seqT e2 hd, at_2, b, l, p.m, fs, _, rfl, seqT e2 hb, e2.seq hl2, ?_, by omega, fun b3 H3 e3 k3 => q _ _ (e2.trans e3) ?_⟩
      · intro x hx
        rw [hl]
        exact cok x hx
      · rw [k3]
        unfold Holds
        simp [sideFor]
theorem ok_holds_h (T : Top K mg) : ∀ h : Nat, FnOk P w K mg base CX0 (25 + h) T.holds.a T.holds.fd P_holds (sp_holds K T h)
  | 0 => by
    have no : ∀ vs H Q E, ¬ sp_holds K T 0 vs H Q E := fun vs H Q E ⟨_, _, _, _, _, c, _, _, _, _, _, _, _, _, h, _⟩ => Nat.not_lt_zero _ h
    exact ⟨fun vs H Q E h => absurd h (no vs H Q E), fun A outer s H args us vs Q E _ _ _ _ h => absurd h (no vs H Q E)⟩
  | h + 1 => step_holds (n := 25 + h) T (Nat.le_add_right _ _) (ok_holds_h T h)
theorem ok_holds (T : Top K mg) : FnOk P w K mg base CX0 34 T.holds.a T.holds.fd P_holds (sp_holds K T 9) := ok_holds_h T 9
end Sk

/-! Sk: end, over_value, next_positions. -/
namespace Sk
open PySem L2 PySem.Spec PyProof.Rows
variable {P : Program} {w : World} {K : PySem.W.Frag} {mg : Str → Option Value} {base : Heap}

def sp_end (K : PySem.W.Frag) (T : Top K mg) : Sp := fun vs H Q _ => ∃ (g : Addr) (G : GD) (u : V) (p : Psn), vs = [.ref g, u] ∧ GameAt K H T.c_Game T.c_Board g G ∧ GOk G ∧ ClOk G ∧ R K H u p ∧ PosOk G p ∧ ∀ H', Same H H' → Q (resV (endF G p G.clauses)) H'
theorem endF_cons {G : GD} {p : Psn} {c : Cond × Res} {cs : List (Cond × Res)} : (Holds G p c.1 → endF G p (c :: cs) = some c.2) ∧ (¬ Holds G p c.1 → endF G p (c :: cs) = endF G p cs) := by
  unfold endF
  exact ⟨fun h => if_pos h, fun h => by rw [if_neg h]; cases cs <;> rfl⟩
theorem ok_end_ (T : Top K mg) : FnOk P w K mg base CX0 35 T.end_.a T.end_.fd P_end_ (sp_end K T) := by
  refine T.end_.F.ok sc_end_ (fun vs H Q E h => ?_) (fun cdv A outer s H vs Q E hr hh => ?_)
  · obtain ⟨_, _, _, _, rfl, _⟩ := h; rfl
  obtain ⟨g, G, u, p, rfl, hg, gok, clok, hp, pok, q⟩ := hh
  have nd := sc_end_.nd
  refine ⟨_, (pss_cons (ps_for PassesOwn.never rfl (pi_list (pe_fld (pv 0) rfl)) (pg_tup rfl (pgs_cons (pg_name (i := 2) nd rfl (Or.inl rfl)) (pgs_cons (pg_name (i := 3) nd rfl (Or.inl rfl)) pgs_nil)))
      (pss_one (ps_if (pt_val (pe_call (ok_holds T) (hr.mono (by decide)) rfl T.holds.m T.holds.k T.holds.b .nil pass0 (pa_cons (pv 0) (pa_cons (pv 1) (pa_cons (pv 2) pa_nil)))))
        (pss_one (ps_ret (pv 3)))
        pss_nil)))
    (pss_one (ps_ret pe_non))), ?_⟩
  obtain ⟨b', lk, lc, lp, lw, dx, dy, g1, g2, g3⟩ := id hg
  obtain ⟨cv, c1, c2⟩ := g3.clauses
  refine ⟨_, rfl, g, T.c_Game, dx, _, _, rfl, g1, T.Game.cl, T.n_Game_clauses, rfl, lc, rfl, ⟨_, c1⟩, ?_⟩
  refine for_it (walkL (K := K) (a := lc) (xs := cv)) (fun i σ H2 => ∃ x2 x3, σ = [some (.ref g), some u, x2, x3] ∧ Same H H2 ∧ endF G p G.clauses = endF G p (G.clauses.drop i))
    ⟨_, _, rfl, Same.rfl', rfl⟩ (fun i σ H2 _ ⟨_, _, _, e, _⟩ => e.seq c1) (fun i v σ H2 H2' hi hP hY => ?_) (fun σ H2 hP => ?_)
  · obtain ⟨x2, x3, rfl, e, he⟩ := hP
    obtain ⟨rfl, hx⟩ := hY
    obtain ⟨c, hc, a, cu, rfl, h1, h2⟩ := c2.get' hx
    have hcm := List.mem_of_getElem? hc
    have hok := clok.each c hcm
    have hd : G.clauses.drop i = c :: G.clauses.drop (i + 1) := by
      obtain ⟨hlt, hce⟩ := List.getElem?_eq_some_iff.mp hc
      rw [← hce]
      exact List.drop_eq_getElem_cons hlt
    refine ⟨a, _, rfl, seqT e h1, rfl, _, _, rfl, _, _, rfl, rfl, ?_⟩
    refine ⟨_, rfl, _, rfl, _, rfl, g, G, u, cu, p, c.1, rfl, hg.same e, gok, hp.same e, pok, h2.same e, hok.1, hok.2.1, by have := hok.2.2; omega, fun b H3 e3 hb => ⟨b, rfl, ?_⟩⟩
    cases b with
    | true =>
      refine ⟨_, rfl, ?_⟩
      have := q H3 (e.trans e3)
      rw [he, hd, endF_cons.1 (hb.mp rfl)] at this
      exact this
    | false =>
      refine ⟨_, _, rfl, e.trans e3, ?_⟩
      rw [he, hd, endF_cons.2 (fun z => by have := hb.mpr z; cases this)]
  · obtain ⟨x2, x3, rfl, e, he⟩ := hP
    have := q H2 e
    rw [he, c2.length, List.drop_length] at this
    exact this

def sp_over (K : PySem.W.Frag) (T : Top K mg) : Sp := fun vs H Q _ => ∃ (g : Addr) (G : GD) (u : V) (p : Psn), vs = [.ref g, u] ∧ GameAt K H T.c_Game T.c_Board g G ∧ GOk G ∧ ClOk G ∧ R K H u p ∧ PosOk G p ∧ ∀ v H', Same H H' → OvR K H' v (ovF G p) → Q v H'
theorem ok_over_value (T : Top K mg) : FnOk P w K mg base CX0 36 T.over_value.a T.over_value.fd P_over_value (sp_over K T) := by
  refine T.over_value.F.ok sc_over_value (fun vs H Q E h => ?_) (fun cdv A outer s H vs Q E hr hh => ?_)
  · obtain ⟨_, _, _, _, rfl, _⟩ := h; rfl
  obtain ⟨g, G, u, p, rfl, hg, gok, clok, hp, pok, q⟩ := hh
  have nd := sc_over_value.nd
  refine ⟨_, (pss_cons (ps_set (i := 2) nd rfl (Or.inl rfl) (pe_call (ok_end_ T) (hr.mono (by decide)) rfl T.end_.m T.end_.k T.end_.b .nil pass0 (pa_cons (pv 0) (pa_cons (pv 1) pa_nil))))
    (pss_cons (ps_if (pt_cmpR op_eq (pv 2) pe_str (nomark _))
      (pss_one (ps_ret (pe_glob (v := .ref T.a_DRAWN) rfl T.g_DRAWN rfl)))
      pss_nil)
    (pss_cons (ps_if (pt_cmpR op_notN (pv 2) pe_non (nomark _))
      (pss_one (ps_ret (pe_tup (pa_cons (pv 2) (pa_cons pe_int pa_nil)))))
      pss_nil)
    (pss_cons (ps_if (pt_cmpR op_eq (pe_callB call_len_seq rfl T.z_len PySem.boot_len (pa_cons (pe_call (ok_moves T) (hr.mono (by decide)) rfl T.moves.m T.moves.k T.moves.b .nil pass0 (pa_cons (pv 0) (pa_cons (pv 1) pa_nil))) pa_nil)) pe_int (nomark _))
      (pss_one (ps_ret (pe_tup (pa_cons pe_str (pa_cons pe_int pa_nil)))))
      pss_nil)
    (pss_one (ps_ret pe_non)))))), ?_⟩
  refine ⟨_, rfl, _, rfl, g, G, u, p, rfl, hg, gok, clok, hp, pok, fun H1 e1 => ?_⟩
  cases hE : endF G p G.clauses with
  | some r =>
    rw [ovF_some hE] at q
    cases r with
    | drawn =>
      refine ⟨_, rfl, rfl, _, rfl, ?_⟩
      refine ite2 (fun _ => ?_) (fun c => absurd (by decide +kernel) c)
      exact q _ _ e1 (R.ofDrawn (T.t_DRAWN _))
    | won =>
      refine ⟨_, rfl, rfl, _, rfl, ?_⟩
      refine ite2 (fun c => absurd c (by decide +kernel)) (fun _ => ?_)
      refine ⟨_, rfl, rfl, _, rfl, ?_⟩
      refine ite2 (fun _ => ?_) (fun c => absurd (by decide +kernel) c)
      refine ⟨_, rfl, (by decide : 2 ≤ sizeLine), fun t ht => q _ _ (e1.trans (Same.new ht)) (R.ofVal (w := true) (SqT.of upd_same))⟩
    | lost =>
      refine ⟨_, rfl, rfl, _, rfl, ?_⟩
      refine ite2 (fun c => absurd c (by decide +kernel)) (fun _ => ?_)
      refine ⟨_, rfl, rfl, _, rfl, ?_⟩
      refine ite2 (fun _ => ?_) (fun c => absurd (by decide +kernel) c)
      refine ⟨_, rfl, (by decide : 2 ≤ sizeLine), fun t ht => q _ _ (e1.trans (Same.new ht)) (R.ofVal (w := false) (SqT.of upd_same))⟩
  | none =>
    refine ⟨_, rfl, rfl, _, rfl, ?_⟩
    refine ite2 (fun c => absurd c (by decide +kernel)) (fun _ => ?_)
    refine ⟨_, rfl, rfl, _, rfl, ?_⟩
    refine ite2 (fun c => absurd c (by decide +kernel)) (fun _ => ?_)
    refine ⟨_, rfl, _, rfl, g, G, u, p, rfl, hg.same e1, gok, hp.same e1, pok, fun l xs bs H2 e2 n2 hl2 hx2 nd2 k2 => ⟨l, xs, rfl, .inl (SqL.of hl2), rfl, _, rfl, ?_⟩⟩
    have hlen : xs.length = bs.length := by rw [hx2.length, srt_len]
    refine ite2 (fun c => ?_) (fun c => ?_)
    · have c : xs.length = 0 := by
        have c : (xs.length : Int) = 0 := by simpa using c
        omega
      have no : ¬ ∃ mv, Moves G p mv := fun ⟨mv, h⟩ => by
        have := (k2 mv).mpr h
        rw [List.length_eq_zero_iff.mp (hlen.symm.trans c)] at this
        cases this
      refine ⟨(by decide : 2 ≤ sizeLine), fun t ht => q _ _ ((e1.trans e2).trans (Same.new ht)) ?_⟩
      rw [(ovF_none hE).2 no]
      exact R.ofVal (w := false) (SqT.of upd_same)
    · have yes : ∃ mv, Moves G p mv := by
        cases bs with
        | nil => rw [hlen] at c; exact absurd rfl c
        | cons mv _ => exact ⟨mv, (k2 mv).mp List.mem_cons_self⟩
      refine q _ _ (e1.trans e2) ?_
      rw [(ovF_none hE).1 yes]
      exact rfl
def sp_next (K : PySem.W.Frag) (T : Top K mg) : Sp := fun vs H Q _ => ∃ (g : Addr) (G : GD) (u : V) (p : Psn), vs = [.ref g, u] ∧ GameAt K H T.c_Game T.c_Board g G ∧ GOk G ∧ ClOk G ∧ R K H u p ∧ PosOk G p ∧ ListOf K H Q (NxE G p)
theorem ok_next_positions (T : Top K mg) : FnOk P w K mg base CX0 36 T.next_positions.a T.next_positions.fd P_next_positions (sp_next K T) := by
  refine T.next_positions.F.ok sc_next_positions (fun vs H Q E h => ?_) (fun cdv A outer s H vs Q E hr hh => ?_)
  · obtain ⟨_, _, _, _, rfl, _⟩ := h; rfl
  obtain ⟨g, G, u, p, rfl, hg, gok, clok, hp, pok, q⟩ := hh
  have nd := sc_next_positions.nd
  have hu := hu64 hr
  refine ⟨_, (pss_cons (ps_if (pt_cmpR op_notN (pe_call (ok_end_ T) (hr.mono (by decide)) rfl T.end_.m T.end_.k T.end_.b .nil pass0 (pa_cons (pv 0) (pa_cons (pv 1) pa_nil))) pe_non (nomark _))
      (pss_one (ps_ret (pe_lst pa_nil)))
      pss_nil)
    (pss_one (ps_ret (pe_callB (cr_sortS Psn rfl hu) rfl T.z_sorted (by decide +kernel) (pa_cons (pe_bk (own := [("move", 2)]) (g := gName 2) (tt := tYes) (form_set Psn hu (fun _ _ _ _ _ => (pe_call (ok_after T) (hr.mono (by decide)) rfl T.after.m T.after.k T.after.b .nil pass0 (pa_cons (pv 0) (pa_cons (pv 1) (pa_cons (pv 2) pa_nil)))))) rfl rfl nd (pi_list (pe_call (ok_moves T) (hr.mono (by decide)) rfl T.moves.m T.moves.k T.moves.b .nil pass0 (pa_cons (pv 0) (pa_cons (pv 1) pa_nil)))) (blkOk_by (N := N_next_positions) (sc := defScope s_next_positions) (by decide +kernel)) (fun _ _ _ _ _ => (pg_name (i := 2) nd rfl (Or.inl rfl))) (fun _ _ _ _ _ => pts_nil)) pa_nil))))), ?_⟩
  refine ⟨_, rfl, _, rfl, g, G, u, p, rfl, hg, gok, clok, hp, pok, fun H1 e1 => ⟨rfl, _, rfl, ?_⟩⟩
  cases hE : endF G p G.clauses with
  | some r =>
    refine ite2 (fun _ => ?_) (fun c => absurd rfl c)
    have s0 : srt ([] : List Psn) = [] := by simp [srt]
    refine ⟨(by decide : 0 ≤ sizeLine), fun l hl => q l [] [] _ (e1.trans (Same.new hl)) (e1.free hl) upd_same (by rw [s0]; exact .nil) List.nodup_nil fun b => ⟨(fun h => nomatch h), fun h => ?_⟩⟩
    have := h.1
    rw [hE] at this
    cases this
  | none =>
    refine ite2 (fun c => absurd c (by decide)) (fun _ => ?_)
    refine ⟨_, rfl, _, rfl, g, G, u, p, rfl, hg.same e1, gok, hp.same e1, pok, fun l xs bs H2 e2 n2 hl2 hx2 nd2 k2 => ⟨l, rfl, ⟨_, SqL.of hl2⟩, fun D hD ob0 S0 => ?_⟩⟩
    obtain ⟨L, hL1, hL2⟩ := moves_few gok pok
    have few : (srt bs).length ≤ 45 := by
      rw [srt_len]
      exact Nat.le_trans (nd_le nd2 fun mv h => hL2 mv ((k2 mv).mp h)) hL1
    have e3 := e1.trans e2
    refine bk_it (walkL (K := K) (a := l) (xs := xs)) (fun i H3 => ∃ cs, Same H2 H3 ∧ SetAt w K H3 D cs ∧ cs.length ≤ i ∧ ∀ c, c ∈ cs ↔ ∃ mv ∈ (srt bs).take i, c = aft p mv) ⟨[], Same.new hD, S0, Nat.zero_le _, fun c => by simp⟩ (fun i H3 _ ⟨_, e, _⟩ => SqL.of (e _ _ hl2)) (fun i x H3 H3' hi hP hY => ?_) (fun H3 hP => ?_)
    · obtain ⟨cs, e4, S4, hz, hk⟩ := hP
      obtain ⟨rfl, hx⟩ := hY
      obtain ⟨mv, hmv, hR⟩ := hx2.get hx
      have hM := (k2 mv).mp (srt_mem.mp (List.mem_of_getElem? hmv))
      obtain ⟨m1, m2, m3, m4, m5, m6, m7, _⟩ := moves_fact gok pok hM
      have e5 := e3.trans e4
      rw [hx2.length] at hi
      refine ⟨rfl, _, rfl, _, rfl, _, rfl, g, G, u, x, p, mv, rfl, gok, hp.same e5, pok, hR.same e4, ⟨m1, m2⟩, ⟨m3, m4⟩, ⟨m5, by have := gok.k2; omega⟩, m7, fun a H5 e6 ha => ?_⟩
      refine ⟨cs, aft p mv, S4.same e6, ha, by omega, fun ob bs' hb' hz' S6 => ⟨bs', Same.mut (e4.trans e6) hD, S6, by omega, fun c => ?_⟩⟩
      rw [hb', hk, take_one hmv]
      constructor
      · rintro (h | ⟨mv', h1, h2⟩)
        · exact ⟨mv, List.mem_append_right _ (List.mem_singleton.mpr rfl), h⟩
        · exact ⟨mv', List.mem_append_left _ h1, h2⟩
      · rintro ⟨mv', h1, h2⟩
        rcases List.mem_append.mp h1 with z | z
        · exact .inr ⟨mv', z, h2⟩
        · rw [List.mem_singleton.mp z] at h2; exact .inl h2
    · obtain ⟨cs, e4, S4, hz, hk⟩ := hP
      rw [hx2.length, List.take_length] at hk
      refine ⟨D, cs, rfl, S4, fun l' out hl' nd' hout => ?_⟩
      refine q l' out cs _ ((e3.trans e4).trans (Same.new hl')) ((e3.trans e4).free hl') upd_same hout nd' fun c => (hk c).trans ?_
      constructor
      · rintro ⟨mv, h1, h2⟩; exact ⟨hE, mv, (k2 mv).mp (srt_mem.mp h1), h2⟩
      · rintro ⟨_, mv, h1, h2⟩; exact ⟨mv, srt_mem.mpr ((k2 mv).mpr h1), h2⟩
end Sk

/-! Sk: followers. -/
namespace Sk
open PySem L2 PySem.Spec PyProof.Rows
variable {P : Program} {w : World} {K : PySem.W.Frag} {mg : Str → Option Value} {base : Heap}

/-- q is worked off: its list is there, all of it in the table -/
def Done (K : PySem.W.Frag) (H : Hp) (l : Addr) (G : GD) (kvs : List (Psn × V)) (q : Psn) : Prop := ∃ lq xs, valV kvs q = some (.ref lq) ∧ H lq = some (.lst xs) ∧ lq ≠ l ∧ Rs K H xs (nxF G q) ∧ ∀ r ∈ nxF G q, r ∈ keys kvs
/-- the state of the search -/
structure FI (w : World) (K : PySem.W.Frag) (H H1 : Hp) (d l : Addr) (G : GD) (kvs : List (Psn × V)) (xs : List V) (bs : List Psn) : Prop where
  same : Same H H1
  dn : H d = none
  ln : H l = none
  D : DictAt w K H1 d kvs
  hl : H1 l = some (.lst xs)
  rs : Rs K H1 xs bs
  ok : ∀ q ∈ keys kvs, PosOk G q
  sub : ∀ q ∈ bs, q ∈ keys kvs
section
variable {H H1 H2 : Hp} {d l : Addr} {G : GD} {kvs : List (Psn × V)} {xs : List V} {bs : List Psn}
theorem FI.dl (F : FI w K H H1 d l G kvs xs bs) : d ≠ l := by
  obtain ⟨φ, e⟩ := F.D.some
  exact ne_of e F.hl (by intro z; cases z)
theorem FI.on (F : FI w K H H1 d l G kvs xs bs) (e : Same H1 H2) : FI w K H H2 d l G kvs xs bs := ⟨F.same.trans e, F.dn, F.ln, F.D.same e, e _ _ F.hl, F.rs.same e, F.ok, F.sub⟩
theorem FI.size (g : GOk G) (F : FI w K H H1 d l G kvs xs bs) : kvs.length ≤ 6250 := by
  have z := nd_le F.D.nd fun q hq => mem_univ g (F.ok q hq)
  rw [List.length_map] at z
  exact Nat.le_trans z (univ_len g)
theorem FI.nd (F : FI w K H H1 d l G kvs xs bs) : NoT (H1 d) ∧ NoT (H1 l) := ⟨F.D.noT, by rw [F.hl]; trivial⟩
theorem Done.on {q : Psn} (h : Done K H1 l G kvs q) (e : Same H1 H2) : Done K H2 l G kvs q := let ⟨lq, xs, h1, h2, h3, h4, h5⟩ := h; ⟨lq, xs, h1, e _ _ h2, h3, h4.same e, h5⟩
/-- a new one: its place in the table, its place in the row -/
theorem FI.add (F : FI w K H H1 d l G kvs xs bs) {c : Psn} {y : V} {e : Addr} {ob : HO} (he : H1 e = none) (hy : R K H1 y c) (hc : PosOk G c) (hn : ¬ c ∈ keys kvs)
    (D2 : DictAt w K (upd (upd H1 e (.lst [])) d ob) d (putK kvs c (.ref e))) : upd (upd H1 e (.lst [])) d ob l = some (.lst xs) ∧ FI w K H (upd (upd (upd H1 e (.lst [])) d ob) l (.lst (xs ++ [y]))) d l G (putK kvs c (.ref e)) (xs ++ [y]) (bs ++ [c]) ∧ TK K H1 (upd (upd (upd H1 e (.lst [])) d ob) l (.lst (xs ++ [y]))) ∧
    (putK kvs c (.ref e)).length = kvs.length + 1 ∧ ∀ q, ¬ q = c → Done K H1 l G kvs q → Done K (upd (upd (upd H1 e (.lst [])) d ob) l (.lst (xs ++ [y]))) l G (putK kvs c (.ref e)) q := by
  have dl := F.dl
  have le : l ≠ e := ne_of_none F.hl he
  have de : d ≠ e := F.D.ne he
  have s1 : Same H1 (upd H1 e (.lst [])) := Same.new he
  have F1 := F.on s1
  have hl2 : upd (upd H1 e (.lst [])) d ob l = some (.lst xs) := by rw [upd_ne dl.symm]; exact F1.hl
  have t1 : TK K H1 (upd (upd H1 e (.lst [])) d ob) := (TK.same s1).trans (TK.wr F1.nd.1)
  have t2 : TK K H1 (upd (upd (upd H1 e (.lst [])) d ob) l (.lst (xs ++ [y]))) := t1.trans (TK.wr (by rw [hl2]; trivial))
  have hk : keys (putK kvs c (.ref e)) = keys kvs ++ [c] := by
    rcases keys_putK kvs c (.ref e) with ⟨_, h⟩ | ⟨h, _⟩
    · exact absurd h hn
    · exact h
  refine ⟨hl2, ⟨Same.mut (Same.mut F1.same F.dn) F.ln, F.dn, F.ln, D2.fut (TK.wr (by rw [hl2]; trivial)) (upd_ne dl), upd_same, (F.rs.fut t2).snoc (hy.fut t2), fun q hq => ?_, fun q hq => ?_⟩, t2, ?_, fun q hqc h => ?_⟩
  · rcases mem_putK.mp hq with z | z
    · exact F.ok q z
    · rw [z]; exact hc
  · rcases List.mem_append.mp hq with z | z
    · exact mem_putK.mpr (.inl (F.sub q z))
    · exact mem_putK.mpr (.inr (List.mem_singleton.mp z))
  · have z := congrArg List.length hk
    simp [keys] at z
    exact z
  · obtain ⟨lq, ys, h1, h2, h3, h4, h5⟩ := h
    have qd : lq ≠ d := by
      obtain ⟨φ, e1⟩ := F.D.some
      exact fun z => by rw [z, e1] at h2; cases h2
    have qe : lq ≠ e := ne_of_none h2 he
    refine ⟨lq, ys, ?_, ?_, h3, h4.fut t2, fun r hr => mem_putK.mpr (.inl (h5 r hr))⟩
    · rw [valV_putK, if_neg hqc]; exact h1
    · rw [upd_ne h3, upd_ne qd, upd_ne qe]; exact h2
end
/-- the table: each key with the list of what follows -/
def TabAt (K : PySem.W.Frag) (H : Hp) (G : GD) (kvs : List (Psn × V)) : Prop := ∀ q ∈ keys kvs, ∃ lq xs, valV kvs q = some (.ref lq) ∧ H lq = some (.lst xs) ∧ Rs K H xs (nxF G q)
theorem TabAt.same {H H' : Hp} {G : GD} {kvs : List (Psn × V)} (e : Same H H') (h : TabAt K H G kvs) : TabAt K H' G kvs := fun q hq => let ⟨lq, xs, h1, h2, h3⟩ := h q hq; ⟨lq, xs, h1, e _ _ h2, h3.same e⟩
structure TabOk1 (G : GD) (ks : List Psn) : Prop where
  ok : ∀ q ∈ ks, PosOk G q
  cl : ∀ q ∈ ks, ∀ r ∈ nxF G q, r ∈ ks
def sp_followers (w : World) (K : PySem.W.Frag) (T : Top K mg) : Sp := fun vs H Q _ => ∃ (g l : Addr) (G : GD) (xs : List V) (ps : List Psn), vs = [.ref g, .ref l] ∧ GameAt K H T.c_Game T.c_Board g G ∧ GOk G ∧ ClOk G ∧ SqL K H l xs ∧ Rs K H xs ps ∧ (∀ p ∈ ps, PosOk G p) ∧
  ∀ d kvs H', Same H H' → H d = none → DictAt w K H' d kvs → TabAt K H' G kvs → TabOk1 G (keys kvs) → (∀ p ∈ ps, p ∈ keys kvs) → Q (.ref d) H'
theorem ok_followers (T : Top K mg) : FnOk P w K mg base CX0 37 T.followers.a T.followers.fd P_followers (sp_followers w K T) := by
  refine T.followers.F.ok sc_followers (fun vs H Q E h => ?_) (fun cdv A outer s H vs Q E hr hh => ?_)
  · obtain ⟨_, _, _, _, _, rfl, _⟩ := h; rfl
  obtain ⟨g, la, G, vs', ps, rfl, hg, gok, clok, hla, hps, pok, q⟩ := hh
  have nd := sc_followers.nd
  have hu := hu64 hr
  refine ⟨_, (pss_cons (ps_set (i := 2) nd rfl (Or.inl rfl) (pe_nnew Psn))
    (pss_cons (ps_set (i := 3) nd rfl (Or.inl rfl) (pe_lst pa_nil))
    (pss_cons (ps_for PassesOwn.never rfl (pi_list (pv 1)) (pg_name (i := 4) nd rfl (Or.inl rfl))
      (pss_one (ps_if (pt_cmpR (op_nNotIn Psn hu) (pv 4) (pv 2) (by rfl))
        (pss_cons (ps_asg (pe_lst pa_nil) (pg_sub (pv 2) (pv 4) (set_n Psn hu)))
        (pss_one (ps_expr (pe_bm PySem.F.plainAttrs_list PySem.F.slot_list_append PySem.F.type_list_append mt_append (pv 3) (pa_cons (pv 4) pa_nil)))))
        pss_nil)))
    (pss_cons (ps_while PassesOwn.never (pt_cmpR op_gt (pe_callB call_len_seq rfl T.z_len PySem.boot_len (pa_cons (pv 3) pa_nil)) pe_int (nomark _))
      (pss_cons (ps_set (i := 4) nd rfl (Or.inl rfl) (pe_bm0 PySem.F.plainAttrs_list PySem.F.slot_list_pop PySem.F.type_list_pop mt_pop (pv 3)))
      (pss_cons (ps_if (pt_cmpR op_gt (pe_callB (call_lenN Psn) rfl T.z_len PySem.boot_len (pa_cons (pv 2) pa_nil)) (pe_glob (v := .int 20000) rfl T.g_MOST T.r_MOST) (nomark _))
        (pss_one ps_never)
        pss_nil)
      (pss_cons (ps_asg (pe_call (ok_next_positions T) (hr.mono (by decide)) rfl T.next_positions.m T.next_positions.k T.next_positions.b .nil pass0 (pa_cons (pv 0) (pa_cons (pv 4) pa_nil))) (pg_sub (pv 2) (pv 4) (set_n Psn hu)))
      (pss_one (ps_for PassesOwn.never rfl (pi_list (pe_nget Psn hu (pv 2) (pv 4) (fun _ _ => rfl))) (pg_name (i := 5) nd rfl (Or.inl rfl))
        (pss_one (ps_if (pt_cmpR (op_nNotIn Psn hu) (pv 5) (pv 2) (by rfl))
          (pss_cons (ps_asg (pe_lst pa_nil) (pg_sub (pv 2) (pv 5) (set_n Psn hu)))
          (pss_one (ps_expr (pe_bm PySem.F.plainAttrs_list PySem.F.slot_list_append PySem.F.type_list_append mt_append (pv 3) (pa_cons (pv 5) pa_nil)))))
          pss_nil))))))))
    (pss_one (ps_ret (pv 2))))))), ?_⟩
  intro d hd ob0 D0
  refine ⟨(by decide : 0 ≤ sizeLine), fun l hl => ?_⟩
  have s1 : Same H (upd H d ob0) := Same.new hd
  have s2 := s1.trans (Same.new (o := .lst []) hl)
  have hl0 : H l = none := s1.free hl
  have dl : d ≠ l := D0.ne hl
  have F0 : FI w K H (upd (upd H d ob0) l (.lst [])) d l G [] [] [] := ⟨s2, hd, hl0, D0.fut (TK.new hl) (upd_ne dl), upd_same, .nil, fun q h => by simp [keys] at h, fun q h => nomatch h⟩
  refine ⟨_, rfl, la, rfl, ⟨_, s2.seq hla⟩, ?_⟩
  refine for_it (walkL (K := K) (a := la) (xs := vs')) (fun i σ H1 => ∃ kvs xs bs x4 x5, σ = [some (.ref g), some (.ref la), some (.ref d), some (.ref l), x4, x5] ∧ FI w K H H1 d l G kvs xs bs ∧ (∀ q ∈ keys kvs, q ∈ bs) ∧ (∀ p ∈ ps.take i, p ∈ keys kvs) ∧ bs.length ≤ kvs.length)
    ⟨_, _, _, _, _, rfl, F0, fun q h => by simp [keys] at h, fun p h => by simp at h, Nat.le_refl _⟩ (fun i σ H1 _ ⟨_, _, _, _, _, _, F, _⟩ => F.same.seq hla) (fun i x σ H1 H1' hi hP hY => ?_) (fun σ H1 hP => ?_)
  · obtain ⟨kvs, xs, bs, x4, x5, rfl, F, k1, k2, k3⟩ := hP
    obtain ⟨rfl, hx⟩ := hY
    obtain ⟨p, hp, hR⟩ := (hps.same F.same).get hx
    have hpm := pok p (List.mem_of_getElem? hp)
    refine ⟨_, rfl, _, rfl, d, kvs, p, rfl, F.D, hR, _, rfl, ite2 (fun c => ?_) (fun c => ?_)⟩
    · have hn : ¬ p ∈ keys kvs := fun z => by rw [valV_isSome.mpr z] at c; exact absurd c (by decide)
      refine ⟨(by decide : 0 ≤ sizeLine), fun e he => ?_⟩
      have hz := F.size gok
      refine ⟨_, rfl, _, rfl, d, kvs, p, rfl, F.D.same (Same.new he), hR.same (Same.new he), big' (by omega), fun ob D2 => ?_⟩
      obtain ⟨hl2, F2, t2, z2, _⟩ := F.add he hR hpm hn D2
      have hxl := F.rs.length
      refine ⟨_, rfl, .inl ⟨rfl, _, SqL.of hl2⟩, _, rfl, l, xs, x, rfl, rfl, hl2, big' (by omega), ?_⟩
      refine ⟨_, _, _, _, _, rfl, F2, fun q hq => ?_, fun q hq => ?_, ?_⟩
      · rcases mem_putK.mp hq with z | z
        · exact List.mem_append_left _ (k1 q z)
        · exact List.mem_append_right _ (List.mem_singleton.mpr z)
      · rw [take_one hp] at hq
        rcases List.mem_append.mp hq with z | z
        · exact mem_putK.mpr (.inl (k2 q z))
        · exact mem_putK.mpr (.inr (List.mem_singleton.mp z))
      · rw [z2, List.length_append, List.length_singleton]; omega
    · have hm : p ∈ keys kvs := by
        cases z : (valV kvs p).isSome with
        | true => exact valV_isSome.mp z
        | false => rw [z] at c; exact absurd rfl c
      refine ⟨_, _, _, _, _, rfl, F, k1, fun q hq => ?_, k3⟩
      rw [take_one hp] at hq
      rcases List.mem_append.mp hq with z | z
      · exact k2 q z
      · rw [List.mem_singleton.mp z]; exact hm
  obtain ⟨kvs, xs, bs, x4, x5, rfl, F, k1, k2, k3⟩ := hP
  rw [hps.length, List.take_length] at k2
  have hz0 := F.size gok
  refine ⟨fun m σ H1 => ∃ kvs xs bs x4 x5, σ = [some (.ref g), some (.ref la), some (.ref d), some (.ref l), x4, x5] ∧ FI w K H H1 d l G kvs xs bs ∧ (∀ q ∈ keys kvs, ¬ q ∈ bs → Done K H1 l G kvs q) ∧ (∀ p ∈ ps, p ∈ keys kvs) ∧ m = 2 * (6250 - kvs.length) + bs.length ∧ m ≤ 20000,
    ⟨_, kvs, xs, bs, _, _, rfl, F, fun q h1 h2 => absurd (k1 q h1) h2, k2, rfl, by omega⟩, ?_⟩
  clear F k1 k2 k3 hz0
  rintro m σ H1 ⟨kvs, xs, bs, x4, x5, rfl, F, k1, k2, rfl, k3⟩
  refine ⟨_, rfl, l, xs, rfl, .inl (SqL.of F.hl), _, _, rfl, rfl, _, rfl, ite2 (fun c => ?_) (fun c => ?_)⟩
  rotate_left
  · have c : ¬ ((xs.length : Int) > 0) := fun z => c (decide_eq_true z)
    have hx0 : xs = [] := List.length_eq_zero_iff.mp (by omega)
    subst hx0
    have hb0 : bs = [] := F.rs.nilL
    subst hb0
    refine ⟨_, rfl, q d kvs H1 F.same hd F.D (fun q hq => ?_) ⟨F.ok, fun q hq => ?_⟩ k2⟩
    · obtain ⟨lq, ys, h1, h2, _, h4, _⟩ := k1 q hq (by simp)
      exact ⟨lq, ys, h1, h2, h4⟩
    · obtain ⟨lq, ys, _, _, _, _, h5⟩ := k1 q hq (by simp)
      exact h5
  have c : (xs.length : Int) > 0 := of_decide_eq_true c
  obtain ⟨y, hy⟩ : ∃ y, xs[xs.length - 1]? = some y := ⟨xs[xs.length - 1]'(by omega), List.getElem?_eq_getElem _⟩
  obtain ⟨b0, hb0, hyb⟩ := F.rs.get hy
  rw [F.rs.length] at hb0
  have ebs := dl_last hb0
  have hb0m : b0 ∈ keys kvs := F.sub b0 (List.mem_of_getElem? hb0)
  have hb0k := F.ok b0 hb0m
  have e4 : Same H (upd H1 l (.lst xs.dropLast)) := Same.mut F.same F.ln
  have t4 : TK K H1 (upd H1 l (.lst xs.dropLast)) := TK.wr F.nd.2
  have F4 : FI w K H (upd H1 l (.lst xs.dropLast)) d l G kvs xs.dropLast bs.dropLast := ⟨e4, F.dn, F.ln, F.D.fut t4 (upd_ne F.dl), upd_same, F.rs.dropLast.fut t4, F.ok, fun q hq => F.sub q (dl_mem hq)⟩
  have D4 : ∀ q ∈ keys kvs, ¬ q ∈ bs.dropLast → ¬ q = b0 → Done K (upd H1 l (.lst xs.dropLast)) l G kvs q := fun q hq hn hne => by
    obtain ⟨lq, ys, h1, h2, h3, h4, h5⟩ := k1 q hq fun hb' => by
      rw [ebs] at hb'
      rcases List.mem_append.mp hb' with z | z
      · exact hn z
      · exact hne (List.mem_singleton.mp z)
    exact ⟨lq, ys, h1, by rw [upd_ne h3]; exact h2, h3, h4.fut t4, h5⟩
  have hz := F.size gok
  refine ⟨fun σ' H' => ∃ m', m' < 2 * (6250 - kvs.length) + bs.length ∧ ∃ kvs xs bs x4 x5, σ' = [some (.ref g), some (.ref la), some (.ref d), some (.ref l), x4, x5] ∧ FI w K H H' d l G kvs xs bs ∧ (∀ q ∈ keys kvs, ¬ q ∈ bs → Done K H' l G kvs q) ∧ (∀ p ∈ ps, p ∈ keys kvs) ∧ m' = 2 * (6250 - kvs.length) + bs.length ∧ m' ≤ 20000, fun σ' H' h => h, ?_⟩
  refine ⟨_, rfl, .inl ⟨rfl, _, SqL.of F.hl⟩, l, xs, y, rfl, rfl, F.hl, hy, ?_⟩
  refine ⟨_, rfl, d, kvs, rfl, F4.D, _, _, rfl, rfl, _, rfl, ite2 (fun cc => ?_) (fun _ => ?_)⟩
  · have cc : (kvs.length : Int) > 20000 := of_decide_eq_true cc
    omega
  refine ⟨_, rfl, _, rfl, g, G, y, b0, rfl, hg.same F4.same, gok, clok, hyb.fut t4, hb0k, fun lq ys cs H5 e5 n5 hl5 hx5 nd5 k5 => ?_⟩
  have enx : srt cs = nxF G b0 := (nxF_is nd5 k5).symm
  rw [enx] at hx5
  have F5 := F4.on e5
  have ll : lq ≠ l := (ne_of_none F4.hl n5).symm
  have ld : d ≠ lq := F4.D.ne n5
  refine ⟨_, rfl, _, rfl, d, kvs, b0, rfl, F5.D, (hyb.fut t4).same e5, big' (by omega), fun ob D6 => ?_⟩
  have hk6 : keys (putK kvs b0 (.ref lq)) = keys kvs := by
    rcases keys_putK kvs b0 (.ref lq) with ⟨h, _⟩ | ⟨_, h⟩
    · exact h
    · exact absurd hb0m h
  have hz6 : (putK kvs b0 (.ref lq)).length = kvs.length := by
    have z := congrArg List.length hk6
    simpa [keys] using z
  have t6 : TK K H5 (upd H5 d ob) := TK.wr F5.nd.1
  have F6 : FI w K H (upd H5 d ob) d l G (putK kvs b0 (.ref lq)) xs.dropLast bs.dropLast := ⟨Same.mut F5.same F.dn, F.dn, F.ln, D6, by rw [upd_ne F5.dl.symm]; exact F5.hl, F5.rs.fut t6, by rw [hk6]; exact F5.ok, by rw [hk6]; exact F5.sub⟩
  have hlq6 : upd H5 d ob lq = some (.lst ys) := by rw [upd_ne ld.symm]; exact hl5
  have D7 : ∀ q ∈ keys kvs, ¬ q ∈ bs.dropLast → ¬ q = b0 → Done K (upd H5 d ob) l G (putK kvs b0 (.ref lq)) q := fun q hq hn hne => by
    obtain ⟨lr, zs, h1, h2, h3, h4, h5⟩ := (D4 q hq hn hne).on e5
    have rd : lr ≠ d := by
      obtain ⟨φ, e1⟩ := F5.D.some
      exact fun z => by rw [z, e1] at h2; cases h2
    exact ⟨lr, zs, by rw [valV_putK, if_neg hne]; exact h1, by rw [upd_ne rd]; exact h2, h3, h4.fut t6, fun r hr => by rw [hk6]; exact h5 r hr⟩
  refine ⟨_, rfl, _, rfl, d, _, b0, _, rfl, D6, ((hyb.fut t4).same e5).fut t6, by rw [valV_putK, if_pos rfl], lq, rfl, ⟨_, SqL.of hlq6⟩, ?_⟩
  refine for_it (walkL (K := K) (a := lq) (xs := ys)) (fun j σ H7 => ∃ kvs' xs' bs' x5, σ = [some (.ref g), some (.ref la), some (.ref d), some (.ref l), some y, x5] ∧ FI w K H H7 d l G kvs' xs' bs' ∧ H7 lq = some (.lst ys) ∧ Rs K H7 ys (nxF G b0) ∧ valV kvs' b0 = some (.ref lq) ∧ b0 ∈ keys kvs' ∧
      (∀ q ∈ keys kvs', ¬ q ∈ bs' → ¬ q = b0 → Done K H7 l G kvs' q) ∧ (∀ r ∈ (nxF G b0).take j, r ∈ keys kvs') ∧ (∀ p ∈ ps, p ∈ keys kvs') ∧ 2 * (6250 - kvs'.length) + bs'.length + 1 ≤ 2 * (6250 - kvs.length) + bs.length)
    ⟨_, _, _, _, rfl, F6, hlq6, hx5.fut t6, by rw [valV_putK, if_pos rfl], by rw [hk6]; exact hb0m, by rw [hk6]; exact D7, fun r hr => by simp at hr, by rw [hk6]; exact k2, ?_⟩ (fun j σ H7 _ ⟨_, _, _, _, _, _, h, _⟩ => SqL.of h) (fun j z σ H7 H7' hj hP hY => ?_) (fun σ H7 hP => ?_)
  · have : bs.length = bs.dropLast.length + 1 := by rw [ebs]; simp
    rw [hz6]
    omega
  · obtain ⟨kvs', xs', bs', x5, rfl, F7, hq7, hr7, v7, m7, j1, j2, j3, j4⟩ := hP
    obtain ⟨rfl, hz7⟩ := hY
    obtain ⟨r, hr, hzr⟩ := hr7.get hz7
    have rk := (nxF_ok gok hb0k (List.mem_of_getElem? hr)).1
    refine ⟨_, rfl, _, rfl, d, kvs', r, rfl, F7.D, hzr, _, rfl, ite2 (fun cc => ?_) (fun cc => ?_)⟩
    · have hn : ¬ r ∈ keys kvs' := fun z => by rw [valV_isSome.mpr z] at cc; exact absurd cc (by decide)
      refine ⟨(by decide : 0 ≤ sizeLine), fun e he => ?_⟩
      have hzz := F7.size gok
      refine ⟨_, rfl, _, rfl, d, kvs', r, rfl, F7.D.same (Same.new he), hzr.same (Same.new he), big' (by omega), fun ob D8 => ?_⟩
      obtain ⟨hl8, F8, t8, z8, don8⟩ := F7.add he hzr rk hn D8
      have hxl := F7.rs.length
      refine ⟨_, rfl, .inl ⟨rfl, _, SqL.of hl8⟩, _, rfl, l, xs', z, rfl, rfl, hl8, big' (by omega), ?_⟩
      have r0 : ¬ b0 = r := fun z => hn (by rw [← z]; exact m7)
      have qd : lq ≠ d := ld.symm
      have qe : lq ≠ e := ne_of_none hq7 he
      refine ⟨_, _, _, _, rfl, F8, by rw [upd_ne ll, upd_ne qd, upd_ne qe]; exact hq7, hr7.fut t8, by rw [valV_putK, if_neg r0]; exact v7, mem_putK.mpr (.inl m7), fun q hq hnb hne => ?_, fun s hs => ?_, fun p hp => mem_putK.mpr (.inl (j3 p hp)), ?_⟩
      · rcases mem_putK.mp hq with z | z
        · exact don8 q (fun y => hnb (List.mem_append_right _ (List.mem_singleton.mpr y))) (j1 q z (fun y => hnb (List.mem_append_left _ y)) hne)
        · exact absurd (List.mem_append_right _ (List.mem_singleton.mpr z)) hnb
      · rw [take_one hr] at hs
        rcases List.mem_append.mp hs with z | z
        · exact mem_putK.mpr (.inl (j2 s z))
        · exact mem_putK.mpr (.inr (List.mem_singleton.mp z))
      · have := F8.size gok
        rw [z8] at this ⊢
        rw [List.length_append, List.length_singleton]
        omega
    · have hm : r ∈ keys kvs' := by
        cases z : (valV kvs' r).isSome with
        | true => exact valV_isSome.mp z
        | false => rw [z] at cc; exact absurd rfl cc
      refine ⟨_, _, _, _, rfl, F7, hq7, hr7, v7, m7, j1, fun s hs => ?_, j3, j4⟩
      rw [take_one hr] at hs
      rcases List.mem_append.mp hs with z | z
      · exact j2 s z
      · rw [List.mem_singleton.mp z]; exact hm
  · obtain ⟨kvs', xs', bs', x5, rfl, F7, hq7, hr7, v7, m7, j1, j2, j3, j4⟩ := hP
    rw [hx5.length, List.take_length] at j2
    refine ⟨_, by omega, kvs', xs', bs', _, _, rfl, F7, fun q hq hn => ?_, j3, rfl, by omega⟩
    by_cases e : q = b0
    · rw [e]; exact ⟨lq, ys, v7, hq7, ll, hr7, j2⟩
    · exact j1 q hq hn e
end Sk

/-! Sk: backwards. -/
namespace Sk
open PySem L2 PySem.Spec PyProof.Rows
variable {P : Program} {w : World} {K : PySem.W.Frag} {mg : Str → Option Value} {base : Heap}

theorem sw_dict {kx vx : Expr} {gs : List Comprehension} {scope : Scope} {pos py : Pos} {y : Str} {l : Nat} {env : Env} (hk : env.scope.kind = .function) (hy : env.scope.names.lookup y = some .local) (hl : (py.line == pos.line) = true)
    (ha : (scope.names.any fun (n, k) => n == y && (k == .local || k == .cell)) = false) : swapsWith (.DictComp kx vx gs scope pos) (some (.Name y py)) l env = pure true := by
  have ky : env.kindOf y = some .local := hy
  have hb : env.blockKind = .function := by unfold Env.blockKind; rw [hk]; rfl
  unfold swapsWith
  simp only [hb, ky, ha, Expr.pos, hl]
  rfl
/-- the dict of those before: E q p tells that p is in the list of q -/
structure BF (w : World) (K : PySem.W.Frag) (H H1 : Hp) (d : Addr) (G : GD) (E : Psn → Psn → Prop) (kvs : List (Psn × V)) : Prop where
  same : Same H H1
  dn : H d = none
  D : DictAt w K H1 d kvs
  ok : ∀ q ∈ keys kvs, PosOk G q
  at_ : ∀ q ∈ keys kvs, ∃ lq xs bs, valV kvs q = some (.ref lq) ∧ H lq = none ∧ H1 lq = some (.lst xs) ∧ Rs K H1 xs bs ∧ bs.Nodup ∧ ∀ p, p ∈ bs ↔ E q p
  inj : ∀ q q' l, valV kvs q = some (.ref l) → valV kvs q' = some (.ref l) → q = q'
  out : ∀ q, ¬ q ∈ keys kvs → ∀ p, ¬ E q p
  pk : ∀ q p, E q p → PosOk G p
section
variable {H H1 H2 : Hp} {d : Addr} {G : GD} {E : Psn → Psn → Prop} {kvs : List (Psn × V)}
theorem BF.on (F : BF w K H H1 d G E kvs) (e : Same H1 H2) : BF w K H H2 d G E kvs := ⟨F.same.trans e, F.dn, F.D.same e, F.ok, fun q hq => let ⟨lq, xs, bs, a, b, c, f, g, h⟩ := F.at_ q hq; ⟨lq, xs, bs, a, b, e _ _ c, f.same e, g, h⟩, F.inj, F.out, F.pk⟩
theorem BF.size (g : GOk G) (F : BF w K H H1 d G E kvs) : kvs.length ≤ 6250 := by
  have z := nd_le F.D.nd fun q hq => mem_univ g (F.ok q hq)
  rw [List.length_map] at z
  exact Nat.le_trans z (univ_len g)
theorem BF.rel (F : BF w K H H1 d G E kvs) {E' : Psn → Psn → Prop} (h : ∀ q p, E q p ↔ E' q p) : BF w K H H1 d G E' kvs := by
  have : E = E' := by funext a b; exact propext (h a b)
  rw [← this]
  exact F
/-- a new list for c, nobody in it -/
theorem BF.new (F : BF w K H H1 d G E kvs) {c : Psn} {e : Addr} {ob : HO} (he : H1 e = none) (hc : PosOk G c) (hE : ∀ p, ¬ E c p) (D2 : DictAt w K (upd (upd H1 e (.lst [])) d ob) d (putK kvs c (.ref e))) :
    BF w K H (upd (upd H1 e (.lst [])) d ob) d G E (putK kvs c (.ref e)) := by
  have s1 : Same H1 (upd H1 e (.lst [])) := Same.new he
  have F1 := F.on s1
  have de : d ≠ e := F.D.ne he
  have t1 : TK K H1 (upd (upd H1 e (.lst [])) d ob) := (TK.same s1).trans (TK.wr F1.D.noT)
  have old : ∀ q l, valV kvs q = some (.ref l) → l ≠ e := fun q l h => by
    have hq : q ∈ keys kvs := valV_isSome.mp (by rw [h]; rfl)
    obtain ⟨lq, xs, bs, h1, _, h2, _⟩ := F.at_ q hq
    rw [h1] at h
    injection h with h
    injection h with h
    subst h
    exact ne_of_none h2 he
  refine ⟨Same.mut F1.same F.dn, F.dn, D2, fun q hq => ?_, fun q hq => ?_, fun q q' l h1 h2 => ?_, fun q hq => ?_, F.pk⟩
  · rcases mem_putK.mp hq with z | z
    · exact F.ok q z
    · rw [z]; exact hc
  · by_cases z : q = c
    · subst z
      refine ⟨e, [], [], by rw [valV_putK, if_pos rfl], F.same.free he, by rw [upd_ne de.symm]; exact upd_same, .nil, List.nodup_nil, fun p => ⟨(fun h => nomatch h), fun h => absurd h (hE p)⟩⟩
    · have hq' : q ∈ keys kvs := by
        rcases mem_putK.mp hq with y | y
        · exact y
        · exact absurd y z
      obtain ⟨lq, xs, bs, h1, h2, h3, h4, h5, h6⟩ := F.at_ q hq'
      have ld : lq ≠ d := by
        obtain ⟨φ, e1⟩ := F.D.some
        exact fun y => by rw [y, e1] at h3; cases h3
      exact ⟨lq, xs, bs, by rw [valV_putK, if_neg z]; exact h1, h2, by rw [upd_ne ld, upd_ne (ne_of_none h3 he)]; exact h3, h4.fut t1, h5, h6⟩
  · rw [valV_putK] at h1 h2
    by_cases z1 : q = c <;> by_cases z2 : q' = c
    · rw [z1, z2]
    · rw [if_pos z1] at h1
      rw [if_neg z2] at h2
      injection h1 with h1
      injection h1 with h1
      exact absurd h1.symm (old q' l h2)
    · rw [if_neg z1] at h1
      rw [if_pos z2] at h2
      injection h2 with h2
      injection h2 with h2
      exact absurd h2.symm (old q l h1)
    · rw [if_neg z1] at h1
      rw [if_neg z2] at h2
      exact F.inj q q' l h1 h2
  · exact F.out q fun z => hq (mem_putK.mpr (.inl z))
/-- p0 into the list of c -/
theorem BF.push (F : BF w K H H1 d G E kvs) {c p0 : Psn} {y : V} {lq : Addr} {xs : List V} {bs : List Psn} (hy : R K H1 y p0) (hv : valV kvs c = some (.ref lq)) (hl : H1 lq = some (.lst xs)) (hR : Rs K H1 xs bs) (hb : bs.Nodup) (hbE : ∀ p, p ∈ bs ↔ E c p) (hn : ¬ E c p0) (hp : PosOk G p0) :
    BF w K H (upd H1 lq (.lst (xs ++ [y]))) d G (fun q p => E q p ∨ (q = c ∧ p = p0)) kvs ∧ TK K H1 (upd H1 lq (.lst (xs ++ [y]))) := by
  have hc : c ∈ keys kvs := valV_isSome.mp (by rw [hv]; rfl)
  have ld : lq ≠ d := by
    obtain ⟨φ, e1⟩ := F.D.some
    exact fun z => by rw [z, e1] at hl; cases hl
  have h0 : H lq = none := by
    obtain ⟨l2, _, _, h1, h2, _⟩ := F.at_ c hc
    rw [h1] at hv
    injection hv with hv
    injection hv with hv
    subst hv
    exact h2
  have t1 : TK K H1 (upd H1 lq (.lst (xs ++ [y]))) := TK.wr (by rw [hl]; trivial)
  refine ⟨⟨Same.mut F.same h0, F.dn, F.D.fut t1 (upd_ne ld.symm), F.ok, fun q hq => ?_, F.inj, fun q hq p h => ?_, fun q p h => ?_⟩, t1⟩
  · by_cases z : q = c
    · subst z
      refine ⟨lq, xs ++ [y], bs ++ [p0], hv, h0, upd_same, (hR.fut t1).snoc (hy.fut t1), ?_, fun p => ?_⟩
      · rw [List.nodup_append]
        refine ⟨hb, by simp, fun a ha b hb' e => ?_⟩
        rw [List.mem_singleton.mp hb'] at e
        rw [e] at ha
        exact hn ((hbE p0).mp ha)
      · rw [List.mem_append, hbE, List.mem_singleton]
        constructor
        · rintro (h | h)
          · exact .inl h
          · exact .inr ⟨rfl, h⟩
        · rintro (h | ⟨_, h⟩)
          · exact .inl h
          · exact .inr h
    · obtain ⟨l2, xs2, bs2, h1, h2, h3, h4, h5, h6⟩ := F.at_ q hq
      have ll : l2 ≠ lq := fun e => z (F.inj q c lq (by rw [← e]; exact h1) hv)
      refine ⟨l2, xs2, bs2, h1, h2, by rw [upd_ne ll]; exact h3, h4.fut t1, h5, fun p => (h6 p).trans ⟨.inl, fun h => ?_⟩⟩
      rcases h with h | ⟨h, _⟩
      · exact h
      · exact absurd h z
  · rcases h with h | ⟨h, _⟩
    · exact F.out q hq p h
    · subst h; exact hq hc
  · rcases h with h | ⟨_, h⟩
    · exact F.pk q p h
    · rw [h]; exact hp
end
def sp_backwards (w : World) (K : PySem.W.Frag) (T : Top K mg) : Sp := fun vs H Q _ => ∃ (dT dK : Addr) (G : GD) (kvT kvK : List (Psn × V)), vs = [.ref dT, .ref dK] ∧ GOk G ∧ DictAt w K H dT kvT ∧ TabAt K H G kvT ∧ TabOk1 G (keys kvT) ∧ DictAt w K H dK kvK ∧ (∀ q ∈ keys kvK, PosOk G q) ∧
  ∀ d kvs H', BF w K H H' d G (fun q p => p ∈ keys kvT ∧ q ∈ nxF G p) kvs → Q (.ref d) H'
theorem ok_backwards (T : Top K mg) : FnOk P w K mg base CX0 1 T.backwards.a T.backwards.fd P_backwards (sp_backwards w K T) := by
  refine T.backwards.F.ok sc_backwards (fun vs H Q E h => ?_) (fun cdv A outer s H vs Q E hr hh => ?_)
  · obtain ⟨_, _, _, _, _, rfl, _⟩ := h; rfl
  obtain ⟨dT, dK, G, kvT, kvK, rfl, gok, DT, tab, tok, DK, kok, q⟩ := hh
  have nd := sc_backwards.nd
  have hu := hu64 hr
  refine ⟨_, (pss_cons (ps_bk (i := 2) (own := [("position", 3)]) (g := gName 3) (tt := tYes) (form_dict Psn hu (fun _ _ _ _ _ => (pv 3)) (fun _ _ _ _ _ => (pe_lst pa_nil))) (sw_dict rfl rfl rfl (by decide +kernel)) rfl rfl nd rfl rfl (pi_n (pv 1)) (blkOk_by (N := N_backwards) (sc := defScope s_backwards) (by decide +kernel)) (fun _ _ _ _ _ => (pg_name (i := 3) nd rfl (Or.inl rfl))) (fun _ _ _ _ _ => pts_nil))
    (pss_cons (ps_for PassesOwn.never rfl (pi_n (pv 0)) (pg_name (i := 3) nd rfl (Or.inl rfl))
      (pss_one (ps_for PassesOwn.never rfl (pi_list (pe_nget Psn hu (pv 0) (pv 3) (fun _ _ => rfl))) (pg_name (i := 4) nd rfl (Or.inl rfl))
        (pss_cons (ps_if (pt_cmpR (op_nNotIn Psn hu) (pv 4) (pv 2) (by rfl))
          (pss_one (ps_asg (pe_lst pa_nil) (pg_sub (pv 2) (pv 4) (set_n Psn hu))))
          pss_nil)
        (pss_one (ps_expr (pe_bm PySem.F.plainAttrs_list PySem.F.slot_list_append PySem.F.type_list_append mt_append (pe_nget Psn hu (pv 2) (pv 4) (fun _ _ => rfl)) (pa_cons (pv 3) pa_nil))))))))
    (pss_one (ps_ret (pv 2))))), ?_⟩
  obtain ⟨esT, epT, DT⟩ := DT
  obtain ⟨esK, epK, DK⟩ := DK
  refine ⟨_, rfl, dK, esK, epK, rfl, DK.ob, DK.sys, fun D hD ob0 D0 => ?_⟩
  refine bk_it (walk_n (w := w) (K := K) (d := dK) (es := esK) (ep := epK) (kvs := kvK)) (fun i H1 => ∃ kvs, BF w K H H1 D G (fun _ _ => False) kvs) ⟨[], Same.new hD, hD, D0, fun q h => by simp [keys] at h, fun q h => by simp [keys] at h, fun q q' l h => by simp [valV] at h, fun _ _ _ h => h, fun _ _ h => h.elim⟩ (fun i H1 _ ⟨_, F⟩ => DK.same F.same) (fun i x H1 H1' hi hP hY => ?_) (fun H1 hP => ?_)
  · obtain ⟨kvs, F⟩ := hP
    obtain ⟨rfl, c, cv, hc, hR⟩ := hY
    have hcm : PosOk G c := kok c (List.mem_map.mpr ⟨_, List.mem_of_getElem? hc, rfl⟩)
    have hz := F.size gok
    refine ⟨rfl, _, rfl, (by decide : 0 ≤ sizeLine), fun e he => ⟨kvs, c, F.D.same (Same.new he), hR.same (Same.new he), big' (by omega), fun ob D2 => ⟨_, F.new he hcm (fun _ h => h) D2⟩⟩⟩
  obtain ⟨kvs, F⟩ := hP
  have DT1 := DT.same F.same
  refine ⟨_, rfl, dT, esT, epT, rfl, DT1.ob, DT1.sys, ?_⟩
  refine for_it (walk_n (w := w) (K := K) (d := dT) (es := esT) (ep := epT) (kvs := kvT)) (fun i σ H2 => ∃ kvs x3 x4, σ = [some (.ref dT), some (.ref dK), some (.ref D), x3, x4] ∧ BF w K H H2 D G (fun q p => p ∈ keys (kvT.take i) ∧ q ∈ nxF G p) kvs)
    ⟨kvs, _, _, rfl, F.rel fun q p => ⟨fun h => h.elim, fun h => by simp [keys] at h⟩⟩ (fun i σ H2 _ ⟨_, _, _, _, F⟩ => DT.same F.same) (fun i x σ H2 H2' hi hP hY => ?_) (fun σ H2 hP => ?_)
  · obtain ⟨kvs, x3, x4, rfl, F⟩ := hP
    obtain ⟨rfl, p, pv, hp, hR⟩ := hY
    have hpm : p ∈ keys kvT := List.mem_map.mpr ⟨_, List.mem_of_getElem? hp, rfl⟩
    have hpk := tok.ok p hpm
    obtain ⟨lp, xs, hv, hlp, hxs⟩ := tab p hpm
    have DT2 : DictAt w K H2' dT kvT := ⟨esT, epT, DT.same F.same⟩
    have nf := nxF_facts gok hpk
    have pnew : ¬ p ∈ keys (kvT.take i) := fun h => by
      have z := DT.nd
      have e1 : kvT.map (·.1) = (kvT.take i).map (·.1) ++ (kvT.drop i).map (·.1) := by rw [← List.map_append, List.take_append_drop]
      rw [e1, List.nodup_append] at z
      have hd : kvT.drop i = (p, pv) :: kvT.drop (i + 1) := by
        obtain ⟨hlt, hce⟩ := List.getElem?_eq_some_iff.mp hp
        rw [← hce]
        exact List.drop_eq_getElem_cons hlt
      exact z.2.2 p h p (by rw [hd]; exact List.mem_cons_self) rfl
    refine ⟨_, rfl, _, rfl, dT, kvT, p, _, rfl, DT2, hR, hv, lp, rfl, ⟨_, SqL.of (F.same _ _ hlp)⟩, ?_⟩
    refine for_it (walkL (K := K) (a := lp) (xs := xs)) (fun j σ H3 => ∃ kvs x4, σ = [some (.ref dT), some (.ref dK), some (.ref D), some x, x4] ∧ R K H3 x p ∧ BF w K H H3 D G (fun q p' => (p' ∈ keys (kvT.take i) ∧ q ∈ nxF G p') ∨ (p' = p ∧ q ∈ (nxF G p).take j)) kvs)
      ⟨kvs, _, rfl, hR, F.rel fun q p' => by simp⟩ (fun j σ H3 _ ⟨_, _, _, _, F⟩ => SqL.of (F.same _ _ hlp)) (fun j y σ H3 H3' hj hP hY => ?_) (fun σ H3 hP => ?_)
    · obtain ⟨kvs, x4, rfl, hR3, F3⟩ := hP
      obtain ⟨rfl, hy⟩ := hY
      obtain ⟨c, hc, hyc⟩ := (hxs.same F3.same).get hy
      have hck := (nxF_ok gok hpk (List.mem_of_getElem? hc)).1
      have cnew : ¬ c ∈ (nxF G p).take j := fun h => by
        have z := nf.1
        have e1 : nxF G p = (nxF G p).take j ++ (nxF G p).drop j := (List.take_append_drop j _).symm
        rw [e1, List.nodup_append] at z
        have hd : (nxF G p).drop j = c :: (nxF G p).drop (j + 1) := by
          obtain ⟨hlt, hce⟩ := List.getElem?_eq_some_iff.mp hc
          rw [← hce]
          exact List.drop_eq_getElem_cons hlt
        exact z.2.2 c h c (by rw [hd]; exact List.mem_cons_self) rfl
      have notE : ¬ ((p ∈ keys (kvT.take i) ∧ c ∈ nxF G p) ∨ (p = p ∧ c ∈ (nxF G p).take j)) := fun h => by
        rcases h with h | h
        · exact pnew h.1
        · exact cnew h.2
      -- behind the test: c has its list
      have rest : ∀ (H4 : Hp) (kvs4 : List (Psn × V)), BF w K H H4 D G (fun q p' => (p' ∈ keys (kvT.take i) ∧ q ∈ nxF G p') ∨ (p' = p ∧ q ∈ (nxF G p).take j)) kvs4 → c ∈ keys kvs4 → R K H4 x p → R K H4 y c →
          ∃ lq xs4, valV kvs4 c = some (.ref lq) ∧ H4 lq = some (.lst xs4) ∧ xs4.length ≤ 6250 ∧ ∃ kvs x4, ([some (.ref dT), some (.ref dK), some (.ref D), some x, some y] : L2.St) = [some (.ref dT), some (.ref dK), some (.ref D), some x, x4] ∧ R K (upd H4 lq (.lst (xs4 ++ [x]))) x p ∧ BF w K H (upd H4 lq (.lst (xs4 ++ [x]))) D G (fun q p' => (p' ∈ keys (kvT.take i) ∧ q ∈ nxF G p') ∨ (p' = p ∧ q ∈ (nxF G p).take (j + 1))) kvs := fun H4 kvs4 F4 hm hx4 hy4 => by
        obtain ⟨lq, xs4, bs4, h1, h2, h3, h4, h5, h6⟩ := F4.at_ c hm
        obtain ⟨F5, t5⟩ := F4.push hx4 h1 h3 h4 h5 h6 notE hpk
        refine ⟨lq, xs4, h1, h3, ?_, kvs4, _, rfl, hx4.fut t5, F5.rel fun q p' => ?_⟩
        · rw [h4.length]
          have := nd_le h5 fun b hb => mem_univ gok (F4.pk c b ((h6 b).mp hb))
          exact Nat.le_trans this (univ_len gok)
        · rw [take_one hc, List.mem_append, List.mem_singleton]
          constructor
          · rintro ((h | ⟨h, h'⟩) | ⟨h, h'⟩)
            · exact .inl h
            · exact .inr ⟨h, .inl h'⟩
            · exact .inr ⟨h', .inr h⟩
          · rintro (h | ⟨h, h' | h'⟩)
            · exact .inl (.inl h)
            · exact .inl (.inr ⟨h, h'⟩)
            · exact .inr ⟨h', h⟩
      refine ⟨_, rfl, _, rfl, D, kvs, c, rfl, F3.D, hyc, _, rfl, ite2 (fun cc => ?_) (fun cc => ?_)⟩
      · have hn : ¬ c ∈ keys kvs := fun z => by rw [valV_isSome.mpr z] at cc; exact absurd cc (by decide)
        have hz := F3.size gok
        refine ⟨(by decide : 0 ≤ sizeLine), fun e he => ?_⟩
        refine ⟨_, rfl, _, rfl, D, kvs, c, rfl, F3.D.same (Same.new he), hyc.same (Same.new he), big' (by omega), fun ob D4 => ?_⟩
        have F4 := F3.new he hck (F3.out c hn) D4
        have t4 : TK K H3' (upd (upd H3' e (.lst [])) D ob) := (TK.same (Same.new he)).trans (TK.wr (F3.D.same (Same.new he)).noT)
        obtain ⟨lq, xs4, h1, h3, hz4, r⟩ := rest _ _ F4 (mem_putK.mpr (.inr rfl)) (hR3.fut t4) (hyc.fut t4)
        exact ⟨_, rfl, _, rfl, D, _, c, _, rfl, F4.D, hyc.fut t4, h1, .inl ⟨rfl, _, SqL.of h3⟩, _, rfl, lq, xs4, x, rfl, rfl, h3, big' (by omega), r⟩
      · have hm : c ∈ keys kvs := by
          cases z : (valV kvs c).isSome with
          | true => exact valV_isSome.mp z
          | false => rw [z] at cc; exact absurd rfl cc
        obtain ⟨lq, xs4, h1, h3, hz4, r⟩ := rest _ _ F3 hm hR3 hyc
        exact ⟨_, rfl, _, rfl, D, _, c, _, rfl, F3.D, hyc, h1, .inl ⟨rfl, _, SqL.of h3⟩, _, rfl, lq, xs4, x, rfl, rfl, h3, big' (by omega), r⟩
    · obtain ⟨kvs, x4, rfl, hR3, F3⟩ := hP
      rw [hxs.length, List.take_length] at F3
      refine ⟨kvs, _, _, rfl, F3.rel fun q p' => ?_⟩
      have ek : keys (kvT.take (i + 1)) = keys (kvT.take i) ++ [p] := by rw [take_one hp]; simp [keys]
      rw [ek, List.mem_append, List.mem_singleton]
      constructor
      · rintro (⟨h1, h2⟩ | ⟨h1, h2⟩)
        · exact ⟨.inl h1, h2⟩
        · rw [h1]; exact ⟨.inr rfl, h2⟩
      · rintro ⟨h1 | h1, h2⟩
        · exact .inl ⟨h1, h2⟩
        · rw [h1] at h2; exact .inr ⟨h1, h2⟩
  · obtain ⟨kvs, x3, x4, rfl, F⟩ := hP
    rw [List.take_length] at F
    exact ⟨_, rfl, q D kvs H2 F⟩
end Sk

/-! Sk: Solver: __init__, valued. -/
namespace Sk
open PySem L2 PySem.Spec PyProof.Rows
variable {P : Program} {w : World} {K : PySem.W.Frag} {mg : Str → Option Value} {base : Heap}

/-- all as it was but the instance at p -/
structure Ov (p : Addr) (H H' : Hp) : Prop where
  keep : ∀ b o, b ≠ p → H b = some o → H' b = some o
  ins : ∃ C dx fs, H p = some (.ins C dx fs)
  ins' : ∃ C dx fs, H' p = some (.ins C dx fs)
section
variable {p : Addr} {H H1 H2 : Hp} {G : GD}
theorem Ov.same (h : ∃ C dx fs, H p = some (.ins C dx fs)) (e : Same H H1) : Ov p H H1 := ⟨fun b o _ q => e b o q, h, let ⟨C, dx, fs, q⟩ := h; ⟨C, dx, fs, e _ _ q⟩⟩
theorem Ov.trans (a : Ov p H H1) (b : Ov p H1 H2) : Ov p H H2 := ⟨fun x o hx q => b.keep x o hx (a.keep x o hx q), a.ins, b.ins'⟩
theorem Ov.put (h : ∃ C dx fs, H p = some (.ins C dx fs)) {C dx : Addr} {fs : List (Str × V)} : Ov p H (upd H p (.ins C dx fs)) := ⟨fun b o hb q => by rw [upd_ne hb]; exact q, h, ⟨C, dx, fs, upd_same⟩⟩
theorem Ov.at (a : Ov p H H1) {b : Addr} {o : HO} (h : H b = some o) (hk : ∀ C dx fs, o ≠ .ins C dx fs) : H1 b = some o := a.keep b o (fun e => by obtain ⟨C, dx, fs, q⟩ := a.ins; rw [e, q] at h; exact hk C dx fs (Option.some.inj h).symm) h
theorem Ov.tk (a : Ov p H H1) : TK K H H1 := fun x xs h => by
  rcases h with (h | ⟨u, h⟩) | h
  · exact .inl (.inl (a.at h (by intro _ _ _ z; cases z)))
  · exact .inl (.inr ⟨u, a.at h (by intro _ _ _ z; cases z)⟩)
  · exact .inr h
theorem Ov.dict {β : Type} [Enc β] (a : Ov p H H1) {d : Addr} {kvs : List (β × V)} (D : DictAt w K H d kvs) : DictAt w K H1 d kvs := by
  obtain ⟨φ, e⟩ := D.some
  exact D.fut a.tk ((a.at e (by intro _ _ _ z; cases z)).trans e.symm)
theorem Ov.tab (a : Ov p H H1) {kvs : List (Psn × V)} (h : TabAt K H G kvs) : TabAt K H1 G kvs := fun q hq => let ⟨lq, xs, h1, h2, h3⟩ := h q hq; ⟨lq, xs, h1, a.at h2 (by intro _ _ _ z; cases z), h3.fut a.tk⟩
end
/-- the book's dict -/
def BookV (K : PySem.W.Frag) (H : Hp) (kvs : List (Psn × V)) (B : Bk) : Prop := ∀ q, (B q = none → valV kvs q = none) ∧ ∀ x, B q = some x → ∃ v, valV kvs q = some v ∧ R K H v x
theorem BookV.fut {H H' : Hp} {kvs : List (Psn × V)} {B : Bk} (h : BookV K H kvs B) (e : TK K H H') : BookV K H' kvs B := fun q => ⟨(h q).1, fun x hx => let ⟨v, a, b⟩ := (h q).2 x hx; ⟨v, a, b.fut e⟩⟩
/-- the dict of those before -/
def BefAt (K : PySem.W.Frag) (H : Hp) (kvs : List (Psn × V)) (E : Psn → Psn → Prop) : Prop := (∀ q ∈ keys kvs, ∃ lq xs bs, valV kvs q = some (.ref lq) ∧ H lq = some (.lst xs) ∧ Rs K H xs bs ∧ bs.Nodup ∧ ∀ p, p ∈ bs ↔ E q p) ∧ ∀ q, ¬ q ∈ keys kvs → ∀ p, ¬ E q p
theorem BefAt.keep {H H' : Hp} {kvs : List (Psn × V)} {E : Psn → Psn → Prop} (h : BefAt K H kvs E) (e : TK K H H') (k : ∀ l xs, H l = some (.lst xs) → H' l = some (.lst xs)) : BefAt K H' kvs E :=
  ⟨fun q hq => let ⟨lq, xs, bs, a, b, c, d, f⟩ := h.1 q hq; ⟨lq, xs, bs, a, k _ _ b, c.fut e, d, f⟩, h.2⟩
theorem TabAt.keep {H H' : Hp} {G : GD} {kvs : List (Psn × V)} (h : TabAt K H G kvs) (e : TK K H H') (k : ∀ l xs, H l = some (.lst xs) → H' l = some (.lst xs)) : TabAt K H' G kvs := fun q hq => let ⟨lq, xs, h1, h2, h3⟩ := h q hq; ⟨lq, xs, h1, k _ _ h2, h3.fut e⟩
def sf (dT dB dF dU : Addr) : List (Str × V) := [("table", .ref dT), ("book", .ref dB), ("before", .ref dF), ("unsettled", .ref dU)]
/-- the solver as it stands -/
structure SS (w : World) (K : PySem.W.Frag) (C : Addr) (H : Hp) (p dT dB dF dU : Addr) (G : GD) (kvT kvB kvF kvU : List (Psn × V)) (B : Bk) (u : Psn → Int) : Prop where
  ob : ∃ dx, H p = some (.ins C dx (sf dT dB dF dU))
  DT : DictAt w K H dT kvT
  tab : TabAt K H G kvT
  DB : DictAt w K H dB kvB
  bv : BookV K H kvB B
  DF : DictAt w K H dF kvF
  bef : BefAt K H kvF (fun q p => p ∈ keys kvT ∧ q ∈ nxF G p)
  DU : DictAt w K H dU kvU
  uv : ∀ q ∈ keys kvT, valV kvU q = some (.int (u q))
  uk : keys kvU = keys kvT
  bk : ∀ q ∈ keys kvB, PosOk G q
  tb : dT ≠ dB
  tu : dT ≠ dU
  fb : dF ≠ dB
  fu : dF ≠ dU
  bu : dB ≠ dU
section
variable {C p dT dB dF dU : Addr} {H H1 : Hp} {G : GD} {kvT kvB kvF kvU : List (Psn × V)} {B : Bk} {u : Psn → Int}
theorem SS.on (S : SS w K C H p dT dB dF dU G kvT kvB kvF kvU B u) (e : Same H H1) : SS w K C H1 p dT dB dF dU G kvT kvB kvF kvU B u :=
  ⟨let ⟨dx, h⟩ := S.ob; ⟨dx, e _ _ h⟩, S.DT.same e, S.tab.same e, S.DB.same e, S.bv.fut (TK.same e), S.DF.same e, S.bef.keep (TK.same e) fun _ _ h => e _ _ h, S.DU.same e, S.uv, S.uk, S.bk, S.tb, S.tu, S.fb, S.fu, S.bu⟩
theorem SS.sizeB (g : GOk G) (S : SS w K C H p dT dB dF dU G kvT kvB kvF kvU B u) : kvB.length ≤ 6250 := by
  have z := nd_le S.DB.nd fun q hq => mem_univ g (S.bk q hq)
  rw [List.length_map] at z
  exact Nat.le_trans z (univ_len g)
theorem lst_keep {d : Addr} {kvs : List (Psn × V)} (D : DictAt w K H d kvs) {ob : HO} : ∀ l xs, H l = some (.lst xs) → upd H d ob l = some (.lst xs) := fun l xs h => by
  obtain ⟨φ, e⟩ := D.some
  rw [upd_ne (fun z => by rw [z, e] at h; cases h)]
  exact h
theorem ins_keep {d p : Addr} {kvs : List (Psn × V)} (D : DictAt w K H d kvs) {ob : HO} {C dx : Addr} {fs : List (Str × V)} (h : H p = some (.ins C dx fs)) : upd H d ob p = some (.ins C dx fs) := by
  obtain ⟨φ, e⟩ := D.some
  rw [upd_ne (fun z => by rw [z, e] at h; cases h)]
  exact h
/-- another value in the book -/
theorem SS.put (S : SS w K C H p dT dB dF dU G kvT kvB kvF kvU B u) {q : Psn} {v : V} {x : Val} {ob : HO} (hx : R K H v x) (hq : PosOk G q) (D : DictAt w K (upd H dB ob) dB (putK kvB q v)) : SS w K C (upd H dB ob) p dT dB dF dU G kvT (putK kvB q v) kvF kvU (B.put q x) u := by
  have t : TK K H (upd H dB ob) := TK.wr S.DB.noT
  refine ⟨let ⟨dx, h⟩ := S.ob; ⟨dx, ins_keep S.DB h⟩, S.DT.fut t (upd_ne S.tb), S.tab.keep t (lst_keep S.DB), D, fun r => ⟨fun h => ?_, fun y h => ?_⟩, S.DF.fut t (upd_ne S.fb), S.bef.keep t (lst_keep S.DB), S.DU.fut t (upd_ne S.bu.symm), S.uv, S.uk, fun r hr => ?_, S.tb, S.tu, S.fb, S.fu, S.bu⟩
  · by_cases e : r = q
    · rw [e, Bk.put_same] at h; cases h
    · rw [Bk.put_ne e] at h; rw [valV_putK, if_neg e]; exact (S.bv r).1 h
  · by_cases e : r = q
    · rw [e, Bk.put_same] at h
      have h := Option.some.inj h
      subst h
      exact ⟨v, by rw [valV_putK, if_pos e], hx.fut t⟩
    · rw [Bk.put_ne e] at h
      obtain ⟨z, a, b⟩ := (S.bv r).2 y h
      exact ⟨z, by rw [valV_putK, if_neg e]; exact a, b.fut t⟩
  · rcases mem_putK.mp hr with z | z
    · exact S.bk r z
    · rw [z]; exact hq
/-- another count -/
theorem SS.cnt (S : SS w K C H p dT dB dF dU G kvT kvB kvF kvU B u) {q : Psn} {n : Int} {ob : HO} (hq : q ∈ keys kvT) (D : DictAt w K (upd H dU ob) dU (putK kvU q (.int n))) : SS w K C (upd H dU ob) p dT dB dF dU G kvT kvB kvF (putK kvU q (.int n)) B (fun r => if r = q then n else u r) := by
  have t : TK K H (upd H dU ob) := TK.wr S.DU.noT
  have hk : keys (putK kvU q (.int n)) = keys kvU := by
    rcases keys_putK kvU q (.int n) with ⟨h, _⟩ | ⟨_, h⟩
    · exact h
    · exact absurd (by rw [S.uk]; exact hq) h
  refine ⟨let ⟨dx, h⟩ := S.ob; ⟨dx, ins_keep S.DU h⟩, S.DT.fut t (upd_ne S.tu), S.tab.keep t (lst_keep S.DU), S.DB.fut t (upd_ne S.bu), S.bv.fut t, S.DF.fut t (upd_ne S.fu), S.bef.keep t (lst_keep S.DU), D, fun r hr => ?_, hk.trans S.uk, S.bk, S.tb, S.tu, S.fb, S.fu, S.bu⟩
  rw [valV_putK]
  by_cases e : r = q
  · rw [if_pos e, if_pos e]
  · rw [if_neg e, if_neg e]; exact S.uv r hr
/-- a new list, or a change of it, is nothing to the solver -/
theorem SS.lst (S : SS w K C H p dT dB dF dU G kvT kvB kvF kvU B u) {l : Addr} {xs ys : List V} (hl : H l = some (.lst xs)) (no1 : ∀ q ∈ keys kvT, valV kvT q ≠ some (.ref l)) (no2 : ∀ q ∈ keys kvF, valV kvF q ≠ some (.ref l)) : SS w K C (upd H l (.lst ys)) p dT dB dF dU G kvT kvB kvF kvU B u := by
  have t : TK K H (upd H l (.lst ys)) := TK.wr (by rw [hl]; trivial)
  have dk : ∀ {d : Addr} {kvs : List (Psn × V)}, DictAt w K H d kvs → d ≠ l := fun D => by
    obtain ⟨φ, e⟩ := D.some
    exact fun z => by rw [z, hl] at e; cases e
  refine ⟨?_, S.DT.fut t (upd_ne (dk S.DT)), fun q hq => ?_, S.DB.fut t (upd_ne (dk S.DB)), S.bv.fut t, S.DF.fut t (upd_ne (dk S.DF)), ⟨fun q hq => ?_, S.bef.2⟩, S.DU.fut t (upd_ne (dk S.DU)), S.uv, S.uk, S.bk, S.tb, S.tu, S.fb, S.fu, S.bu⟩
  · obtain ⟨dx, h⟩ := S.ob
    exact ⟨dx, by rw [upd_ne (fun z => by rw [z, hl] at h; cases h)]; exact h⟩
  · obtain ⟨lq, zs, h1, h2, h3⟩ := S.tab q hq
    exact ⟨lq, zs, h1, by rw [upd_ne (fun z => no1 q hq (by rw [← z]; exact h1))]; exact h2, h3.fut t⟩
  · obtain ⟨lq, zs, bs, h1, h2, h3, h4, h5⟩ := S.bef.1 q hq
    exact ⟨lq, zs, bs, h1, by rw [upd_ne (fun z => no2 q hq (by rw [← z]; exact h1))]; exact h2, h3.fut t, h4, h5⟩
end
def sp_valued (w : World) (K : PySem.W.Frag) (T : Top K mg) : Sp := fun vs H Q _ => ∃ (p dx dT dB dF dU : Addr) (v : V) (q : Psn) (r : Int) (wb : Bool) (kvB : List (Psn × V)), vs = [.ref p, v, .int r, .str (wdV wb)] ∧ H p = some (.ins T.c_Solver dx (sf dT dB dF dU)) ∧ DictAt w K H dB kvB ∧ R K H v q ∧ kvB.length ≤ 6250 ∧
  (q ∈ keys kvB → Q (.bl false) H) ∧ (¬ q ∈ keys kvB → ∀ t ob, H t = none → DictAt w K (upd (upd H t (.tup [.str (wdV wb), .int r])) dB ob) dB (putK kvB q (.ref t)) → Q (.bl true) (upd (upd H t (.tup [.str (wdV wb), .int r])) dB ob))
theorem ok_Solver_valued (T : Top K mg) : FnOk P w K mg base CX0 1 T.Solver_valued.a T.Solver_valued.fd P_Solver_valued (sp_valued w K T) := by
  refine T.Solver_valued.F.ok sc_Solver_valued (fun vs H Q E h => ?_) (fun cdv A outer s H vs Q E hr hh => ?_)
  · obtain ⟨_, _, _, _, _, _, _, _, _, _, _, rfl, _⟩ := h; rfl
  obtain ⟨p, dx, dT, dB, dF, dU, v, q0, r, wb, kvB, rfl, hp, DB, hv, hz, q1, q2⟩ := hh
  have nd := sc_Solver_valued.nd
  have hu := hu64 hr
  refine ⟨_, (pss_cons (ps_if (pt_cmpR (op_nIn Psn hu) (pv 1) (pe_fld (pv 0) rfl) (by rfl))
      (pss_one (ps_ret pe_bl))
      pss_nil)
    (pss_cons (ps_asg (pe_tup (pa_cons (pv 3) (pa_cons (pv 2) pa_nil))) (pg_sub (pe_fld (pv 0) rfl) (pv 1) (set_n Psn hu)))
    (pss_one (ps_ret pe_bl)))), ?_⟩
  refine ⟨_, rfl, _, rfl, p, T.c_Solver, dx, _, _, rfl, hp, T.Solver.cl, T.n_Solver_book, rfl, dB, kvB, q0, rfl, DB, hv, _, rfl, ite2 (fun c => ?_) (fun c => ?_)⟩
  · exact q1 (valV_isSome.mp c)
  · have hn : ¬ q0 ∈ keys kvB := fun z => c (valV_isSome.mpr z)
    refine ⟨_, rfl, _, rfl, (by decide : 2 ≤ sizeLine), fun t ht => ?_⟩
    have e := Same.new (o := .tup [.str (wdV wb), .int r]) ht
    exact ⟨_, rfl, p, T.c_Solver, dx, _, _, rfl, e _ _ hp, T.Solver.cl, T.n_Solver_book, rfl, _, rfl, dB, kvB, q0, rfl, DB.same e, hv.same e, big' (by omega), fun ob D2 => q2 hn t ob ht D2⟩
end Sk

/-! Sk: Solver.__init__. -/
namespace Sk
open PySem L2 PySem.Spec PyProof.Rows
variable {P : Program} {w : World} {K : PySem.W.Frag} {mg : Str → Option Value} {base : Heap}

theorem sf_eq (dT dB dF dU : Addr) : putF "unsettled" (.ref dU) (putF "before" (.ref dF) (putF "book" (.ref dB) (putF "table" (.ref dT) []))) = sf dT dB dF dU := by
  have n1 : ¬ (("table" : Str) = "book") := by decide +kernel
  have n2 : ¬ (("table" : Str) = "before") := by decide +kernel
  have n3 : ¬ (("book" : Str) = "before") := by decide +kernel
  have n4 : ¬ (("table" : Str) = "unsettled") := by decide +kernel
  have n5 : ¬ (("book" : Str) = "unsettled") := by decide +kernel
  have n6 : ¬ (("before" : Str) = "unsettled") := by decide +kernel
  simp [putF, sf, n1, n2, n3, n4, n5, n6]
theorem val_ex {β : Type} [Enc β] {kvs : List (β × V)} {c : β} (h : c ∈ keys kvs) : ∃ v, valV kvs c = some v := Option.isSome_iff_exists.mp (valV_isSome.mpr h)
/-- the same pairs -/
theorem val_same {kvs kvK : List (Psn × V)} (h1 : ∀ q, q ∈ keys kvs ↔ q ∈ keys kvK) (h2 : ∀ q ∈ keys kvs, valV kvs q = valV kvK q) (q : Psn) : valV kvs q = valV kvK q := by
  by_cases c : q ∈ keys kvs
  · exact h2 q c
  · have a : valV kvs q = none := by
      cases e : valV kvs q with
      | none => rfl
      | some v => exact absurd (valV_isSome.mp (by rw [e]; rfl)) c
    have b : valV kvK q = none := by
      cases e : valV kvK q with
      | none => rfl
      | some v => exact absurd ((h1 q).mpr (valV_isSome.mp (by rw [e]; rfl))) c
    rw [a, b]
theorem keys_one {β : Type} {kvs : List (β × V)} {i : Nat} {c : β} {v : V} (h : kvs[i]? = some (c, v)) : (kvs.take (i + 1)).map (·.1) = (kvs.take i).map (·.1) ++ [c] := by rw [take_one h]; simp
theorem few_pos {G : GD} (g : GOk G) {kvs : List (Psn × V)} (nd : (keys kvs).Nodup) (h : ∀ q ∈ keys kvs, PosOk G q) : kvs.length ≤ 6250 := by
  have z := nd_le nd fun q hq => mem_univ g (h q hq)
  rw [List.length_map] at z
  exact Nat.le_trans z (univ_len g)
def sp_init (w : World) (K : PySem.W.Frag) (T : Top K mg) : Sp := fun vs H Q _ => ∃ (p dx dT dK : Addr) (G : GD) (kvT kvK : List (Psn × V)) (B : Bk), vs = [.ref p, .ref dT, .ref dK] ∧ H p = some (.ins T.c_Solver dx []) ∧ GOk G ∧ DictAt w K H dT kvT ∧ TabAt K H G kvT ∧ TabOk1 G (keys kvT) ∧ DictAt w K H dK kvK ∧ (∀ q ∈ keys kvK, PosOk G q) ∧ BookV K H kvK B ∧
  ∀ Hf dB dF dU kvB kvF kvU, (∀ b o, b ≠ p → H b = some o → Hf b = some o) → SS w K T.c_Solver Hf p dT dB dF dU G kvT kvB kvF kvU B (fun q => (nxF G q).length) → (∀ q l, valV kvF q = some (.ref l) → H l = none) → H dB = none → H dU = none → Q .non Hf
theorem ok_Solver_init (T : Top K mg) : FnOk P w K mg base CX0 2 T.Solver_init_a T.Solver_init_fd P_Solver_init (sp_init w K T) := by
  refine T.Solver_init_F.ok sc_Solver_init (fun vs H Q E h => ?_) (fun cdv A outer s H vs Q E hr hh => ?_)
  · obtain ⟨_, _, _, _, _, _, _, _, rfl, _⟩ := h; rfl
  obtain ⟨p, dx, dT, dK, G, kvT, kvK, B, rfl, hp, gok, DT, tab, tok, DK, kok, bvK, q⟩ := hh
  have nd := sc_Solver_init.nd
  have hu := hu64 hr
  refine ⟨_, (pss_cons (ps_fld (pv 0) (pv 1) rfl)
    (pss_cons (ps_fld (pv 0) (pe_bk (own := [("position", 3)]) (g := gName 3) (tt := tYes) (form_dict Psn hu (fun _ _ _ _ _ => (pv 3)) (fun _ _ _ _ _ => (pe_ngetK Psn (K := K) (w := w) rfl rfl hu (pv 2) (pv 3) (fun _ _ => rfl)))) rfl rfl nd (pi_n (pv 2)) (blkOk_by (N := N_Solver_init) (sc := defScope s_Solver_init) (by decide +kernel)) (fun _ _ _ _ _ => (pg_name (i := 3) nd rfl (Or.inl rfl))) (fun _ _ _ _ _ => pts_nil)) rfl)
    (pss_cons (ps_fld (pv 0) (pe_call (ok_backwards T) (hr.mono (by decide)) rfl T.backwards.m T.backwards.k T.backwards.b .nil pass0 (pa_cons (pv 1) (pa_cons (pv 2) pa_nil))) rfl)
    (pss_one (ps_fld (pv 0) (pe_bk (own := [("position", 3)]) (g := gName 3) (tt := tYes) (form_dict Psn hu (fun _ _ _ _ _ => (pv 3)) (fun _ _ _ _ _ => (pe_callB (call_len_seqK (K := K) rfl) rfl T.z_len PySem.boot_len (pa_cons (pe_ngetK Psn (K := K) (w := w) rfl rfl hu (pv 1) (pv 3) (fun _ _ => rfl)) pa_nil)))) rfl rfl nd (pi_n (pv 1)) (blkOk_by (N := N_Solver_init) (sc := defScope s_Solver_init) (by decide +kernel)) (fun _ _ _ _ _ => (pg_name (i := 3) nd rfl (Or.inl rfl))) (fun _ _ _ _ _ => pts_nil)) rfl))))), ?_⟩
  refine ⟨_, rfl, _, rfl, p, T.c_Solver, dx, [], rfl, hp, T.Solver.cl, T.n_Solver_table, (by show 0 < 1000; decide), ?_⟩
  have i0 : ∃ C dx fs, H p = some (.ins C dx fs) := ⟨_, _, _, hp⟩
  have o1 : Ov p H (upd H p (.ins T.c_Solver dx (putF "table" (.ref dT) []))) := Ov.put i0
  have DK1 := o1.dict DK
  obtain ⟨esK, epK, DK1⟩ := DK1
  refine ⟨_, rfl, dK, esK, epK, rfl, DK1.ob, DK1.sys, fun D hD ob0 D0 => ?_⟩
  refine bk_it (walk_n (w := w) (K := K) (d := dK) (es := esK) (ep := epK) (kvs := kvK)) (fun i H2 => ∃ kvs, Same (upd H p (.ins T.c_Solver dx (putF "table" (.ref dT) []))) H2 ∧ DictAt w K H2 D kvs ∧ (∀ q, q ∈ keys kvs ↔ q ∈ keys (kvK.take i)) ∧ ∀ q ∈ keys kvs, valV kvs q = valV kvK q) ⟨[], Same.new hD, D0, fun q => by simp [keys], fun q h => by simp [keys] at h⟩ (fun i H2 _ ⟨_, e, _⟩ => DK1.same e) (fun i x H2 H2' hi hP hY => ?_) (fun H2 hP => ?_)
  · obtain ⟨kvs, e2, D2, k1, k2⟩ := hP
    obtain ⟨rfl, c, cv, hc, hR⟩ := hY
    have hcm : c ∈ keys kvK := List.mem_map.mpr ⟨_, List.mem_of_getElem? hc, rfl⟩
    obtain ⟨v, hv⟩ := val_ex hcm
    have hz := few_pos gok D2.nd fun q hq => by
      obtain ⟨y, hy, e⟩ := List.mem_map.mp ((k1 q).mp hq)
      exact kok q (List.mem_map.mpr ⟨y, List.mem_of_mem_take hy, e⟩)
    refine ⟨rfl, _, rfl, _, rfl, _, rfl, dK, kvK, c, v, rfl, ⟨esK, epK, DK1.same e2⟩, hR, hv, kvs, c, D2, hR, big' (by omega), fun ob D3 => ⟨_, Same.mut e2 hD, D3, fun q => ?_, fun q hq => ?_⟩⟩
    · rw [mem_putK, k1, keys, keys, keys_one hc, List.mem_append, List.mem_singleton]
    · rw [valV_putK]
      by_cases e : q = c
      · rw [if_pos e, e, hv]
      · rw [if_neg e]
        rcases mem_putK.mp hq with z | z
        · exact k2 q z
        · exact absurd z e
  obtain ⟨kvB, e2, DB, k1, k2⟩ := hP
  rw [List.take_length] at k1
  have vB := val_same k1 k2
  have hp2 := e2 _ _ (show upd H p (.ins T.c_Solver dx (putF "table" (.ref dT) [])) p = some _ from upd_same)
  refine ⟨_, rfl, p, T.c_Solver, dx, _, rfl, hp2, T.Solver.cl, T.n_Solver_book, (by show 1 < 1000; decide), ?_⟩
  have o2 : Ov p H H2 := o1.trans (Ov.same o1.ins' e2)
  have o23 : Ov p H2 (upd H2 p (.ins T.c_Solver dx (putF "book" (.ref D) (putF "table" (.ref dT) [])))) := Ov.put ⟨_, _, _, hp2⟩
  have o3 := o2.trans o23
  have DT3 := o3.dict DT
  have DB3 := o23.dict DB
  refine ⟨_, rfl, _, rfl, dT, dK, G, kvT, kvK, rfl, gok, DT3, o3.tab tab, tok, o3.dict DK, kok, fun dF kvF H4 F4 => ?_⟩
  have hp4 := F4.same _ _ (show upd H2 p (.ins T.c_Solver dx (putF "book" (.ref D) (putF "table" (.ref dT) []))) p = some _ from upd_same)
  refine ⟨_, rfl, p, T.c_Solver, dx, _, rfl, hp4, T.Solver.cl, T.n_Solver_before, (by show 2 < 1000; decide), ?_⟩
  have o4 : Ov p H H4 := o3.trans (Ov.same o3.ins' F4.same)
  have o45 : Ov p H4 (upd H4 p (.ins T.c_Solver dx (putF "before" (.ref dF) (putF "book" (.ref D) (putF "table" (.ref dT) []))))) := Ov.put ⟨_, _, _, hp4⟩
  have o5 := o4.trans o45
  have DT5 := o5.dict DT
  have tab5 := o5.tab tab
  obtain ⟨esT, epT, DT5'⟩ := id DT5
  refine ⟨_, rfl, dT, esT, epT, rfl, DT5'.ob, DT5'.sys, fun U hU ob1 U0 => ?_⟩
  refine bk_it (walk_n (w := w) (K := K) (d := dT) (es := esT) (ep := epT) (kvs := kvT)) (fun i H6 => ∃ kvs, Same (upd H4 p (.ins T.c_Solver dx (putF "before" (.ref dF) (putF "book" (.ref D) (putF "table" (.ref dT) []))))) H6 ∧ DictAt w K H6 U kvs ∧ keys kvs = keys (kvT.take i) ∧ ∀ q ∈ keys kvs, valV kvs q = some (.int (nxF G q).length)) ⟨[], Same.new hU, U0, by simp [keys], fun q h => by simp [keys] at h⟩ (fun i H6 _ ⟨_, e, _⟩ => DT5'.same e) (fun i x H6 H6' hi hP hY => ?_) (fun H6 hP => ?_)
  · obtain ⟨kvs, e6, D6, k3, k4⟩ := hP
    obtain ⟨rfl, c, cv, hc, hR⟩ := hY
    have hcm : c ∈ keys kvT := List.mem_map.mpr ⟨_, List.mem_of_getElem? hc, rfl⟩
    obtain ⟨lc, xs, hv, hl, hxs⟩ := tab5 c hcm
    have hz := few_pos gok D6.nd fun q hq => by
      rw [k3] at hq
      obtain ⟨y, hy, e⟩ := List.mem_map.mp hq
      exact tok.ok q (List.mem_map.mpr ⟨y, List.mem_of_mem_take hy, e⟩)
    have cnew : ¬ c ∈ keys (kvT.take i) := fun h => by
      have z := DT.nd
      have e1 : kvT.map (·.1) = (kvT.take i).map (·.1) ++ (kvT.drop i).map (·.1) := by rw [← List.map_append, List.take_append_drop]
      rw [e1, List.nodup_append] at z
      have hd : kvT.drop i = (c, cv) :: kvT.drop (i + 1) := by
        obtain ⟨hlt, hce⟩ := List.getElem?_eq_some_iff.mp hc
        rw [← hce]
        exact List.drop_eq_getElem_cons hlt
      exact z.2.2 c h c (by rw [hd]; exact List.mem_cons_self) rfl
    refine ⟨rfl, _, rfl, _, rfl, _, rfl, dT, kvT, c, _, rfl, ⟨esT, epT, DT5'.same e6⟩, hR, hv, lc, xs, rfl, .inl (SqL.of (e6 _ _ hl)), kvs, c, D6, hR, big' (by omega), fun ob D7 => ⟨_, Same.mut e6 hU, D7, ?_, fun q hq => ?_⟩⟩
    · have e1 : keys (kvT.take (i + 1)) = keys (kvT.take i) ++ [c] := keys_one hc
      rw [e1, ← k3]
      rcases keys_putK kvs c (.int xs.length) with ⟨_, h⟩ | ⟨h, _⟩
      · rw [k3] at h; exact absurd h cnew
      · exact h
    · rw [valV_putK]
      by_cases e : q = c
      · rw [if_pos e, e, hxs.length]
      · rw [if_neg e]
        rcases mem_putK.mp hq with z | z
        · exact k4 q z
        · exact absurd z e
  obtain ⟨kvU, e6, DU, k3, k4⟩ := hP
  rw [List.take_length] at k3
  have hp6 := e6 _ _ (show upd H4 p (.ins T.c_Solver dx (putF "before" (.ref dF) (putF "book" (.ref D) (putF "table" (.ref dT) [])))) p = some _ from upd_same)
  refine ⟨_, rfl, p, T.c_Solver, dx, _, rfl, hp6, T.Solver.cl, T.n_Solver_unsettled, (by show 3 < 1000; decide), ?_⟩
  have o6 : Ov p H H6 := o5.trans (Ov.same o5.ins' e6)
  have o67 : Ov p H6 (upd H6 p (.ins T.c_Solver dx (putF "unsettled" (.ref U) (putF "before" (.ref dF) (putF "book" (.ref D) (putF "table" (.ref dT) [])))))) := Ov.put ⟨_, _, _, hp6⟩
  have o7 := o6.trans o67
  have o57 := (Ov.same o5.ins' e6).trans o67
  have o47 := o45.trans o57
  have o37 := (Ov.same o3.ins' F4.same).trans o47
  have DB4 := DB3.same F4.same
  have DB5 := o45.dict DB4
  have DF5 := o45.dict F4.D
  have tb : dT ≠ D := by
    have := o1.dict DT
    exact this.ne hD
  have fb : dF ≠ D := (DB3.ne F4.dn).symm
  refine q _ D dF U kvB kvF kvU (fun b o hb h => o7.keep b o hb h) ⟨⟨dx, by rw [upd_same, sf_eq]⟩, o7.dict DT, o7.tab tab, o37.dict DB3, fun r => ?_, o47.dict F4.D, ⟨fun r hr => ?_, F4.out⟩, o67.dict DU, fun r hr => k4 r (by rw [k3]; exact hr), k3, fun r hr => kok r ((k1 r).mp hr), tb, DT5.ne hU, fb, DF5.ne hU, DB5.ne hU⟩ (fun r l hl => ?_) ?_ ?_
  · rw [vB]
    exact (bvK.fut o7.tk) r
  · obtain ⟨lq, xs, bs, h1, _, h2, h3, h4, h5⟩ := F4.at_ r hr
    exact ⟨lq, xs, bs, h1, o47.at h2 (by intro _ _ _ z; cases z), h3.fut o47.tk, h4, h5⟩
  · have hr : r ∈ keys kvF := valV_isSome.mp (by rw [hl]; rfl)
    obtain ⟨lq, xs, bs, h1, h2, _⟩ := F4.at_ r hr
    rw [h1] at hl
    injection hl with hl
    injection hl with hl
    subst hl
    cases e : H lq with
    | none => rfl
    | some o =>
      by_cases z : lq = p
      · subst z
        rw [upd_same] at h2
        cases h2
      · rw [o3.keep lq o z e] at h2
        cases h2
  · cases e : H D with
    | none => rfl
    | some o =>
      by_cases z : D = p
      · rw [z, upd_same] at hD; cases hD
      · rw [upd_ne z, e] at hD; cases hD
  · cases e : H U with
    | none => rfl
    | some o =>
      by_cases z : U = p
      · rw [z, upd_same] at hU; cases hU
      · rw [o5.keep U o z e] at hU; cases hU
end Sk

/-! Sk: Solver.turn. -/
namespace Sk
open PySem L2 PySem.Spec PyProof.Rows
variable {P : Program} {w : World} {K : PySem.W.Frag} {mg : Str → Option Value} {base : Heap}

/-- within a turn -/
structure TJ (w : World) (K : PySem.W.Frag) (C : Addr) (H H1 : Hp) (p dT dB dF dU f : Addr) (G : GD) (kvT kvF : List (Psn × V)) (B0 : Bk) (r : Int) (kvB kvU : List (Psn × V)) (B : Bk) (u : Psn → Int) (xs : List V) (fs : List Psn) : Prop where
  fr : ∀ b o, b ≠ dB → b ≠ dU → H b = some o → H1 b = some o
  f0 : H f = none
  hf : H1 f = some (.lst xs)
  rs : Rs K H1 xs fs
  nd : fs.Nodup
  S : SS w K C H1 p dT dB dF dU G kvT kvB kvF kvU B u
  mono : ∀ q v, B0 q = some v → B q = some v
  back : ∀ q v, B q = some v → B0 q = some v ∨ (q ∈ fs ∧ ∃ wb, v = .val wb r)
  new : ∀ q ∈ fs, B0 q = none ∧ ∃ wb, B q = some (.val wb r)
  no1 : ∀ q ∈ keys kvT, valV kvT q ≠ some (.ref f)
  no2 : ∀ q ∈ keys kvF, valV kvF q ≠ some (.ref f)
structure TI (w : World) (K : PySem.W.Frag) (C : Addr) (H H1 : Hp) (p dT dB dF dU f : Addr) (G : GD) (kvT kvF : List (Psn × V)) (B0 : Bk) (r : Int) (PR : Psn → Psn → Prop) (kvB kvU : List (Psn × V)) (B : Bk) (u : Psn → Int) (xs : List V) (fs : List Psn) : Prop extends TJ w K C H H1 p dT dB dF dU f G kvT kvF B0 r kvB kvU B u xs fs where
  I : BI0 G (keys kvT) B u PR r
section
variable {C p dT dB dF dU f : Addr} {H H1 H2 : Hp} {G : GD} {kvT kvF kvB kvU : List (Psn × V)} {B0 B : Bk} {r : Int} {PR PR' : Psn → Psn → Prop} {u : Psn → Int} {xs : List V} {fs : List Psn}
theorem TJ.on (t : TJ w K C H H1 p dT dB dF dU f G kvT kvF B0 r kvB kvU B u xs fs) (e : Same H1 H2) : TJ w K C H H2 p dT dB dF dU f G kvT kvF B0 r kvB kvU B u xs fs :=
  ⟨fun b o h1 h2 h => e _ _ (t.fr b o h1 h2 h), t.f0, e _ _ t.hf, t.rs.same e, t.nd, t.S.on e, t.mono, t.back, t.new, t.no1, t.no2⟩
theorem TI.on (t : TI w K C H H1 p dT dB dF dU f G kvT kvF B0 r PR kvB kvU B u xs fs) (e : Same H1 H2) : TI w K C H H2 p dT dB dF dU f G kvT kvF B0 r PR kvB kvU B u xs fs := ⟨t.toTJ.on e, t.I⟩
theorem TI.rel (t : TI w K C H H1 p dT dB dF dU f G kvT kvF B0 r PR kvB kvU B u xs fs) (h : ∀ a b, PR a b ↔ PR' a b) : TI w K C H H1 p dT dB dF dU f G kvT kvF B0 r PR' kvB kvU B u xs fs := { t with I := t.I.rel h }
theorem TI.inBook (t : TI w K C H H1 p dT dB dF dU f G kvT kvF B0 r PR kvB kvU B u xs fs) {q : Psn} : q ∈ keys kvB ↔ B q ≠ none := by
  constructor
  · intro h e
    have z := (t.S.bv q).1 e
    rw [← valV_isSome, z] at h
    cases h
  · intro h
    cases e : B q with
    | none => exact absurd e h
    | some x =>
      obtain ⟨v, hv, _⟩ := (t.S.bv q).2 x e
      exact valV_isSome.mp (by rw [hv]; rfl)
/-- another one is valued and noted -/
theorem TJ.add (t : TJ w K C H H1 p dT dB dF dU f G kvT kvF B0 r kvB kvU B u xs fs) {b : Psn} {wb : Bool} {tt : Addr} {ob : HO} {y : V} (hb : B b = none) (hk : PosOk G b) (hy : R K H1 y b) (ht : H1 tt = none)
    (D : DictAt w K (upd (upd H1 tt (.tup [.str (wdV wb), .int r])) dB ob) dB (putK kvB b (.ref tt))) (I' : BI0 G (keys kvT) (B.put b (.val wb r)) u PR' r) :
    upd (upd H1 tt (.tup [.str (wdV wb), .int r])) dB ob f = some (.lst xs) ∧ TI w K C H (upd (upd (upd H1 tt (.tup [.str (wdV wb), .int r])) dB ob) f (.lst (xs ++ [y]))) p dT dB dF dU f G kvT kvF B0 r PR' (putK kvB b (.ref tt)) kvU (B.put b (.val wb r)) u (xs ++ [y]) (fs ++ [b]) ∧
      TK K H1 (upd (upd (upd H1 tt (.tup [.str (wdV wb), .int r])) dB ob) f (.lst (xs ++ [y]))) ∧ ∀ l zs, l ≠ f → H1 l = some (.lst zs) → upd (upd (upd H1 tt (.tup [.str (wdV wb), .int r])) dB ob) f (.lst (xs ++ [y])) l = some (.lst zs) := by
  have e1 : Same H1 (upd H1 tt (.tup [.str (wdV wb), .int r])) := Same.new ht
  have t1 := t.on e1
  have S2 := t1.S.put (q := b) (v := .ref tt) (x := .val wb r) (ob := ob) (R.ofVal (SqT.of upd_same)) hk D
  have hf2 : upd (upd H1 tt (.tup [.str (wdV wb), .int r])) dB ob f = some (.lst xs) := lst_keep t1.S.DB _ _ t1.hf
  have S3 := S2.lst (ys := xs ++ [y]) hf2 t.no1 t.no2
  have k1 : TK K H1 (upd (upd H1 tt (.tup [.str (wdV wb), .int r])) dB ob) := (TK.same e1).trans (TK.wr t1.S.DB.noT)
  have k2 : TK K H1 (upd (upd (upd H1 tt (.tup [.str (wdV wb), .int r])) dB ob) f (.lst (xs ++ [y]))) := k1.trans (TK.wr (by rw [hf2]; trivial))
  have keep : ∀ {x : Psn} {v : Val}, B x = some v → B.put b (.val wb r) x = some v := fun {x v} h => by rw [Bk.put_ne (fun e => by rw [e, hb] at h; cases h)]; exact h
  refine ⟨hf2, ⟨⟨fun c o h1 h2 h => ?_, t.f0, upd_same, (t.rs.fut k2).snoc (hy.fut k2), ?_, S3, fun q v h => keep (t.mono q v h), fun q v h => ?_, fun q hq => ?_, t.no1, t.no2⟩, I'⟩, k2, fun l zs hl h => ?_⟩
  · rw [upd_ne (ne_of_none h t.f0), upd_ne h1]
    exact e1 _ _ (t.fr c o h1 h2 h)
  · rw [List.nodup_append]
    refine ⟨t.nd, by simp, fun a ha c hc e => ?_⟩
    rw [List.mem_singleton.mp hc] at e
    rw [e] at ha
    obtain ⟨_, wb', h⟩ := t.new b ha
    rw [hb] at h
    cases h
  · by_cases e : q = b
    · rw [e, Bk.put_same] at h
      exact .inr ⟨by rw [e]; exact List.mem_append_right _ (List.mem_singleton.mpr rfl), wb, (Option.some.inj h).symm⟩
    · rw [Bk.put_ne e] at h
      rcases t.back q v h with z | ⟨z, z'⟩
      · exact .inl z
      · exact .inr ⟨List.mem_append_left _ z, z'⟩
  · rcases List.mem_append.mp hq with z | z
    · obtain ⟨h1, wb', h2⟩ := t.new q z
      exact ⟨h1, wb', keep h2⟩
    · rw [List.mem_singleton.mp z]
      refine ⟨?_, wb, Bk.put_same⟩
      cases e : B0 b with
      | none => rfl
      | some v => rw [t.mono b v e] at hb; cases hb
  · rw [upd_ne hl]
    exact lst_keep t1.S.DB _ _ (e1 _ _ h)
end
def sp_turn (w : World) (K : PySem.W.Frag) (T : Top K mg) : Sp := fun vs H Q _ => ∃ (p la dT dB dF dU : Addr) (G : GD) (kvT kvB kvF kvU : List (Psn × V)) (B : Bk) (u : Psn → Int) (PR : Psn → Psn → Prop) (r : Int) (xs : List V) (ls : List Psn), vs = [.ref p, .int r, .ref la] ∧ GOk G ∧ 1 ≤ r ∧ SS w K T.c_Solver H p dT dB dF dU G kvT kvB kvF kvU B u ∧ TabOk1 G (keys kvT) ∧ BI0 G (keys kvT) B u PR r ∧
  SqL K H la xs ∧ (∃ zs, H la = some (.lst zs)) ∧ Rs K H xs ls ∧ ls.Nodup ∧ (∀ q ∈ ls, (∃ wb, B q = some (.val wb (r - 1))) ∧ ∀ b, ¬ PR q b) ∧
  ∀ H' f xs' fs kvB' kvU' B' u', TI w K T.c_Solver H H' p dT dB dF dU f G kvT kvF B r (fun a b => PR a b ∨ (a ∈ ls ∧ a ∈ nxF G b ∧ b ∈ keys kvT)) kvB' kvU' B' u' xs' fs → Q (.ref f) H'
theorem nd_at {α : Type} {l : List α} {i : Nat} {x : α} (nd : l.Nodup) (h : l[i]? = some x) : ¬ x ∈ l.take i := fun hx => by
  have e1 : l = l.take i ++ l.drop i := (List.take_append_drop i _).symm
  rw [e1, List.nodup_append] at nd
  have hd : l.drop i = x :: l.drop (i + 1) := by
    obtain ⟨hlt, hce⟩ := List.getElem?_eq_some_iff.mp h
    rw [← hce]
    exact List.drop_eq_getElem_cons hlt
  exact nd.2.2 x hx x (by rw [hd]; exact List.mem_cons_self) rfl
theorem ok_Solver_turn (T : Top K mg) : FnOk P w K mg base CX0 2 T.Solver_turn.a T.Solver_turn.fd P_Solver_turn (sp_turn w K T) := by
  refine T.Solver_turn.F.ok sc_Solver_turn (fun vs H Q E h => ?_) (fun cdv A outer s H vs Q E hr hh => ?_)
  · obtain ⟨_, _, _, _, _, _, _, _, _, _, _, _, _, _, _, _, _, rfl, _⟩ := h; rfl
  obtain ⟨p, la, dT, dB, dF, dU, G, kvT, kvB, kvF, kvU, B, u, PR, r, xs, ls, rfl, gok, h1r, S, tok, I, hla, ⟨zla, hla'⟩, hls, lnd, hq, q⟩ := hh
  have nd := sc_Solver_turn.nd
  have hu := hu64 hr
  refine ⟨_, (pss_cons (ps_set (i := 3) nd rfl (Or.inl rfl) (pe_lst pa_nil))
    (pss_cons (ps_for PassesOwn.never rfl (pi_list (pv 2)) (pg_name (i := 4) nd rfl (Or.inl rfl))
      (pss_one (ps_for PassesOwn.never rfl (pi_list (pe_nm PySem.F.slot_dict_get (by rfl) (mt_nget Psn hu) (pe_fld (pv 0) rfl) (pa_cons (pv 4) (pa_cons (pe_lst pa_nil) pa_nil)))) (pg_name (i := 5) nd rfl (Or.inl rfl))
        (pss_one (ps_if (pt_cmpR op_eq (pe_ix ix_tup (pe_nget Psn hu (pe_fld (pv 0) rfl) (pv 4) (fun _ _ => rfl)) pe_int (fun _ _ => rfl)) pe_str (nomark _))
          (pss_one (ps_if (pt_val (pe_meth (pv 0) T.Solver.cl T.Solver_valued.m (ok_Solver_valued T) (hr.mono (by decide)) T.Solver_valued.b .nil pass0 (pa_cons (pv 5) (pa_cons (pv 1) (pa_cons pe_str pa_nil)))))
            (pss_one (ps_expr (pe_bm PySem.F.plainAttrs_list PySem.F.slot_list_append PySem.F.type_list_append mt_append (pv 3) (pa_cons (pv 5) pa_nil))))
            pss_nil))
          (pss_cons (ps_augS (pe_fld (pv 0) rfl) (pv 5) (get_n Psn hu) pe_int ip_sub (set_n Psn hu))
          (pss_one (ps_if (PW.pt (pw_and (pt_cmpR op_eq (pe_nget Psn hu (pe_fld (pv 0) rfl) (pv 5) (fun _ _ => rfl)) pe_int (nomark _)) (pw_and1 (pt_val (pe_meth (pv 0) T.Solver.cl T.Solver_valued.m (ok_Solver_valued T) (hr.mono (by decide)) T.Solver_valued.b .nil pass0 (pa_cons (pv 5) (pa_cons (pv 1) (pa_cons pe_str pa_nil))))))))
            (pss_one (ps_expr (pe_bm PySem.F.plainAttrs_list PySem.F.slot_list_append PySem.F.type_list_append mt_append (pv 3) (pa_cons (pv 5) pa_nil))))
            pss_nil))))))))
    (pss_one (ps_ret (pv 3))))), ?_⟩
  have ok : ∀ b ∈ keys kvT, (nxF G b).Nodup := fun b hb => (nxF_facts gok (tok.ok b hb)).1
  refine ⟨(by decide : 0 ≤ sizeLine), fun f hf => ?_⟩
  have e0 : Same H (upd H f (.lst [])) := Same.new hf
  have no1 : ∀ q ∈ keys kvT, valV kvT q ≠ some (.ref f) := fun b hb e => by
    obtain ⟨lq, zs, h1, h2, _⟩ := S.tab b hb
    rw [h1] at e
    injection e with e
    injection e with e
    rw [e, hf] at h2
    cases h2
  have no2 : ∀ q ∈ keys kvF, valV kvF q ≠ some (.ref f) := fun b hb e => by
    obtain ⟨lq, zs, bs, h1, h2, _⟩ := S.bef.1 b hb
    rw [h1] at e
    injection e with e
    injection e with e
    rw [e, hf] at h2
    cases h2
  have t0 : TI w K T.c_Solver H (upd H f (.lst [])) p dT dB dF dU f G kvT kvF B r PR kvB kvU B u [] [] := ⟨⟨fun b o _ _ h => e0 _ _ h, hf, upd_same, .nil, List.nodup_nil, S.on e0, fun _ _ h => h, fun _ _ h => .inl h, fun q h => (by cases h), no1, no2⟩, I⟩
  have laB : la ≠ dB := by
    obtain ⟨φ, e⟩ := S.DB.some
    exact fun z => by rw [z, e] at hla'; cases hla'
  have laU : la ≠ dU := by
    obtain ⟨φ, e⟩ := S.DU.some
    exact fun z => by rw [z, e] at hla'; cases hla'
  have lafr : ∀ H1 : Hp, (∀ b o, b ≠ dB → b ≠ dU → H b = some o → H1 b = some o) → SqL K H1 la xs := fun H1 fr => by
    rcases hla with (h | ⟨o, h⟩) | h
    · exact .inl (.inl (fr _ _ laB laU h))
    · rw [h] at hla'; cases hla'
    · exact .inr h
  have hxsB : ∀ q ∈ ls, q ∈ keys kvT := fun q0 h0 => by
    obtain ⟨⟨wb, e⟩, _⟩ := hq q0 h0
    exact I.dom q0 _ e
  refine ⟨_, rfl, la, rfl, ⟨_, e0.seq hla⟩, ?_⟩
  refine for_it (walkL (K := K) (a := la) (xs := xs)) (fun i σ H1 => ∃ kvB' kvU' B' u' xs' fs x4 x5, σ = [some (.ref p), some (.int r), some (.ref la), some (.ref f), x4, x5] ∧ TI w K T.c_Solver H H1 p dT dB dF dU f G kvT kvF B r (fun a b => PR a b ∨ (a ∈ ls.take i ∧ a ∈ nxF G b ∧ b ∈ keys kvT)) kvB' kvU' B' u' xs' fs ∧ Rs K H1 xs ls)
    ⟨_, _, _, _, _, _, _, _, rfl, t0.rel fun a b => by simp, hls.same e0⟩ (fun i σ H1 _ ⟨_, _, _, _, _, _, _, _, _, t, _⟩ => lafr H1 t.fr) (fun i x σ H1 H1' hi hP hY => ?_) (fun σ H1 hP => ?_)
  · obtain ⟨kvB1, kvU1, B1, u1, xs1, fs1, x4, x5, rfl, t1, hls1⟩ := hP
    obtain ⟨rfl, hx⟩ := hY
    obtain ⟨c, hc, hxc⟩ := hls1.get hx
    have hcm := List.mem_of_getElem? hc
    obtain ⟨⟨wb, hBc⟩, hPR⟩ := hq c hcm
    have hBc1 := t1.mono _ _ hBc
    have cnew := nd_at lnd hc
    obtain ⟨dx, hp1⟩ := t1.S.ob
    -- the list of those before
    refine ⟨_, rfl, p, T.c_Solver, dx, _, _, rfl, hp1, T.Solver.cl, T.n_Solver_before, rfl, ?_⟩
    obtain ⟨esF, epF, DF1⟩ := id t1.S.DF
    refine ⟨⟨dF, esF, epF, rfl, DF1.ob⟩, _, rfl, (by decide : 0 ≤ sizeLine), fun e he => ?_⟩
    have e2 : Same H1' (upd H1' e (.lst [])) := Same.new he
    have t2 := t1.on e2
    have ef : e ≠ f := (ne_of_none t1.hf he).symm
    refine ⟨dF, kvF, c, x, .ref e, rfl, rfl, t2.S.DF, hxc.same e2, ?_⟩
    obtain ⟨l, zs, bs, hv, hl, hzs, bnd, hbs, lf⟩ : ∃ l zs bs, (valV kvF c).getD (.ref e) = .ref l ∧ upd H1' e (.lst []) l = some (.lst zs) ∧ Rs K (upd H1' e (.lst [])) zs bs ∧ bs.Nodup ∧ (∀ b, b ∈ bs ↔ b ∈ keys kvT ∧ c ∈ nxF G b) ∧ l ≠ f := by
      by_cases hk : c ∈ keys kvF
      · obtain ⟨lq, zs, bs, h1, h2, h3, h4, h5⟩ := t2.S.bef.1 c hk
        exact ⟨lq, zs, bs, by rw [h1]; rfl, h2, h3, h4, h5, fun z => no2 c hk (by rw [h1, z])⟩
      · have hn : valV kvF c = none := by
          cases z : valV kvF c with
          | none => rfl
          | some v => exact absurd (valV_isSome.mp (by rw [z]; rfl)) hk
        exact ⟨e, [], [], by rw [hn]; rfl, upd_same, .nil, List.nodup_nil, fun b => ⟨(fun h => nomatch h), fun h => absurd h (t2.S.bef.2 c hk b)⟩, ef⟩
    rw [hv]
    refine ⟨l, rfl, ⟨_, SqL.of hl⟩, ?_⟩
    refine for_it (walkL (K := K) (a := l) (xs := zs)) (fun j σ H3 => ∃ kvB' kvU' B' u' xs' fs x5, σ = [some (.ref p), some (.int r), some (.ref la), some (.ref f), some x, x5] ∧ TI w K T.c_Solver H H3 p dT dB dF dU f G kvT kvF B r (fun a b => (PR a b ∨ (a ∈ ls.take i ∧ a ∈ nxF G b ∧ b ∈ keys kvT)) ∨ (a = c ∧ b ∈ bs.take j)) kvB' kvU' B' u' xs' fs ∧ Rs K H3 xs ls ∧ H3 l = some (.lst zs) ∧ Rs K H3 zs bs ∧ R K H3 x c)
      ⟨_, _, _, _, _, _, _, rfl, t2.rel fun a b => by simp, hls1.same e2, hl, hzs, hxc.same e2⟩ (fun j σ H3 _ ⟨_, _, _, _, _, _, _, _, _, _, h, _⟩ => SqL.of h) (fun j y σ H3 H3' hj hP hY => ?_) (fun σ H3 hP => ?_)
    · obtain ⟨kvB3, kvU3, B3, u3, xs3, fs3, x5, rfl, t3, hls3, hl3, hzs3, hx3⟩ := hP
      obtain ⟨rfl, hy⟩ := hY
      obtain ⟨b, hb, hyb⟩ := hzs3.get hy
      have hbm := (hbs b).mp (List.mem_of_getElem? hb)
      have bnew := nd_at bnd hb
      have hbk := tok.ok b hbm.1
      have hBc3 := t3.mono _ _ hBc
      have notPR : ¬ ((PR c b ∨ (c ∈ ls.take i ∧ c ∈ nxF G b ∧ b ∈ keys kvT)) ∨ (c = c ∧ b ∈ bs.take j)) := fun h => by
        rcases h with (h | h) | h
        · exact hPR b h
        · exact cnew h.1
        · exact bnew h.2
      have rel : ∀ a b', (((PR a b' ∨ (a ∈ ls.take i ∧ a ∈ nxF G b' ∧ b' ∈ keys kvT)) ∨ (a = c ∧ b' ∈ bs.take j)) ∨ (a = c ∧ b' = b)) ↔ ((PR a b' ∨ (a ∈ ls.take i ∧ a ∈ nxF G b' ∧ b' ∈ keys kvT)) ∨ (a = c ∧ b' ∈ bs.take (j + 1))) := fun a b' => by
        rw [take_one hb, List.mem_append, List.mem_singleton]
        constructor
        · rintro ((h | ⟨h1, h2⟩) | ⟨h1, h2⟩)
          · exact .inl h
          · exact .inr ⟨h1, .inl h2⟩
          · exact .inr ⟨h1, .inr h2⟩
        · rintro (h | ⟨h1, h2 | h2⟩)
          · exact .inl (.inl h)
          · exact .inl (.inr ⟨h1, h2⟩)
          · exact .inr ⟨h1, h2⟩
      obtain ⟨dx3, hp3⟩ := t3.S.ob
      obtain ⟨v3, hv3, hR3⟩ := (t3.S.bv c).2 _ hBc3
      obtain ⟨a3, rfl, ha3⟩ := hR3.val
      have hzB := t3.S.sizeB gok
      have hfl : fs3.length ≤ 6250 := by
        have z := nd_le t3.nd fun q0 h0 => mem_univ gok (t3.S.bk q0 (t3.inBook.mpr (by obtain ⟨_, wb', h⟩ := t3.new q0 h0; rw [h]; simp)))
        exact Nat.le_trans z (univ_len gok)
      have hxl3 := t3.rs.length
      refine ⟨_, rfl, p, T.c_Solver, dx3, _, _, rfl, hp3, T.Solver.cl, T.n_Solver_book, rfl, _, rfl, dB, kvB3, c, _, rfl, t3.S.DB, hx3, hv3, a3, _, _, _, rfl, rfl, ha3, at_0, rfl, _, rfl, ?_⟩
      cases wb with
      | false =>
        refine ite2 (fun _ => ?_) (fun c => absurd (by decide +kernel) c)
        refine ⟨_, rfl, p, dx3, _, rfl, hp3, rfl, _, rfl, _, rfl, p, dx3, dT, dB, dF, dU, y, b, r, true, kvB3, rfl, hp3, t3.S.DB, hyb, hzB, fun hin => ?_, fun hnot tt ob htt D => ?_⟩
        · refine ⟨_, rfl, iteF ?_⟩
          have I2 := t3.I.lostOld hbm.2 hbm.1 hBc3 (t3.inBook.mp hin)
          exact ⟨_, _, _, _, _, _, _, rfl, ({ t3 with I := I2 } : TI w K T.c_Solver H H3' p dT dB dF dU f G kvT kvF B r _ kvB3 kvU3 B3 u3 xs3 fs3).rel rel, hls3, hl3, hzs3, hx3⟩
        · have hbn : B3 b = none := by
            cases z : B3 b with
            | none => rfl
            | some v => exact absurd (t3.inBook.mpr (by rw [z]; simp)) hnot
          have I2 := t3.I.lostNew h1r hbm.2 hbm.1 hBc3 hbn
          obtain ⟨hf4, t4, k4, kl4⟩ := t3.toTJ.add (wb := true) hbn hbk hyb htt D I2
          refine ⟨_, rfl, iteT ⟨_, rfl, .inl ⟨rfl, _, SqL.of hf4⟩, _, rfl, f, xs3, y, rfl, rfl, hf4, big' (by omega), ?_⟩⟩
          exact ⟨_, _, _, _, _, _, _, rfl, t4.rel rel, hls3.fut k4, kl4 _ _ lf hl3, hzs3.fut k4, hx3.fut k4⟩
      | true =>
        refine ite2 (fun c => absurd c (by decide +kernel)) (fun _ => ?_)
        have hvu := t3.S.uv b hbm.1
        refine ⟨_, rfl, p, T.c_Solver, dx3, _, _, rfl, hp3, T.Solver.cl, T.n_Solver_unsettled, rfl, _, rfl, dU, kvU3, b, _, rfl, t3.S.DU, hyb, hvu, ?_⟩
        refine ⟨_, _, rfl, rfl, dU, kvU3, b, rfl, t3.S.DU, hyb, ?_, fun obU D4 => ?_⟩
        · have z : kvU3.length = kvT.length := by
            have := congrArg List.length t3.S.uk
            simpa [keys] using this
          rw [z]
          exact big' (by have := few_pos gok t3.S.DT.nd tok.ok; omega)
        have S4 := t3.S.cnt hbm.1 D4
        have k4 : TK K H3' (upd H3' dU obU) := TK.wr t3.S.DU.noT
        have l4 : ∀ l zs, H3' l = some (.lst zs) → upd H3' dU obU l = some (.lst zs) := lst_keep t3.S.DU
        have hp4 : upd H3' dU obU p = some (.ins T.c_Solver dx3 (sf dT dB dF dU)) := ins_keep t3.S.DU hp3
        -- the solver's state behind the count, the book as it was
        have j4 : TJ w K T.c_Solver H (upd H3' dU obU) p dT dB dF dU f G kvT kvF B r kvB3 (putK kvU3 b (.int (u3 b - 1))) B3 (fun x => if x = b then u3 b - 1 else u3 x) xs3 fs3 :=
          ⟨fun a o h1 h2 h => by rw [upd_ne h2]; exact t3.fr a o h1 h2 h, t3.f0, l4 _ _ t3.hf, t3.rs.fut k4, t3.nd, S4, t3.mono, t3.back, t3.new, t3.no1, t3.no2⟩
        have t4 : ∀ PR2, BI0 G (keys kvT) B3 (fun x => if x = b then u3 b - 1 else u3 x) PR2 r → TI w K T.c_Solver H (upd H3' dU obU) p dT dB dF dU f G kvT kvF B r PR2 kvB3 (putK kvU3 b (.int (u3 b - 1))) B3 (fun x => if x = b then u3 b - 1 else u3 x) xs3 fs3 := fun PR2 I2 => ⟨j4, I2⟩
        refine ⟨_, rfl, p, T.c_Solver, dx3, _, _, rfl, hp4, T.Solver.cl, T.n_Solver_unsettled, rfl, _, rfl, dU, _, b, .int (u3 b - 1), rfl, D4, hyb.fut k4, by rw [valV_putK, if_pos rfl], rfl, _, rfl, ite2 (fun cz => ?_) (fun cz => ?_)⟩
        · have cz : u3 b - 1 = 0 := by simpa using cz
          refine ⟨_, rfl, p, dx3, _, rfl, hp4, rfl, _, rfl, _, rfl, p, dx3, dT, dB, dF, dU, y, b, r, false, kvB3, rfl, hp4, S4.DB, hyb.fut k4, hzB, fun hin => ?_, fun hnot tt ob htt D => ?_⟩
          · refine ⟨_, rfl, iteF ?_⟩
            have I2 := t3.I.wonCnt ok hbm.2 hbm.1 hBc3 notPR fun h => absurd h (t3.inBook.mp hin)
            exact ⟨_, _, _, _, _, _, _, rfl, (t4 _ I2).rel rel, hls3.fut k4, l4 _ _ hl3, hzs3.fut k4, hx3.fut k4⟩
          · have hbn : B3 b = none := by
              cases z : B3 b with
              | none => rfl
              | some v => exact absurd (t3.inBook.mpr (by rw [z]; simp)) hnot
            have I2 := t3.I.wonNew h1r ok hbm.2 hbm.1 hBc3 notPR cz hbn
            obtain ⟨hf5, t5, k5, kl5⟩ := j4.add (wb := false) hbn hbk (hyb.fut k4) htt D I2
            refine ⟨_, rfl, iteT ⟨_, rfl, .inl ⟨rfl, _, SqL.of hf5⟩, _, rfl, f, xs3, y, rfl, rfl, hf5, big' (by omega), ?_⟩⟩
            exact ⟨_, _, _, _, _, _, _, rfl, t5.rel rel, (hls3.fut k4).fut k5, kl5 _ _ lf (l4 _ _ hl3), (hzs3.fut k4).fut k5, (hx3.fut k4).fut k5⟩
        · have cz : ¬ u3 b - 1 = 0 := by simpa using cz
          have I2 := t3.I.wonCnt ok hbm.2 hbm.1 hBc3 notPR fun _ => cz
          refine iteF ?_
          exact ⟨_, _, _, _, _, _, _, rfl, (t4 _ I2).rel rel, hls3.fut k4, l4 _ _ hl3, hzs3.fut k4, hx3.fut k4⟩
    · obtain ⟨kvB3, kvU3, B3, u3, xs3, fs3, x5, rfl, t3, hls3, hl3, hzs3, hx3⟩ := hP
      rw [hzs.length, List.take_length] at t3
      refine ⟨_, _, _, _, _, _, _, _, rfl, t3.rel fun a b => ?_, hls3⟩
      rw [take_one hc, List.mem_append, List.mem_singleton]
      constructor
      · rintro ((h | ⟨h1, h2⟩) | ⟨h1, h2⟩)
        · exact .inl h
        · exact .inr ⟨.inl h1, h2⟩
        · have z := (hbs b).mp h2
          subst h1
          exact .inr ⟨.inr rfl, z.2, z.1⟩
      · rintro (h | ⟨h1 | h1, h2, h3⟩)
        · exact .inl (.inl h)
        · exact .inl (.inr ⟨h1, h2, h3⟩)
        · subst h1; exact .inr ⟨rfl, (hbs b).mpr ⟨h3, h2⟩⟩
  · obtain ⟨kvB1, kvU1, B1, u1, xs1, fs1, x4, x5, rfl, t1, hls1⟩ := hP
    rw [hls.length, List.take_length] at t1
    exact ⟨_, rfl, q H1 f xs1 fs1 kvB1 kvU1 B1 u1 t1⟩
end Sk

/-! Sk: Solver.solve. -/
namespace Sk
open PySem L2 PySem.Spec PyProof.Rows
variable {P : Program} {w : World} {K : PySem.W.Frag} {mg : Str → Option Value} {base : Heap}

/-- the ranks: nothing, or the list of those of rank nought -/
inductive RK (H1 : Hp) (d : Addr) : Prop
  | non : H1 d = some (.dK []) → RK H1 d
  | one (l : Addr) : H1 d = some (.dK [(Sum.inl 0, .ref l)]) → RK H1 d
theorem RK.keep {H1 H2 : Hp} {d : Addr} (h : RK H1 d) (k : ∀ kvs, H1 d = some (.dK kvs) → H2 d = some (.dK kvs)) : RK H2 d := by
  cases h with
  | non h => exact .non (k _ h)
  | one l h => exact .one l (k _ h)
theorem RK.at {H1 : Hp} {d : Addr} (h : RK H1 d) : ∃ kk : List (Key × V), H1 d = some (.dK kk) ∧ (∀ x ∈ kk, x.1 = Sum.inl 0) ∧ kk.length ≤ 1 := by
  cases h with
  | non h => exact ⟨_, h, (fun x hx => nomatch hx), Nat.zero_le _⟩
  | one l h => exact ⟨_, h, (fun x hx => by rw [List.mem_singleton.mp hx]), Nat.le_refl _⟩
theorem rk_none {kk : List (Key × V)} (h : ∀ x ∈ kk, x.1 = Sum.inl 0) {k : Int} (hk : k ≠ 0) : valV kk (Sum.inl k) = none := by
  cases e : valV kk (Sum.inl k) with
  | none => rfl
  | some v =>
    have z := valV_any (kvs := kk) (Sum.inl k : Key)
    rw [e] at z
    obtain ⟨x, hx, e2⟩ := List.any_eq_true.mp z
    have e3 := of_decide_eq_true e2
    rw [h x hx] at e3
    injection e3 with e3
    exact absurd e3.symm hk
def sp_solver (w : World) (K : PySem.W.Frag) (T : Top K mg) : Sp := fun vs H Q _ => ∃ (p dT dB dF dU : Addr) (G : GD) (kvT kvB kvF kvU : List (Psn × V)) (B : Bk) (u : Psn → Int), vs = [.ref p] ∧ GOk G ∧ SS w K T.c_Solver H p dT dB dF dU G kvT kvB kvF kvU B u ∧ TabOk1 G (keys kvT) ∧ BI0 G (keys kvT) B u (fun _ _ => False) 1 ∧ (∀ q v, B q = some v → v = .drawn ∨ ∃ wb, v = .val wb 0) ∧
  ∀ H' kvB' V, (∀ b o, b ≠ dB → b ≠ dU → H b = some o → H' b = some o) → DictAt w K H' dB kvB' → Book G (keys kvT) V → (∀ q ∈ keys kvT, ∃ v, valV kvB' q = some v ∧ R K H' v (V q)) → Q (.ref dB) H'
/-- what is true at the head of the loop over the ranks -/
structure HI (w : World) (K : PySem.W.Frag) (C : Addr) (H H1 : Hp) (p dT dB dF dU d la : Addr) (G : GD) (kvT kvF : List (Psn × V)) (k : Int) (PR : Psn → Psn → Prop) (kvB kvU : List (Psn × V)) (B : Bk) (u : Psn → Int) (xs : List V) (ls : List Psn) : Prop where
  fr : ∀ b o, b ≠ dB → b ≠ dU → H b = some o → H1 b = some o
  S : SS w K C H1 p dT dB dF dU G kvT kvB kvF kvU B u
  I : BI0 G (keys kvT) B u PR (k + 1)
  k0 : 0 ≤ k
  rk : RK H1 d
  hl : H1 la = some (.lst xs)
  rs : Rs K H1 xs ls
  nd : ls.Nodup
  mem : ∀ q, q ∈ ls ↔ ∃ wb, B q = some (.val wb k)
  le : ∀ q wb m, B q = some (.val wb m) → m ≤ k
  full : ∀ q wb m, B q = some (.val wb m) → m < k → ∀ b ∈ keys kvT, q ∈ nxF G b → PR q b
  fresh : ∀ q ∈ ls, ∀ b, ¬ PR q b
theorem HI.on {C p dT dB dF dU d la : Addr} {H H1 H2 : Hp} {G : GD} {kvT kvF kvB kvU : List (Psn × V)} {k : Int} {PR : Psn → Psn → Prop} {B : Bk} {u : Psn → Int} {xs : List V} {ls : List Psn} (h : HI w K C H H1 p dT dB dF dU d la G kvT kvF k PR kvB kvU B u xs ls) (e : Same H1 H2) : HI w K C H H2 p dT dB dF dU d la G kvT kvF k PR kvB kvU B u xs ls :=
  ⟨fun b o h1 h2 h3 => e _ _ (h.fr b o h1 h2 h3), h.S.on e, h.I, h.k0, h.rk.keep fun _ z => e _ _ z, e _ _ h.hl, h.rs.same e, h.nd, h.mem, h.le, h.full, h.fresh⟩
/-- how far it is from the end -/
def away (n : Nat) (ls : List Psn) : Nat := 2 * (6250 - n) + (if ls.length = 0 then 0 else 1)
theorem bk_keys {H : Hp} {kvs : List (Psn × V)} {B : Bk} (h : BookV K H kvs B) {q : Psn} : q ∈ keys kvs ↔ B q ≠ none := by
  constructor
  · intro hq e
    have z := (h q).1 e
    rw [← valV_isSome, z] at hq
    cases hq
  · intro hq
    cases e : B q with
    | none => exact absurd e hq
    | some x =>
      obtain ⟨v, hv, _⟩ := (h q).2 x e
      exact valV_isSome.mp (by rw [hv]; rfl)
set_option maxHeartbeats 8000000 in
theorem ok_Solver_solve (T : Top K mg) : FnOk P w K mg base CX0 3 T.Solver_solve.a T.Solver_solve.fd P_Solver_solve (sp_solver w K T) := by
  refine T.Solver_solve.F.ok sc_Solver_solve (fun vs H Q E h => ?_) (fun cdv A outer s H vs Q E hr hh => ?_)
  · obtain ⟨_, _, _, _, _, _, _, _, _, _, _, _, rfl, _⟩ := h; rfl
  obtain ⟨p, dT, dB, dF, dU, G, kvT, kvB, kvF, kvU, B, u, rfl, gok, S, tok, I, hv0, q⟩ := hh
  have nd := sc_Solver_solve.nd
  have hu := hu64 hr
  have hu1 := hu_of hr
  refine ⟨_, (pss_cons (ps_set (i := 1) nd rfl (Or.inl rfl) pe_dnewK)
    (pss_cons (ps_for PassesOwn.never rfl (pi_list (pe_callB (cr_sortD Psn rfl hu) rfl T.z_sorted (by decide +kernel) (pa_cons (pe_fld (pv 0) rfl) pa_nil))) (pg_name (i := 2) nd rfl (Or.inl rfl))
      (pss_one (ps_if (pt_cmpR (op_neE Val hu) (pe_nget Psn hu (pe_fld (pv 0) rfl) (pv 2) (fun _ _ => rfl)) (pe_glob (v := .ref T.a_DRAWN) rfl T.g_DRAWN rfl) (nomark _))
        (pss_one (ps_expr (pe_bm PySem.F.plainAttrs_list PySem.F.slot_list_append PySem.F.type_list_append mt_append (pe_dsetd (pv 1) (pe_ix ix_tup (pe_nget Psn hu (pe_fld (pv 0) rfl) (pv 2) (fun _ _ => rfl)) pe_int (fun _ _ => rfl)) (pe_lst pa_nil) ⟨rfl, rfl, rfl, rfl⟩) (pa_cons (pv 2) pa_nil))))
        pss_nil)))
    (pss_cons (ps_set (i := 3) nd rfl (Or.inr rfl) pe_int)
    (pss_cons (ps_set (i := 4) nd rfl (Or.inl rfl) (pe_dget2 hu1 (pv 1) pe_int (pe_lst pa_nil) ⟨rfl, rfl, rfl, rfl⟩))
    (pss_cons (ps_while PassesOwn.never (PW.pt (pw_or (pt_cmpR op_gt (pe_callB call_len_seq rfl T.z_len PySem.boot_len (pa_cons (pv 4) pa_nil)) pe_int (nomark _)) (pw_or1 (pt_val (pe_callB (cr_any rfl) rfl T.z_any (by decide +kernel) (pa_cons (pe_lock (pe_lc (own := [("known", 5)]) (g := gName 5) (tt := tYes) rfl nd (pi_keys (pv 1)) (blkOk_by (N := N_Solver_solve) (sc := defScope s_Solver_solve) (by decide +kernel)) (fun _ _ _ _ _ => (pg_name (i := 5) nd rfl (Or.inl rfl))) (fun _ _ _ _ _ => pts_nil) (fun _ _ _ _ _ => (pe_cmpR op_gt (pv 5) (pv 3) (nomark _))))) pa_nil))))))
      (pss_cons (ps_aug (i := 3) nd rfl (Or.inr rfl) pe_int ip_add)
      (pss_one (ps_set (i := 4) nd rfl (Or.inl rfl) (pe_op op_cat (pe_meth (pv 0) T.Solver.cl T.Solver_turn.m (ok_Solver_turn T) (hr.mono (by decide)) T.Solver_turn.b .nil pass0 (pa_cons (pv 3) (pa_cons (pv 4) pa_nil))) (pe_dget2 hu1 (pv 1) (pv 3) (pe_lst pa_nil) ⟨rfl, rfl, rfl, rfl⟩))))))
    (pss_cons (ps_for PassesOwn.never rfl (pi_n (pe_fld (pv 0) rfl)) (pg_name (i := 2) nd rfl (Or.inl rfl))
      (pss_one (ps_if (pt_cmpR (op_nNotIn Psn hu) (pv 2) (pe_fld (pv 0) rfl) (by rfl))
        (pss_one (ps_asg (pe_glob (v := .ref T.a_DRAWN) rfl T.g_DRAWN rfl) (pg_sub (pe_fld (pv 0) rfl) (pv 2) (set_n Psn hu))))
        pss_nil)))
    (pss_one (ps_ret (pe_fld (pv 0) rfl))))))))), ?_⟩
  intro d hd
  have e1 : Same H (upd H d (.dK [])) := Same.new hd
  have S1 := S.on e1
  obtain ⟨dx, hp1⟩ := S1.ob
  refine ⟨_, rfl, p, T.c_Solver, dx, _, _, rfl, hp1, T.Solver.cl, T.n_Solver_book, rfl, dB, kvB, rfl, S1.DB, fun ll yy hll hyy => ?_⟩
  have e2 : Same H (upd (upd H d (.dK [])) ll (.lst yy)) := e1.trans (Same.new hll)
  have dll : ll ≠ d := (ne_of_none (show upd H d (.dK []) d = some (.dK []) from upd_same) hll).symm
  refine ⟨ll, rfl, ⟨_, SqL.of upd_same⟩, ?_⟩
  -- the first loop
  refine for_it (walkL (K := K) (a := ll) (xs := yy)) (fun i σ H1 => ∃ x2 x3 x4 x5, σ = [some (.ref p), some (.ref d), x2, x3, x4, x5] ∧ Same H H1 ∧ H1 ll = some (.lst yy) ∧ Rs K H1 yy (srt (keys kvB)) ∧
      ((H1 d = some (.dK []) ∧ ∀ q ∈ (srt (keys kvB)).take i, B q = some .drawn) ∨ ∃ l0 xs ls, H1 d = some (.dK [(Sum.inl 0, .ref l0)]) ∧ H l0 = none ∧ l0 ≠ ll ∧ H1 l0 = some (.lst xs) ∧ Rs K H1 xs ls ∧ ls = ((srt (keys kvB)).take i).filter fun q => !decide (B q = some .drawn)))
    ⟨_, _, _, _, rfl, e2, upd_same, hyy, .inl ⟨by rw [upd_ne dll.symm]; exact upd_same, fun q h => by simp at h⟩⟩ (fun i σ H1 _ ⟨_, _, _, _, _, _, h, _⟩ => SqL.of h) (fun i x σ H1 H1' hi hP hY => ?_) (fun σ H1 hP => ?_)
  · obtain ⟨x2, x3, x4, x5, rfl, e3, hl3, hr3, hk3⟩ := hP
    obtain ⟨rfl, hx⟩ := hY
    obtain ⟨c, hc, hxc⟩ := hr3.get hx
    have hcm : c ∈ keys kvB := srt_mem.mp (List.mem_of_getElem? hc)
    have S3 := S.on e3
    obtain ⟨dx3, hp3⟩ := S3.ob
    obtain ⟨bv, hbv⟩ : ∃ v, B c = some v := by
      cases e : B c with
      | none => exact absurd e ((bk_keys S.bv).mp hcm)
      | some v => exact ⟨v, rfl⟩
    obtain ⟨v3, hv3, hR3⟩ := (S3.bv c).2 _ hbv
    refine ⟨_, rfl, p, T.c_Solver, dx3, _, _, rfl, hp3, T.Solver.cl, T.n_Solver_book, rfl, _, rfl, dB, kvB, c, v3, rfl, S3.DB, hxc, hv3, bv, .drawn, hR3, R.ofDrawn (T.t_DRAWN _), _, rfl, ite2 (fun cc => ?_) (fun cc => ?_)⟩
    · have cc : ¬ bv = .drawn := by simpa using cc
      have hnd : ¬ B c = some .drawn := fun z => cc (by rw [hbv] at z; exact Option.some.inj z)
      obtain ⟨wb, rfl⟩ : ∃ wb, bv = .val wb 0 := by
        rcases hv0 c bv hbv with z | z
        · exact absurd z cc
        · exact z
      obtain ⟨a3, rfl, ha3⟩ := hR3.val
      have fil : ((srt (keys kvB)).take (i + 1)).filter (fun q => !decide (B q = some .drawn)) = ((srt (keys kvB)).take i).filter (fun q => !decide (B q = some .drawn)) ++ [c] := by
        rw [take_one hc, List.filter_append]
        congr 1
        simp [hnd]
      have hz0 := S.sizeB gok
      have hz1 : i < 6250 := by
        have h1 := hr3.length
        rw [srt_len, List.length_map] at h1
        omega
      rcases hk3 with ⟨hdk, hall⟩ | ⟨l0, xs, ls, hdk, hl0, hlne, hl0', hrs, hls⟩
      · refine ⟨_, rfl, d, rfl, .inl ⟨_, .inl hdk⟩, _, rfl, p, T.c_Solver, dx3, _, _, rfl, hp3, T.Solver.cl, T.n_Solver_book, rfl, _, rfl, dB, kvB, c, _, rfl, S3.DB, hxc, hv3, a3, _, _, _, rfl, rfl, ha3, at_1, (by decide : 0 ≤ sizeLine), fun e he => ?_⟩
        have de : d ≠ e := ne_of_none hdk he
        have lle : ll ≠ e := ne_of_none hl3 he
        refine ⟨[], Sum.inl 0, by rw [upd_ne de]; exact hdk, rfl, (by decide : 0 < sizeLine), (fun v h => by cases h), fun _ => ?_⟩
        have ed : e ≠ d := de.symm
        have he2 : upd (upd H1' e (.lst [])) d (.dK (putK [] (Sum.inl 0) (.ref e))) e = some (.lst []) := by rw [upd_ne ed]; exact upd_same
        refine ⟨.inl ⟨rfl, _, SqL.of he2⟩, _, rfl, e, [], x, rfl, rfl, he2, (by decide : 0 < sizeLine), ?_⟩
        have h0e : H e = none := e3.free he
        have t1 : TK K H1' (upd (upd (upd H1' e (.lst [])) d (.dK (putK [] (Sum.inl 0) (.ref e)))) e (.lst ([] ++ [x]))) := ((TK.new he).trans (TK.wr (by rw [upd_ne de, hdk]; trivial))).trans (TK.wr (by rw [he2]; trivial))
        refine ⟨_, _, _, _, rfl, Same.mut (Same.mut (e3.trans (Same.new he)) hd) h0e, ?_, hr3.fut t1, .inr ⟨e, [x], [c], ?_, h0e, lle.symm, upd_same, .cons (hxc.fut t1) .nil, ?_⟩⟩
        · rw [upd_ne lle, upd_ne dll, upd_ne lle]; exact hl3
        · rw [upd_ne de, upd_same]; rfl
        · rw [fil]
          have : ((srt (keys kvB)).take i).filter (fun q => !decide (B q = some .drawn)) = [] := by
            rw [List.filter_eq_nil_iff]
            intro q0 h0
            rw [hall q0 h0]
            simp
          rw [this]
          rfl
      · refine ⟨_, rfl, d, rfl, .inl ⟨_, .inl hdk⟩, _, rfl, p, T.c_Solver, dx3, _, _, rfl, hp3, T.Solver.cl, T.n_Solver_book, rfl, _, rfl, dB, kvB, c, _, rfl, S3.DB, hxc, hv3, a3, _, _, _, rfl, rfl, ha3, at_1, (by decide : 0 ≤ sizeLine), fun e he => ?_⟩
        have de : d ≠ e := ne_of_none hdk he
        have lle : ll ≠ e := ne_of_none hl3 he
        have l0e : l0 ≠ e := ne_of_none hl0' he
        have vk : valV [((Sum.inl 0 : Key), V.ref l0)] (Sum.inl 0) = some (.ref l0) := valV_pos rfl
        refine ⟨_, Sum.inl 0, by rw [upd_ne de]; exact hdk, rfl, (by show 1 < sizeLine; decide), fun v h => ?_, (fun h => by rw [vk] at h; cases h)⟩
        rw [vk] at h
        have h := Option.some.inj h
        subst h
        have hl02 : upd H1' e (.lst []) l0 = some (.lst xs) := by rw [upd_ne l0e]; exact hl0'
        have hzl : xs.length ≤ 6250 := by
          rw [hrs.length, hls]
          refine Nat.le_trans (List.length_filter_le _ _) ?_
          rw [List.length_take]
          omega
        refine ⟨.inl ⟨rfl, _, SqL.of hl02⟩, _, rfl, l0, xs, x, rfl, rfl, hl02, big' (by omega), ?_⟩
        have t1 : TK K H1' (upd (upd H1' e (.lst [])) l0 (.lst (xs ++ [x]))) := (TK.new he).trans (TK.wr (by rw [hl02]; trivial))
        have d0 : d ≠ l0 := fun z => by rw [z, hl0'] at hdk; cases hdk
        refine ⟨_, _, _, _, rfl, Same.mut (e3.trans (Same.new he)) hl0, ?_, hr3.fut t1, .inr ⟨l0, xs ++ [x], ls ++ [c], ?_, hl0, hlne, upd_same, (hrs.fut t1).snoc (hxc.fut t1), by rw [fil, hls]⟩⟩
        · rw [upd_ne hlne.symm, upd_ne lle]; exact hl3
        · rw [upd_ne d0, upd_ne de]; exact hdk
    · have cc : bv = .drawn := by simpa using cc
      subst cc
      refine ⟨_, _, _, _, rfl, e3, hl3, hr3, ?_⟩
      rcases hk3 with ⟨hdk, hall⟩ | ⟨l0, xs, ls, hdk, hl0, hlne, hl0', hrs, hls⟩
      · refine .inl ⟨hdk, fun q0 h0 => ?_⟩
        rw [take_one hc] at h0
        rcases List.mem_append.mp h0 with z | z
        · exact hall q0 z
        · rw [List.mem_singleton.mp z]; exact hbv
      · refine .inr ⟨l0, xs, ls, hdk, hl0, hlne, hl0', hrs, ?_⟩
        rw [take_one hc, List.filter_append, hls]
        have : List.filter (fun q => !decide (B q = some .drawn)) [c] = [] := by simp [hbv]
        rw [this, List.append_nil]
  obtain ⟨x2, x3, x4, x5, rfl, e3, hl3, hr3, hk3⟩ := hP
  rw [hr3.length, List.take_length] at hk3
  -- rank nought
  have lists : ∀ ls : List Psn, (∀ q, q ∈ ls ↔ q ∈ keys kvB ∧ ¬ B q = some .drawn) → ∀ q, q ∈ ls ↔ ∃ wb, B q = some (.val wb 0) := fun ls h q0 => by
    rw [h, bk_keys S.bv]
    constructor
    · rintro ⟨h1, h2⟩
      cases e : B q0 with
      | none => exact absurd e h1
      | some v =>
        rcases hv0 q0 v e with z | ⟨wb, z⟩
        · rw [z] at e; exact absurd e h2
        · rw [z]; exact ⟨wb, rfl⟩
    · rintro ⟨wb, h1⟩
      rw [h1]
      exact ⟨by simp, by simp⟩
  have le0 : ∀ q wb m, B q = some (.val wb m) → m ≤ 0 := fun q0 wb m h => by
    rcases hv0 q0 _ h with z | ⟨wb', z⟩
    · cases z
    · injection z with _ z; omega
  have nn0 : ∀ q wb m, B q = some (.val wb m) → ¬ m < 0 := fun q0 wb m h hm => by have := I.nn q0 wb m h; omega
  obtain ⟨kk, hdk, hk4⟩ : ∃ kk : List (Key × V), H1 d = some (.dK kk) ∧ ∀ e, H1 e = none → ∃ la xs0 ls0, (valV kk (Sum.inl 0)).getD (.ref e) = .ref la ∧ HI w K T.c_Solver H (upd H1 e (.lst [])) p dT dB dF dU d la G kvT kvF 0 (fun _ _ => False) kvB kvU B u xs0 ls0 := by
    rcases hk3 with ⟨hdk, hall⟩ | ⟨l0, xs, ls, hdk, hl0, hlne, hl0', hrs, hls⟩
    · refine ⟨_, hdk, fun e he => ⟨e, [], [], rfl, ?_⟩⟩
      have e4 := e3.trans (Same.new (o := .lst []) he)
      refine ⟨fun b o _ _ h => e4 _ _ h, S.on e4, I, Int.le_refl 0, .non (by rw [upd_ne (ne_of_none hdk he)]; exact hdk), upd_same, .nil, List.nodup_nil, lists [] fun q0 => ?_, le0, fun q0 wb m h hm => absurd hm (nn0 q0 wb m h), fun q0 h => nomatch h⟩
      constructor
      · intro h; cases h
      · rintro ⟨h1, h2⟩; exact absurd (hall q0 (srt_mem.mpr h1)) h2
    · refine ⟨_, hdk, fun e he => ⟨l0, xs, ls, by rw [valV_pos rfl]; rfl, ?_⟩⟩
      have e5 := Same.new (o := .lst []) he
      have e4 := e3.trans e5
      refine ⟨fun b o _ _ h => e4 _ _ h, S.on e4, I, Int.le_refl 0, .one l0 (by rw [upd_ne (ne_of_none hdk he)]; exact hdk), e5 _ _ hl0', hrs.same e5, by rw [hls]; exact (srt_nd S.DB.nd).filter _, lists ls fun q0 => ?_, le0, fun q0 wb m h hm => absurd hm (nn0 q0 wb m h), fun q0 _ b h => h⟩
      rw [hls, List.mem_filter, srt_mem]
      simp
  refine ⟨_, rfl, d, rfl, .inl ⟨kk, .inl hdk⟩, (by decide : 0 ≤ sizeLine), fun e he => ⟨valV kk (Sum.inl 0), DGet.k (k := Sum.inl 0) (by rw [upd_ne (ne_of_none hdk he)]; exact hdk), ?_⟩⟩
  obtain ⟨la, xs0, ls0, hval, hH0⟩ := hk4 e he
  rw [hval]
  -- the loop over the ranks
  refine ⟨fun m σ H5 => ∃ la k PR kvB kvU B u xs ls x2 x5, σ = [some (.ref p), some (.ref d), x2, some (.int k), some (.ref la), x5] ∧ HI w K T.c_Solver H H5 p dT dB dF dU d la G kvT kvF k PR kvB kvU B u xs ls ∧ m = away kvB.length ls, ⟨_, la, 0, _, kvB, kvU, B, u, xs0, ls0, _, _, rfl, hH0, rfl⟩, ?_⟩
  clear hH0 hval hk4 hdk he hk3 le0 lists nn0 hr3 hl3 e3
  rintro m σ H5 ⟨la, k, PR, kvB, kvU, B, u, xs, ls, x2, x5, rfl, h, rfl⟩
  have hlen := h.rs.length
  refine ⟨_, rfl, la, xs, rfl, .inl (SqL.of h.hl), _, _, rfl, rfl, _, rfl, ite2 (fun c => ?_) (fun c => ?_)⟩
  · -- another rank
    have c : (xs.length : Int) > 0 := of_decide_eq_true c
    have hls : ls.length ≠ 0 := by omega
    refine iteT ⟨fun σ' H' => ∃ m', m' < away kvB.length ls ∧ ∃ la k PR kvB kvU B u xs ls x2 x5, σ' = [some (.ref p), some (.ref d), x2, some (.int k), some (.ref la), x5] ∧ HI w K T.c_Solver H H' p dT dB dF dU d la G kvT kvF k PR kvB kvU B u xs ls ∧ m' = away kvB.length ls, fun σ' H' h => h, ?_⟩
    refine ⟨_, rfl, _, _, rfl, rfl, ?_⟩
    obtain ⟨dx5, hp5⟩ := h.S.ob
    refine ⟨_, rfl, p, dx5, _, rfl, hp5, rfl, _, rfl, _, rfl, p, la, dT, dB, dF, dU, G, kvT, kvB, kvF, kvU, B, u, PR, k + 1, xs, ls, rfl, gok, by have := h.k0; omega, h.S, tok, h.I, SqL.of h.hl, ⟨_, h.hl⟩, h.rs, h.nd, fun q0 hq0 => ⟨?_, h.fresh q0 hq0⟩, fun H6 f xs' fs kvB' kvU' B' u' t => ?_⟩
    · obtain ⟨wb, e⟩ := (h.mem q0).mp hq0
      have e1 : k + 1 - 1 = k := by omega
      rw [e1]
      exact ⟨wb, e⟩
    obtain ⟨kk, hdk5, hkk, hkl⟩ := h.rk.at
    have hdB : d ≠ dB := by
      obtain ⟨φ, e⟩ := h.S.DB.some
      exact fun z => by rw [z, e] at hdk5; cases hdk5
    have hdU : d ≠ dU := by
      obtain ⟨φ, e⟩ := h.S.DU.some
      exact fun z => by rw [z, e] at hdk5; cases hdk5
    have hdk6 := t.fr d _ hdB hdU hdk5
    refine ⟨_, rfl, d, rfl, .inl ⟨kk, .inl hdk6⟩, _, rfl, (by decide : 0 ≤ sizeLine), fun e he => ⟨valV kk (Sum.inl (k + 1)), DGet.k (k := Sum.inl (k + 1)) (by rw [upd_ne (ne_of_none hdk6 he)]; exact hdk6), ?_⟩⟩
    rw [rk_none hkk (by have := h.k0; omega)]
    have hf7 : upd H6 e (.lst []) f = some (.lst xs') := Same.new he _ _ t.hf
    have hfl : fs.length ≤ 6250 := by
      have z := nd_le t.nd fun q0 h0 => mem_univ gok (t.S.bk q0 (t.inBook.mpr (by obtain ⟨_, wb', h⟩ := t.new q0 h0; rw [h]; simp)))
      exact Nat.le_trans z (univ_len gok)
    have hxl := t.rs.length
    refine ⟨f, e, xs', [], rfl, rfl, hf7, upd_same, by rw [List.length_nil]; exact big (by omega), fun lb hlb => ?_⟩
    have e7 : Same H6 (upd (upd H6 e (.lst [])) lb (.lst (xs' ++ []))) := (Same.new he).trans (Same.new hlb)
    have t7 := t.on e7
    have back : ∀ q0 wb m, B' q0 = some (.val wb m) → (B q0 = some (.val wb m) ∧ m ≤ k) ∨ (q0 ∈ fs ∧ m = k + 1) := fun q0 wb m hb => by
      rcases t.back q0 _ hb with z | ⟨z, wb', z'⟩
      · exact .inl ⟨z, h.le q0 wb m z⟩
      · injection z' with _ z'; exact .inr ⟨z, z'⟩
    have hsub : kvB.length + (if fs.length = 0 then 0 else 1) ≤ kvB'.length := by
      have sub : ∀ q0 ∈ keys kvB, q0 ∈ keys kvB' := fun q0 hq0 => by
        rw [bk_keys t.S.bv]
        cases e : B q0 with
        | none => exact absurd e ((bk_keys h.S.bv).mp hq0)
        | some v => rw [t.mono q0 v e]; simp
      cases fs with
      | nil =>
        have z := nd_le h.S.DB.nd sub
        rw [List.length_map, List.length_map] at z
        simpa using z
      | cons q1 fs =>
        obtain ⟨n1, wb, n2⟩ := t.new q1 List.mem_cons_self
        have hn : ¬ q1 ∈ keys kvB := fun z => (bk_keys h.S.bv).mp z n1
        have z := nd_le (l := q1 :: keys kvB) (L := keys kvB') (List.nodup_cons.mpr ⟨hn, h.S.DB.nd⟩) fun q0 hq0 => by
          rcases List.mem_cons.mp hq0 with z | z
          · rw [z, bk_keys t.S.bv, n2]; simp
          · exact sub q0 z
        rw [List.length_cons, List.length_map, List.length_map] at z
        simpa using z
    have hzB := t.S.sizeB gok
    refine ⟨_, ?_, lb, k + 1, _, kvB', kvU', B', u', xs' ++ [], fs, _, _, rfl, ⟨fun b o h1 h2 h3 => e7 _ _ (t.fr b o h1 h2 (h.fr b o h1 h2 h3)), t7.S, t7.I.next (by omega), by have := h.k0; omega, ?_, upd_same, by have z := t7.rs; rw [List.append_nil] at z ⊢; exact z, t.nd, fun q0 => ⟨fun hq0 => (t.new q0 hq0).2, fun ⟨wb, hb⟩ => ?_⟩, fun q0 wb m hb => ?_, fun q0 wb m hb hm b hbm hqb => ?_, fun q0 hq0 b hPR => ?_⟩, rfl⟩
    · unfold away
      rw [if_neg hls]
      split at hsub <;> rename_i c1
      · rw [if_pos c1]; omega
      · rw [if_neg c1]; omega
    · refine h.rk.keep fun kvs hh => ?_
      have dB2 : d ≠ dB := hdB
      exact e7 _ _ (t.fr d _ hdB hdU hh)
    · rcases back q0 wb _ hb with ⟨_, z⟩ | ⟨z, _⟩
      · omega
      · exact z
    · rcases back q0 wb m hb with ⟨_, z⟩ | ⟨_, z⟩ <;> omega
    · rcases back q0 wb m hb with ⟨z, z'⟩ | ⟨_, z⟩
      · by_cases e : m < k
        · exact .inl (h.full q0 wb m z e b hbm hqb)
        · have e2 : m = k := by omega
          subst e2
          exact .inr ⟨(h.mem q0).mpr ⟨wb, z⟩, hqb, hbm⟩
      · omega
    · obtain ⟨n1, _⟩ := t.new q0 hq0
      rcases hPR with z | ⟨z, _⟩
      · obtain ⟨_, _, wb, m, _, z2⟩ := h.I.P q0 b z
        rw [n1] at z2
        cases z2
      · obtain ⟨wb, z2⟩ := (h.mem q0).mp z
        rw [n1] at z2
        cases z2
  · -- the ranks asked
    have c : ¬ ((xs.length : Int) > 0) := fun z => c (decide_eq_true z)
    have hls : ls = [] := List.length_eq_zero_iff.mp (by omega)
    obtain ⟨kk, hdk5, hkk, hkl⟩ := h.rk.at
    refine ⟨d, _, hdk5, trivial, fun od => ?_⟩
    refine ⟨_, rfl, d, od, rfl, .inl ⟨kk, upd_same, fun D hD => ?_⟩⟩
    have hdD : d ≠ D := fun z => by rw [← z, upd_same] at hD; cases hD
    refine lc_it (walk_keys (d := d) (o := od) (kvs := kk)) (fun i H6 => H6 = upd (upd H5 d (.frz od (.dK kk))) D (.lst ((List.replicate i false).map V.bl))) rfl (fun i H6 _ e => by rw [e, upd_ne hdD]; exact upd_same) (fun i y H6 H6' hi hP hY => ?_) (fun H6 hP => ?_)
    · subst hP
      obtain ⟨rfl, ky, v, hky, rfl⟩ := hY
      have hk0 : ky = Sum.inl 0 := hkk _ (List.mem_of_getElem? hky)
      subst hk0
      refine ⟨rfl, _, rfl, _, rfl, _, _, rfl, rfl, _, upd_same, big' (by rw [List.length_map, List.length_replicate]; omega), ?_⟩
      have hf : decide ((0 : Int) > k) = false := decide_eq_false (by have := h.k0; omega)
      show upd _ D (.lst (((List.replicate i false).map V.bl) ++ [V.bl (decide ((0 : Int) > k))])) = _
      rw [hf, upd_upd, List.replicate_succ', List.map_append]
      rfl
    · subst hP
      have e8 : Same H5 (upd (upd (upd H5 d (.frz od (.dK kk))) D (.lst ((List.replicate kk.length false).map V.bl))) d (.dK kk)) := fun b o hb => by
        by_cases z : b = d
        · rw [z, upd_same]; rw [z, hdk5] at hb; exact hb
        · have hbD : b ≠ D := fun y => by rw [y] at hb; rw [upd_ne hdD.symm] at hD; rw [hD] at hb; cases hb
          rw [upd_ne z, upd_ne hbD, upd_ne z]; exact hb
      refine ⟨by rw [upd_ne hdD]; exact upd_same, D, _, rfl, SqL.of (by rw [upd_ne hdD.symm]; exact upd_same), _, rfl, ?_⟩
      have hany : ((List.replicate kk.length false).any id) = false := by simp
      rw [hany]
      refine iteF ?_
      have h8 := h.on e8
      have full : ∀ q0 wb m, B q0 = some (.val wb m) → ∀ b ∈ keys kvT, q0 ∈ nxF G b → PR q0 b := fun q0 wb m hb b hbm hqb => by
        have h1 := h.le q0 wb m hb
        by_cases e : m < k
        · exact h.full q0 wb m hb e b hbm hqb
        · have e2 : m = k := by omega
          subst e2
          have z := (h.mem q0).mpr ⟨wb, hb⟩
          rw [hls] at z
          cases z
      have bookV := h.I.book tok.cl full
      obtain ⟨dx8, hp8⟩ := h8.S.ob
      obtain ⟨esT, epT, DT8⟩ := id h8.S.DT
      refine ⟨_, rfl, p, T.c_Solver, dx8, _, _, rfl, hp8, T.Solver.cl, T.n_Solver_table, rfl, dT, esT, epT, rfl, DT8.ob, DT8.sys, ?_⟩
      generalize upd (upd (upd H5 d (.frz od (.dK kk))) D (.lst ((List.replicate kk.length false).map V.bl))) d (.dK kk) = H8 at h8 hp8 DT8 e8
      refine for_it (walk_n (w := w) (K := K) (d := dT) (es := esT) (ep := epT) (kvs := kvT)) (fun i σ H9 => ∃ kvB9 B9 x2, σ = [some (.ref p), some (.ref d), x2, some (.int k), some (.ref la), x5] ∧ (∀ b o, b ≠ dB → b ≠ dU → H8 b = some o → H9 b = some o) ∧ DictOn w K H9 dT esT epT kvT ∧ SS w K T.c_Solver H9 p dT dB dF dU G kvT kvB9 kvF kvU B9 u ∧ (∀ q v, B9 q = some v → B q = some v ∨ (v = .drawn ∧ B q = none)) ∧ (∀ q v, B q = some v → B9 q = some v) ∧ ∀ q ∈ keys (kvT.take i), B9 q ≠ none)
        ⟨kvB, B, _, rfl, fun _ _ _ _ h => h, DT8, h8.S, fun _ _ h => .inl h, fun _ _ h => h, fun q0 h0 => by simp [keys] at h0⟩ (fun i σ H9 _ ⟨_, _, _, _, _, h, _⟩ => h) (fun i y σ H9 H9' hi hP hY => ?_) (fun σ H9 hP => ?_)
      · obtain ⟨kvB9, B9, x2, rfl, fr9, DT9, S9, k9, m9, a9⟩ := hP
        obtain ⟨rfl, b, bv, hb, hyb⟩ := hY
        have hbm : b ∈ keys kvT := List.mem_map.mpr ⟨_, List.mem_of_getElem? hb, rfl⟩
        obtain ⟨dx9, hp9⟩ := S9.ob
        have hz9 := S9.sizeB gok
        have step : ∀ B2 : Bk, (∀ q v, B9 q = some v → B2 q = some v) → B2 b ≠ none → ∀ q ∈ keys (kvT.take (i + 1)), B2 q ≠ none := fun B2 h1 h2 q0 h0 => by
          have e1 : keys (kvT.take (i + 1)) = keys (kvT.take i) ++ [b] := keys_one hb
          rw [e1] at h0
          rcases List.mem_append.mp h0 with z | z
          · cases e : B9 q0 with
            | none => exact absurd e (a9 q0 z)
            | some v => rw [h1 q0 v e]; simp
          · rw [List.mem_singleton.mp z]; exact h2
        refine ⟨_, rfl, _, rfl, p, T.c_Solver, dx9, _, _, rfl, hp9, T.Solver.cl, T.n_Solver_book, rfl, dB, kvB9, b, rfl, S9.DB, hyb, _, rfl, ite2 (fun cc => ?_) (fun cc => ?_)⟩
        · have hn : ¬ b ∈ keys kvB9 := fun z => by rw [valV_isSome.mpr z] at cc; exact absurd cc (by decide)
          have hbn : B9 b = none := by
            cases e : B9 b with
            | none => rfl
            | some v => exact absurd ((bk_keys S9.bv).mpr (by rw [e]; simp)) hn
          refine ⟨_, rfl, p, T.c_Solver, dx9, _, _, rfl, hp9, T.Solver.cl, T.n_Solver_book, rfl, _, rfl, dB, kvB9, b, rfl, S9.DB, hyb, big' (by omega), fun ob D9 => ?_⟩
          have S10 := S9.put (x := .drawn) (R.ofDrawn (T.t_DRAWN _)) (tok.ok b hbm) D9
          refine ⟨_, B9.put b .drawn, _, rfl, fun a o h1 h2 h3 => by rw [upd_ne h1]; exact fr9 a o h1 h2 h3, DT9.fut (TK.wr S9.DB.noT) (upd_ne S9.tb), S10, fun q0 v hv => ?_, fun q0 v hv => ?_, step _ (fun q0 v hv => ?_) (by rw [Bk.put_same]; simp)⟩
          · by_cases e : q0 = b
            · rw [e, Bk.put_same] at hv
              refine .inr ⟨(Option.some.inj hv).symm, ?_⟩
              rw [e]
              cases e2 : B b with
              | none => rfl
              | some v2 => rw [m9 b v2 e2] at hbn; cases hbn
            · rw [Bk.put_ne e] at hv; exact k9 q0 v hv
          · have := m9 q0 v hv
            rw [Bk.put_ne (fun e => by rw [e, hbn] at this; cases this)]; exact this
          · rw [Bk.put_ne (fun e => by rw [e, hbn] at hv; cases hv)]; exact hv
        · have hm : b ∈ keys kvB9 := by
            cases z : (valV kvB9 b).isSome with
            | true => exact valV_isSome.mp z
            | false => rw [z] at cc; exact absurd rfl cc
          exact ⟨kvB9, B9, _, rfl, fr9, DT9, S9, k9, m9, step B9 (fun _ _ h => h) ((bk_keys S9.bv).mp hm)⟩
      · obtain ⟨kvB9, B9, x2, rfl, fr9, DT9, S9, k9, m9, a9⟩ := hP
        rw [List.take_length] at a9
        obtain ⟨dx9, hp9⟩ := S9.ob
        refine ⟨_, rfl, p, T.c_Solver, dx9, _, _, rfl, hp9, T.Solver.cl, T.n_Solver_book, rfl, ?_⟩
        refine q H9 kvB9 _ (fun b o h1 h2 h3 => fr9 b o h1 h2 (h8.fr b o h1 h2 h3)) S9.DB bookV fun q0 h0 => ?_
        cases e : B9 q0 with
        | none => exact absurd e (a9 q0 h0)
        | some v =>
          obtain ⟨vv, hv1, hv2⟩ := (S9.bv q0).2 v e
          refine ⟨vv, hv1, ?_⟩
          rcases k9 q0 v e with z | ⟨z, z'⟩
          · show R K H9 vv ((B q0).getD .drawn); rw [z]; exact hv2
          · show R K H9 vv ((B q0).getD .drawn); rw [z', ← z]; exact hv2
end Sk

/-! Sk: values_of, solve. -/
namespace Sk
open PySem L2 PySem.Spec PyProof.Rows
variable {P : Program} {w : World} {K : PySem.W.Frag} {mg : Str → Option Value} {base : Heap}

open Classical in
/-- what is known at the start -/
noncomputable def B0 (G : GD) (ts : List Psn) : Bk := fun q => if q ∈ ts then ovF G q else none
theorem B0_in {G : GD} {ts : List Psn} {q : Psn} (h : q ∈ ts) : B0 G ts q = ovF G q := by unfold B0; rw [if_pos h]
theorem B0_out {G : GD} {ts : List Psn} {q : Psn} (h : ¬ q ∈ ts) : B0 G ts q = none := by unfold B0; rw [if_neg h]
theorem B0_some {G : GD} {ts : List Psn} {q : Psn} {v : Val} (h : B0 G ts q = some v) : q ∈ ts ∧ ovF G q = some v := by
  by_cases c : q ∈ ts
  · rw [B0_in c] at h; exact ⟨c, h⟩
  · rw [B0_out c] at h; cases h
theorem BI0.start {G : GD} {ts : List Psn} (g : GOk G) (tok : TabOk1 G ts) : BI0 G ts (B0 G ts) (fun q => (nxF G q).length) (fun _ _ => False) 1 := by
  refine ⟨fun q hq v hv => by rw [B0_in hq]; exact hv, fun q v h => (B0_some h).1, fun p n h ho => ?_, fun p n h ho => ?_, fun p h => (B0_some h).2, fun p wb n h => ?_, fun _ _ h => h.elim, fun _ _ _ h => h.elim, fun p hp => ?_, fun p hp h => ?_⟩
  · rw [(B0_some h).2] at ho; cases ho
  · rw [(B0_some h).2] at ho; cases ho
  · rcases ovF_kind (B0_some h).2 with z | z | z
    · cases z
    · injection z with _ z; omega
    · injection z with _ z; omega
  · have : cntW (B0 G ts) (fun _ _ => False) p (nxF G p) = 0 := by
      have key : ∀ l : List Psn, cntW (B0 G ts) (fun _ _ => False) p l = 0 := by
        intro l
        induction l with
        | nil => rfl
        | cons x l ih => rw [cntW_neg (fun z => z.1)]; exact ih
      exact key _
    rw [this]
    simp
  · rw [B0_in hp] at h
    have z := nxF_some g (tok.ok p hp) h
    have : (nxF G p).length ≠ 0 := fun e => z (List.length_eq_zero_iff.mp e)
    show ((nxF G p).length : Int) ≠ 0
    omega
theorem Book.mono {G : GD} {ts ts' : List Psn} {V : Psn → Val} (h : Book G ts V) (e : ∀ q, q ∈ ts' → q ∈ ts) : Book G ts' V :=
  ⟨fun p hp => h.over p (e p hp), fun p hp => h.won p (e p hp), fun p hp => h.lost p (e p hp), fun p hp => h.drawn p (e p hp), fun p hp => h.nn p (e p hp)⟩
def sp_values_of (w : World) (K : PySem.W.Frag) (T : Top K mg) : Sp := fun vs H Q _ => ∃ (g dT dK : Addr) (G : GD) (kvT : List (Psn × V)), vs = [.ref g, .ref dT, .ref dK] ∧ GameAt K H T.c_Game T.c_Board g G ∧ GOk G ∧ ClOk G ∧ DictAt w K H dT kvT ∧ TabAt K H G kvT ∧ TabOk1 G (keys kvT) ∧ DictAt w K H dK ([] : List (Psn × V)) ∧
  ∀ H' d kvs V, Same H H' → H d = none → DictAt w K H' d kvs → Book G (keys kvT) V → (∀ q, q ∈ keys kvs ↔ q ∈ keys kvT) → (∀ q ∈ keys kvT, ∃ v, valV kvs q = some v ∧ R K H' v (V q)) → Q (.ref d) H'
theorem ok_values_of (T : Top K mg) : FnOk P w K mg base CX0 37 T.values_of.a T.values_of.fd P_values_of (sp_values_of w K T) := by
  refine T.values_of.F.ok sc_values_of (fun vs H Q E h => ?_) (fun cdv A outer s H vs Q E hr hh => ?_)
  · obtain ⟨_, _, _, _, _, rfl, _⟩ := h; rfl
  obtain ⟨g, dT, dK, G, kvT, rfl, hg, gok, clok, DT, tab, tok, DK, q⟩ := hh
  have nd := sc_values_of.nd
  have hu := hu64 hr
  refine ⟨_, (pss_cons (ps_bk (i := 3) (own := [("position", 4)]) (g := gName 4) (tt := tYes) (form_dict Psn hu (fun _ _ _ _ _ => (pv 4)) (fun _ _ _ _ _ => (pe_ngetK Psn (K := K) (w := w) rfl rfl hu (pv 2) (pv 4) (fun _ _ => rfl)))) (sw_dict rfl rfl rfl (by decide +kernel)) rfl rfl nd rfl rfl (pi_n (pv 2)) (blkOk_by (N := N_values_of) (sc := defScope s_values_of) (by decide +kernel)) (fun _ _ _ _ _ => (pg_name (i := 4) nd rfl (Or.inl rfl))) (fun _ _ _ _ _ => pts_nil))
    (pss_cons (ps_for PassesOwn.never rfl (pi_n (pv 1)) (pg_name (i := 4) nd rfl (Or.inl rfl))
      (pss_cons (ps_set (i := 5) nd rfl (Or.inl rfl) (pe_call (ok_over_value T) (hr.mono (by decide)) rfl T.over_value.m T.over_value.k T.over_value.b .nil pass0 (pa_cons (pv 0) (pa_cons (pv 4) pa_nil))))
      (pss_one (ps_if (pt_cmpR op_notN (pv 5) pe_non (nomark _))
        (pss_one (ps_asg (pv 5) (pg_sub (pv 3) (pv 4) (set_n Psn hu))))
        pss_nil))))
    (pss_cons (ps_set (i := 6) nd rfl (Or.inr rfl) (pe_meth0 (pe_make T.Solver.mk1 (ok_Solver_init T) (hr.mono (by decide)) rfl T.Solver.m T.Solver_init_b .nil pass0 (pa_cons (pv 1) (pa_cons (pv 3) pa_nil))) T.Solver.cl T.Solver_solve.m (ok_Solver_solve T) (hr.mono (by decide)) T.Solver_solve.b .nil pass0))
    (pss_one (ps_ret (pe_bk (own := [("position", 4)]) (g := gName 4) (tt := tYes) (form_dict Psn hu (fun _ _ _ _ _ => (pv 4)) (fun _ _ _ _ _ => (pe_ngetK Psn (K := K) (w := w) rfl rfl hu (pv 6) (pv 4) (fun _ _ => rfl)))) rfl rfl nd (pi_list (pe_callB (cr_sortD Psn rfl hu) rfl T.z_sorted (by decide +kernel) (pa_cons (pv 1) pa_nil))) (blkOk_by (N := N_values_of) (sc := defScope s_values_of) (by decide +kernel)) (fun _ _ _ _ _ => (pg_name (i := 4) nd rfl (Or.inl rfl))) (fun _ _ _ _ _ => pts_nil))))))), ?_⟩
  obtain ⟨esK, epK, DK⟩ := DK
  obtain ⟨esT, epT, DT'⟩ := id DT
  refine ⟨_, rfl, dK, esK, epK, rfl, DK.ob, DK.sys, fun D hD ob0 D0 => ?_⟩
  refine bk_it (walk_n (w := w) (K := K) (d := dK) (es := esK) (ep := epK) (kvs := ([] : List (Psn × V)))) (fun i H1 => H1 = upd H D ob0) rfl (fun i H1 _ e => by rw [e]; exact DK.same (Same.new hD)) (fun i x H1 H1' hi hP hY => absurd hi (Nat.not_lt_zero _)) (fun H1 hP => ?_)
  subst hP
  have e1 : Same H (upd H D ob0) := Same.new hD
  have DT1 := DT'.same e1
  refine ⟨_, rfl, dT, esT, epT, rfl, DT1.ob, DT1.sys, ?_⟩
  refine for_it (walk_n (w := w) (K := K) (d := dT) (es := esT) (ep := epT) (kvs := kvT)) (fun i σ H2 => ∃ kvs x4 x5 x6, σ = [some (.ref g), some (.ref dT), some (.ref dK), some (.ref D), x4, x5, x6] ∧ Same H H2 ∧ DictAt w K H2 D kvs ∧ BookV K H2 kvs (B0 G (keys (kvT.take i))))
    ⟨[], _, _, _, rfl, e1, D0, fun q0 => ⟨fun _ => rfl, fun x h => absurd (B0_some h).1 (by simp [keys])⟩⟩ (fun i σ H2 _ ⟨_, _, _, _, _, e, _⟩ => DT'.same e) (fun i x σ H2 H2' hi hP hY => ?_) (fun σ H2 hP => ?_)
  · obtain ⟨kvs, x4, x5, x6, rfl, e2, D2, bv2⟩ := hP
    obtain ⟨rfl, c, cv, hc, hxc⟩ := hY
    have hcm : c ∈ keys kvT := List.mem_map.mpr ⟨_, List.mem_of_getElem? hc, rfl⟩
    have hck := tok.ok c hcm
    have ek : keys (kvT.take (i + 1)) = keys (kvT.take i) ++ [c] := keys_one hc
    have cnew : ¬ c ∈ keys (kvT.take i) := by
      have z : (keys kvT)[i]? = some c := by simp [keys, hc]
      have y := nd_at DT.nd z
      rw [keys, List.map_take]
      exact y
    refine ⟨_, rfl, _, rfl, g, G, x, c, rfl, hg.same e2, gok, clok, hxc, hck, fun v H3 e3 hv => ⟨_, rfl, rfl, _, rfl, ?_⟩⟩
    have D3 := D2.same e3
    have bv3 := bv2.fut (TK.same e3)
    cases ho : ovF G c with
    | none =>
      rw [ho] at hv
      have hv : v = .non := hv
      subst hv
      refine ite2 (fun cc => absurd cc (by decide)) (fun _ => ⟨kvs, _, _, _, rfl, e2.trans e3, D3, fun q0 => ?_⟩)
      have : B0 G (keys (kvT.take (i + 1))) q0 = B0 G (keys (kvT.take i)) q0 := by
        by_cases z : q0 = c
        · rw [z, B0_out cnew, B0_in (by rw [ek]; exact List.mem_append_right _ (List.mem_singleton.mpr rfl)), ho]
        · by_cases y : q0 ∈ keys (kvT.take i)
          · rw [B0_in y, B0_in (by rw [ek]; exact List.mem_append_left _ y)]
          · rw [B0_out y, B0_out (by rw [ek, List.mem_append, List.mem_singleton]; rintro (a | a); exact y a; exact z a)]
      rw [this]
      exact bv3 q0
    | some ov =>
      rw [ho] at hv
      have hv : R K H3 v ov := hv
      have hne : ¬ v = .non := fun z => by
        obtain ⟨a, e⟩ := ref_of hv
        rw [e] at z
        cases z
      refine ite2 (fun _ => ?_) (fun cc => absurd (by simp [hne]) cc)
      have hz := few_pos gok D3.nd fun q0 h0 => by
        have z := (bk_keys bv3).mp h0
        cases e : B0 G (keys (kvT.take i)) q0 with
        | none => exact absurd e z
        | some y =>
          obtain ⟨z1, _⟩ := B0_some e
          obtain ⟨a, ha, eb⟩ := List.mem_map.mp z1
          exact tok.ok q0 (List.mem_map.mpr ⟨a, List.mem_of_mem_take ha, eb⟩)
      refine ⟨_, rfl, _, rfl, _, rfl, D, kvs, c, rfl, D3, hxc.same e3, big' (by omega), fun ob D4 => ?_⟩
      have t4 : TK K H3 (upd H3 D ob) := TK.wr D3.noT
      refine ⟨_, _, _, _, rfl, Same.mut (e2.trans e3) hD, D4, fun q0 => ?_⟩
      by_cases z : q0 = c
      · subst z
        rw [B0_in (by rw [ek]; exact List.mem_append_right _ (List.mem_singleton.mpr rfl)), ho, valV_putK, if_pos rfl]
        exact ⟨(fun h => nomatch h), fun y hy => ⟨v, rfl, by rw [← Option.some.inj hy]; exact hv.fut t4⟩⟩
      · have : B0 G (keys (kvT.take (i + 1))) q0 = B0 G (keys (kvT.take i)) q0 := by
          by_cases y : q0 ∈ keys (kvT.take i)
          · rw [B0_in y, B0_in (by rw [ek]; exact List.mem_append_left _ y)]
          · rw [B0_out y, B0_out (by rw [ek, List.mem_append, List.mem_singleton]; rintro (a | a); exact y a; exact z a)]
        rw [this, valV_putK, if_neg z]
        exact bv3.fut t4 q0
  obtain ⟨kvs, x4, x5, x6, rfl, e2, D2, bv2⟩ := hP
  rw [List.take_length] at bv2
  have D2k : ∀ q0 ∈ keys kvs, PosOk G q0 := fun q0 h0 => by
    have z := (bk_keys bv2).mp h0
    cases e : B0 G (keys kvT) q0 with
    | none => exact absurd e z
    | some y => exact tok.ok q0 (B0_some e).1
  refine ⟨_, rfl, _, rfl, fun x dx hx hdx hne => ?_⟩
  have ex : Same H2 (upd (upd H2 dx (.own x)) x (.ins T.c_Solver dx [])) := (Same.new hdx).trans (Same.new (by rw [upd_ne hne.symm]; exact hx))
  have DT2 := DT.same (e2.trans ex)
  refine ⟨x, dx, dT, D, G, kvT, kvs, B0 G (keys kvT), rfl, upd_same, gok, DT2, tab.same (e2.trans ex), tok, D2.same ex, D2k, bv2.fut (TK.same ex), fun Hf dB dF dU kvB kvF kvU fr SSf nol hdB hdU => ⟨rfl, ?_⟩⟩
  have ef : Same H2 Hf := fun b o hb => fr b o (ne_of_none hb hx) (ex b o hb)
  obtain ⟨dxf, hpf⟩ := SSf.ob
  refine ⟨x, dxf, _, rfl, hpf, rfl, x, dT, dB, dF, dU, G, kvT, kvB, kvF, kvU, B0 G (keys kvT), _, rfl, gok, SSf, tok, BI0.start gok tok, fun q0 v hv => ?_, fun H5 kvB5 V fr5 DB5 book5 val5 => ?_⟩
  · rcases ovF_kind (B0_some hv).2 with z | z | z
    · exact .inl z
    · exact .inr ⟨true, z⟩
    · exact .inr ⟨false, z⟩
  have nB : ∀ b o, H2 b = some o → b ≠ dB := fun b o hb z => by
    have := ex b o hb
    rw [z, hdB] at this
    cases this
  have nU : ∀ b o, H2 b = some o → b ≠ dU := fun b o hb z => by
    have := ex b o hb
    rw [z, hdU] at this
    cases this
  have e5 : Same H2 H5 := fun b o hb => fr5 b o (nB b o hb) (nU b o hb) (ef b o hb)
  have e25 := e2.trans e5
  refine ⟨_, rfl, dT, kvT, rfl, DT.same e25, fun ls ys hls hys => ⟨ls, rfl, ⟨_, SqL.of upd_same⟩, fun N hN ob1 N0 => ?_⟩⟩
  have e6 : Same H5 (upd H5 ls (.lst ys)) := Same.new hls
  have hys' := hys
  refine bk_it (walkL (K := K) (a := ls) (xs := ys)) (fun i H6 => ∃ kvs6, Same (upd H5 ls (.lst ys)) H6 ∧ DictAt w K H6 N kvs6 ∧ (∀ q, q ∈ keys kvs6 ↔ q ∈ (srt (keys kvT)).take i) ∧ ∀ q ∈ keys kvs6, valV kvs6 q = valV kvB5 q) ⟨[], Same.new hN, N0, fun q => by simp [keys], fun q h => by simp [keys] at h⟩ (fun i H6 _ ⟨_, e, _⟩ => SqL.of (e _ _ upd_same)) (fun i y H6 H6' hi hP hY => ?_) (fun H6 hP => ?_)
  · obtain ⟨kvs6, e7, N7, k7, v7⟩ := hP
    obtain ⟨rfl, hy⟩ := hY
    obtain ⟨c, hc, hyc⟩ := (hys.same e7).get hy
    have hcm : c ∈ keys kvT := srt_mem.mp (List.mem_of_getElem? hc)
    obtain ⟨v, hv, hvR⟩ := val5 c hcm
    have hz := few_pos gok N7.nd fun q0 h0 => tok.ok q0 (srt_mem.mp (List.mem_of_mem_take ((k7 q0).mp h0)))
    refine ⟨rfl, _, rfl, _, rfl, _, rfl, dB, kvB5, c, v, rfl, (DB5.same e6).same e7, hyc, hv, kvs6, c, N7, hyc, big' (by omega), fun ob N8 => ⟨_, Same.mut e7 hN, N8, fun q0 => ?_, fun q0 h0 => ?_⟩⟩
    · rw [mem_putK, k7, take_one hc, List.mem_append, List.mem_singleton]
    · rw [valV_putK]
      by_cases z : q0 = c
      · rw [if_pos z, z, hv]
      · rw [if_neg z]
        rcases mem_putK.mp h0 with y | y
        · exact v7 q0 y
        · exact absurd y z
  · obtain ⟨kvs6, e7, N7, k7, v7⟩ := hP
    rw [hys.length, List.take_length] at k7
    have k8 : ∀ q0, q0 ∈ keys kvs6 ↔ q0 ∈ keys kvT := fun q0 => (k7 q0).trans srt_mem
    refine q H6 N kvs6 V (e25.trans (e6.trans e7)) ((e25.trans e6).free hN) N7 book5 k8 fun q0 h0 => ?_
    obtain ⟨v, hv, hvR⟩ := val5 q0 h0
    exact ⟨v, by rw [v7 q0 ((k8 q0).mpr h0)]; exact hv, hvR.same (e6.trans e7)⟩
def sp_solve (w : World) (K : PySem.W.Frag) (T : Top K mg) : Sp := fun vs H Q _ => ∃ (g l : Addr) (G : GD) (xs : List V) (ps : List Psn), vs = [.ref g, .ref l] ∧ GameAt K H T.c_Game T.c_Board g G ∧ GOk G ∧ ClOk G ∧ SqL K H l xs ∧ Rs K H xs ps ∧ (∀ p ∈ ps, PosOk G p) ∧
  ∀ H' d kvs V, Same H H' → DictAt w K H' d kvs → TabOk1 G (keys kvs) → Book G (keys kvs) V → (∀ p ∈ ps, p ∈ keys kvs) → (∀ q ∈ keys kvs, ∃ v, valV kvs q = some v ∧ R K H' v (V q)) → Q (.ref d) H'
theorem ok_solve (T : Top K mg) : FnOk P w K mg base CX0 38 T.solve.a T.solve.fd P_solve (sp_solve w K T) := by
  refine T.solve.F.ok sc_solve (fun vs H Q E h => ?_) (fun cdv A outer s H vs Q E hr hh => ?_)
  · obtain ⟨_, _, _, _, _, rfl, _⟩ := h; rfl
  obtain ⟨g, l, G, xs, ps, rfl, hg, gok, clok, hl, hps, pok, q⟩ := hh
  have nd := sc_solve.nd
  have hu := hu64 hr
  refine ⟨_, (pss_one (ps_ret (pe_call (ok_values_of T) (hr.mono (by decide)) rfl T.values_of.m T.values_of.k T.values_of.b .nil pass0 (pa_cons (pv 0) (pa_cons (pe_call (ok_followers T) (hr.mono (by decide)) rfl T.followers.m T.followers.k T.followers.b .nil pass0 (pa_cons (pv 0) (pa_cons (pv 1) pa_nil))) (pa_cons (pe_nnew Psn) pa_nil)))))), ?_⟩
  refine ⟨_, rfl, _, rfl, _, rfl, g, l, G, xs, ps, rfl, hg, gok, clok, hl, hps, pok, fun dT kvT H1 e1 n1 DT tab tok sub => ?_⟩
  intro d hd ob D0
  have e2 : Same H1 (upd H1 d ob) := Same.new hd
  refine ⟨g, dT, d, G, kvT, rfl, hg.same (e1.trans e2), gok, clok, DT.same e2, tab.same e2, tok, D0, fun H' d' kvs V e3 n3 D3 book keq vals => ?_⟩
  exact q H' d' kvs V (e1.trans (e2.trans e3)) D3 ⟨fun p hp => tok.ok p ((keq p).mp hp), fun p hp r hr => (keq r).mpr (tok.cl p ((keq p).mp hp) r hr)⟩ (book.mono fun p hp => (keq p).mp hp) (fun p hp => (keq p).mpr (sub p hp)) fun p hp => vals p ((keq p).mp hp)
end Sk

/-! Sk: the law's deck. -/
namespace Sk
open PySem L2 PySem.Spec PyProof.Rows
variable {P : Program} {w : World} {K : PySem.W.Frag} {mg : Str → Option Value} {base : Heap}

structure Dk where
  dk : Addr
  sc : Addr
  ns : List Int
/-- the heap without the deck -/
def wo (D : Dk) (H : Hp) : Hp := fun b => if b = D.dk then none else H b
theorem wo_at {D : Dk} {b : Addr} {H : Hp} (h : b ≠ D.dk) : wo D H b = H b := if_neg h
theorem wo_sub {D : Dk} {H : Hp} : Same (wo D H) H := fun b o h => by
  by_cases e : b = D.dk
  · rw [e] at h; simp [wo] at h
  · rw [wo_at e] at h; exact h
structure Deck (D : Dk) (H : Hp) : Prop where
  at_ : ∃ i j h : Int, H D.dk = some (.lst [.ref D.sc, .int i, .int j, .int h]) ∧ 0 ≤ i
  sc : H D.sc = some (.lst (D.ns.map .int))
  ne : D.sc ≠ D.dk
/-- all but the deck stays, the deck is one still -/
structure Dw (D : Dk) (H H' : Hp) : Prop where
  same : Same (wo D H) (wo D H')
  dk : Deck D H'
section
variable {D : Dk} {H H1 H2 : Hp}
theorem Deck.some (h : Deck D H) : ∃ xs, H D.dk = some (.lst xs) := let ⟨_, _, _, e, _⟩ := h.at_; ⟨_, e⟩
theorem Deck.new (h : Deck D H) {p : Addr} (hp : H p = none) : p ≠ D.dk := by
  obtain ⟨xs, e⟩ := h.some
  exact (ne_of_none e hp).symm
theorem Dw.rfl' (h : Deck D H) : Dw D H H := ⟨Same.rfl', h⟩
theorem Dw.trans (a : Dw D H H1) (b : Dw D H1 H2) : Dw D H H2 := ⟨a.same.trans b.same, b.dk⟩
theorem Dw.at_ (a : Dw D H H1) {b : Addr} {o : HO} (hb : b ≠ D.dk) (h : H b = some o) : H1 b = some o := by
  have z := a.same b o (by rw [wo_at hb]; exact h)
  rw [wo_at hb] at z
  exact z
theorem Dw.of_same (d : Deck D H) (e : Same H H1) : Dw D H H1 := by
  obtain ⟨i, j, h, e1, e2⟩ := d.at_
  refine ⟨fun b o hb => ?_, ⟨⟨i, j, h, e _ _ e1, e2⟩, e _ _ d.sc, d.ne⟩⟩
  by_cases z : b = D.dk
  · rw [z] at hb; simp [wo] at hb
  · rw [wo_at z] at hb ⊢; exact e b o hb
theorem Dw.tk (d : Deck D H) (a : Dw D H H1) {K : PySem.W.Frag} : TK K H H1 := fun b xs h => by
  obtain ⟨ys, e⟩ := d.some
  rcases h with (h | ⟨u, h⟩) | h
  · exact .inl (.inl (a.at_ (fun z => by rw [z, e] at h; cases h) h))
  · exact .inl (.inr ⟨u, a.at_ (fun z => by rw [z, e] at h; cases h) h⟩)
  · exact .inr h
/-- an object that was not there at H may change -/
theorem Dw.mut (a : Dw D H H1) (d0 : Deck D H) {p : Addr} {o : HO} (h0 : H p = none) : Dw D H (upd H1 p o) := by
  have hp := d0.new h0
  have hs : D.sc ≠ p := ne_of_none d0.sc h0
  refine ⟨fun b u hb => ?_, ?_⟩
  · have z := a.same b u hb
    by_cases y : b = D.dk
    · rw [y] at hb; simp [wo] at hb
    · rw [wo_at y] at z hb ⊢
      rw [upd_ne (ne_of_none hb h0)]
      exact z
  · obtain ⟨i, j, h, e1, e2⟩ := a.dk.at_
    exact ⟨⟨i, j, h, by rw [upd_ne hp.symm]; exact e1, e2⟩, by rw [upd_ne hs]; exact a.dk.sc, d0.ne⟩
theorem Dw.new (d0 : Deck D H) {p : Addr} {o : HO} (h0 : H p = none) : Dw D H (upd H p o) := (Dw.rfl' d0).mut d0 h0
theorem Dw.free (a : Dw D H H1) (d0 : Deck D H) {p : Addr} (h : H1 p = none) : H p = none := by
  have hp := a.dk.new h
  cases e : H p with
  | none => rfl
  | some o => rw [a.at_ hp e] at h; cases h
/-- other numbers in the deck -/
theorem Dw.put (d : Deck D H) {i j h : Int} (h0 : 0 ≤ i) : Dw D H (upd H D.dk (.lst [.ref D.sc, .int i, .int j, .int h])) := by
  refine ⟨fun b o hb => ?_, ⟨⟨i, j, h, upd_same, h0⟩, by rw [upd_ne d.ne]; exact d.sc, d.ne⟩⟩
  by_cases z : b = D.dk
  · rw [z] at hb; simp [wo] at hb
  · rw [wo_at z] at hb ⊢; rw [upd_ne z]; exact hb
theorem wo_new {p : Addr} {o : HO} (h : p ≠ D.dk) : wo D (upd H p o) p = some o := by rw [wo_at h]; exact upd_same
end
def sp_deck (K : PySem.W.Frag) : Sp := fun vs H Q _ => ∃ (a : Addr) (ns : List Int), vs = [.ref a] ∧ SqL K H a (ns.map .int) ∧ ∀ H' (D : Dk), Same H H' → Deck D H' → Q (.ref D.dk) H'
theorem ok_L_deck (T : Top K mg) : FnOk P w K mg base CX0 1 T.L_deck.a T.L_deck.fd P_L_deck (sp_deck K) := by
  refine T.L_deck.F.ok sc_L_deck (fun vs H Q E h => ?_) (fun cdv A outer s H vs Q E hr hh => ?_)
  · obtain ⟨_, _, rfl, _⟩ := h; rfl
  obtain ⟨a, ns, rfl, ha, q⟩ := hh
  refine ⟨_, (pss_one (ps_ret (pe_lst (pa_cons (pe_callTy call_list_of rfl T.z_list (by decide +kernel) (pa_cons (pv 0) pa_nil)) (pa_cons pe_int (pa_cons pe_int (pa_cons pe_int pa_nil))))))), ?_⟩
  refine ⟨_, rfl, a, _, rfl, .inl ha, fun l hl => ⟨(by decide : 4 ≤ sizeLine), fun d hd => ?_⟩⟩
  have ld : l ≠ d := ne_of_none (show upd H l (.lst (ns.map .int)) l = some _ from upd_same) hd
  exact q _ ⟨d, l, ns⟩ ((Same.new hl).trans (Same.new hd)) ⟨⟨0, 0, 7, upd_same, Int.le_refl 0⟩, by show upd _ d _ l = _; rw [upd_ne ld]; exact upd_same, ld⟩
def sp_draw : Sp := fun vs H Q _ => ∃ (D : Dk) (m : Int), vs = [.ref D.dk, .int m] ∧ Deck D H ∧ 0 < m ∧ m < 1073741824 ∧ ∀ (v : Int) H', 0 ≤ v → v < m → Dw D H H' → Q (.int v) H'
theorem ok_L_draw (T : Top K mg) : FnOk P w K mg base CX0 1 T.L_draw.a T.L_draw.fd P_L_draw sp_draw := by
  refine T.L_draw.F.ok sc_L_draw (fun vs H Q E h => ?_) (fun cdv A outer s H vs Q E hr hh => ?_)
  · obtain ⟨_, _, rfl, _⟩ := h; rfl
  obtain ⟨D, m, rfl, dk, hm, hm2, q⟩ := hh
  have nd := sc_L_draw.nd
  refine ⟨_, (pss_cons (ps_if (pt_cmpR op_ge (pe_ix ix_list (pv 0) pe_int (fun _ _ => rfl)) (pv 1) (nomark _))
      (pss_cons (ps_set (i := 2) nd rfl (Or.inl rfl) (pe_op op_mod (pe_callTy call_int1 rfl T.z_int (by decide +kernel) (pa_cons (pe_ix ix_list (pv 0) pe_int (fun _ _ => rfl)) pa_nil)) (pv 1)))
      (pss_cons (ps_asg (pe_op op_fdiv (pe_ix ix_list (pv 0) pe_int (fun _ _ => rfl)) (pv 1)) (pg_sub (pv 0) pe_int set_list))
      (pss_one (ps_ret (pv 2)))))
      pss_nil)
    (pss_cons (ps_set (i := 3) nd rfl (Or.inl rfl) pe_int)
    (pss_cons (ps_if (pt_cmpR op_lt (pe_ix ix_list (pv 0) pe_int (fun _ _ => rfl)) (pe_callB call_len_seq rfl T.z_len PySem.boot_len (pa_cons (pe_ix ix_list (pv 0) pe_int (fun _ _ => rfl)) pa_nil)) (nomark _))
      (pss_one (ps_set (i := 3) nd rfl (Or.inl rfl) (pe_ix ix_list (pe_ix ix_list (pv 0) pe_int (fun _ _ => rfl)) (pe_ix ix_list (pv 0) pe_int (fun _ _ => rfl)) (fun _ _ => rfl))))
      pss_nil)
    (pss_cons (ps_asg (pe_op op_add (pe_ix ix_list (pv 0) pe_int (fun _ _ => rfl)) pe_int) (pg_sub (pv 0) pe_int set_list))
    (pss_cons (ps_asg pe_int (pg_sub (pv 0) pe_int set_list))
    (pss_cons (ps_if (pt_cmpR op_ge (pv 3) (pe_op op_pow pe_int pe_int) (nomark _))
      (pss_cons (ps_asg (pe_op op_fdiv (pv 3) (pv 1)) (pg_sub (pv 0) pe_int set_list))
      (pss_one (ps_ret (pe_op op_mod (pe_callTy call_int1 rfl T.z_int (by decide +kernel) (pa_cons (pv 3) pa_nil)) (pv 1)))))
      pss_nil)
    (pss_cons (ps_asg (pe_op op_mod (pe_callTy call_int1 rfl T.z_int (by decide +kernel) (pa_cons (pe_op op_add (pe_op op_add (pe_op op_mul (pe_ix ix_list (pv 0) pe_int (fun _ _ => rfl)) pe_int) (pe_op op_mul (pv 3) pe_int)) (pe_op op_mul (pe_ix ix_list (pv 0) pe_int (fun _ _ => rfl)) pe_int)) pa_nil)) pe_int) (pg_sub (pv 0) pe_int set_list))
    (pss_cons (ps_asg (pe_op op_mod (pe_callTy call_int1 rfl T.z_int (by decide +kernel) (pa_cons (pe_op op_add (pe_op op_mul (pe_ix ix_list (pv 0) pe_int (fun _ _ => rfl)) pe_int) pe_int) pa_nil)) pe_int) (pg_sub (pv 0) pe_int set_list))
    (pss_one (ps_ret (pe_op op_mod (pe_callTy call_int1 rfl T.z_int (by decide +kernel) (pa_cons (pe_op op_fdiv (pe_ix ix_list (pv 0) pe_int (fun _ _ => rfl)) pe_int) pa_nil)) (pv 1)))))))))))), ?_⟩
  obtain ⟨i, j, hh, e1, i0⟩ := dk.at_
  have mod0 : ∀ x : Int, 0 ≤ x % m ∧ x % m < m := fun x => ⟨Int.emod_nonneg x (by omega), Int.emod_lt_of_pos x hm⟩
  refine ⟨_, rfl, D.dk, _, _, _, rfl, rfl, SqL.of e1, at_2, _, rfl, _, _, rfl, rfl, _, rfl, ite2 (fun c => ?_) (fun c => ?_)⟩
  · refine ⟨_, rfl, D.dk, _, _, _, rfl, rfl, SqL.of e1, at_2, .inl ⟨_, rfl, _, rfl, _, _, rfl, rfl, hm, ?_⟩⟩
    refine ⟨_, rfl, D.dk, _, _, _, rfl, rfl, SqL.of e1, at_2, _, rfl, _, _, rfl, rfl, ⟨hm, hm2⟩, _, rfl, D.dk, _, 2, 2, rfl, rfl, e1, rfl, _, rfl, ?_⟩
    exact q _ _ (mod0 j).1 (mod0 j).2 (Dw.put dk i0)
  -- the script's next number
  have big : ∀ x : Int, x = 48271 ∨ x = 69621 ∨ x = 911 → -(2 ^ 64 : Int) < x ∧ x < 2 ^ 64 := fun x hx => by rcases hx with z | z | z <;> subst z <;> decide
  have put : ∀ (a b c : Int), 0 ≤ a → Dw D H (upd H D.dk (.lst [.ref D.sc, .int a, .int b, .int c])) := fun a b c h0 => Dw.put dk h0
  refine ⟨_, rfl, D.dk, _, _, _, rfl, rfl, SqL.of e1, at_1, _, rfl, D.dk, _, _, _, rfl, rfl, SqL.of e1, at_0, D.sc, _, rfl, .inl (SqL.of dk.sc), _, _, rfl, rfl, _, rfl, ite2 (fun c1 => ?_) (fun c1 => ?_)⟩
  · have c1 : i < ((D.ns.map V.int).length : Int) := of_decide_eq_true c1
    rw [List.length_map] at c1
    refine ⟨_, rfl, D.dk, _, _, _, rfl, rfl, SqL.of e1, at_0, _, rfl, D.dk, _, _, _, rfl, rfl, SqL.of e1, at_1, D.sc, _, _, _, rfl, rfl, SqL.of dk.sc, at_map i0 c1, ?_⟩
    refine ⟨_, rfl, D.dk, _, _, _, rfl, rfl, SqL.of e1, at_1, _, _, rfl, rfl, _, rfl, D.dk, _, 1, 1, rfl, rfl, e1, rfl, ?_⟩
    refine ⟨_, rfl, D.dk, _, 2, 2, rfl, rfl, upd_same, rfl, ?_⟩
    refine ⟨_, rfl, _, _, rfl, rfl, ⟨by decide, by decide, by decide⟩, _, _, rfl, rfl, _, rfl, ite2 (fun c2 => ?_) (fun c2 => ?_)⟩
    · refine ⟨_, rfl, _, rfl, _, _, rfl, rfl, ⟨hm, hm2⟩, _, rfl, D.dk, _, 2, 2, rfl, rfl, upd_same, rfl, _, rfl, .inl ⟨_, rfl, _, rfl, _, _, rfl, rfl, hm, ?_⟩⟩
      rw [upd_upd, upd_upd]
      exact q _ _ (mod0 _).1 (mod0 _).2 (put _ _ _ (by omega))
    · refine ⟨_, rfl, D.dk, _, _, _, rfl, rfl, SqL.of upd_same, at_3, _, _, rfl, rfl, .inr (big _ (.inl rfl)), _, rfl, _, _, rfl, rfl, .inr (big _ (.inr (.inl rfl))), _, _, rfl, rfl, _, rfl, D.dk, _, _, _, rfl, rfl, SqL.of upd_same, at_1, _, _, rfl, rfl, .inr (big _ (.inr (.inr rfl))), _, _, rfl, rfl, .inl ⟨_, rfl, _, _, rfl, rfl, (by show (0 : Int) < 2147483647; decide), _, rfl, D.dk, _, 3, 3, rfl, rfl, upd_same, rfl, ?_⟩⟩
      refine ⟨_, rfl, D.dk, _, _, _, rfl, rfl, SqL.of upd_same, at_3, _, _, rfl, rfl, .inr (big _ (.inl rfl)), _, _, rfl, rfl, .inl ⟨_, rfl, _, _, rfl, rfl, (by show (0 : Int) < 2147483647; decide), _, rfl, D.dk, _, 3, 3, rfl, rfl, upd_same, rfl, ?_⟩⟩
      refine ⟨_, rfl, D.dk, _, _, _, rfl, rfl, SqL.of upd_same, at_3, _, _, rfl, rfl, ⟨by decide, by decide⟩, .inl ⟨_, rfl, _, rfl, _, _, rfl, rfl, hm, ?_⟩⟩
      rw [upd_upd, upd_upd, upd_upd]
      exact q _ _ (mod0 _).1 (mod0 _).2 (put _ _ _ (by omega))
  · refine ⟨_, rfl, D.dk, _, _, _, rfl, rfl, SqL.of e1, at_1, _, _, rfl, rfl, _, rfl, D.dk, _, 1, 1, rfl, rfl, e1, rfl, ?_⟩
    refine ⟨_, rfl, D.dk, _, 2, 2, rfl, rfl, upd_same, rfl, ?_⟩
    refine ⟨_, rfl, _, _, rfl, rfl, ⟨by decide, by decide, by decide⟩, _, _, rfl, rfl, _, rfl, ite2 (fun c2 => ?_) (fun c2 => ?_)⟩
    · refine ⟨_, rfl, _, rfl, _, _, rfl, rfl, ⟨hm, hm2⟩, _, rfl, D.dk, _, 2, 2, rfl, rfl, upd_same, rfl, _, rfl, .inl ⟨_, rfl, _, rfl, _, _, rfl, rfl, hm, ?_⟩⟩
      rw [upd_upd, upd_upd]
      exact q _ _ (mod0 _).1 (mod0 _).2 (put _ _ _ (by omega))
    · refine ⟨_, rfl, D.dk, _, _, _, rfl, rfl, SqL.of upd_same, at_3, _, _, rfl, rfl, .inr (big _ (.inl rfl)), _, rfl, _, _, rfl, rfl, .inr (big _ (.inr (.inl rfl))), _, _, rfl, rfl, _, rfl, D.dk, _, _, _, rfl, rfl, SqL.of upd_same, at_1, _, _, rfl, rfl, .inr (big _ (.inr (.inr rfl))), _, _, rfl, rfl, .inl ⟨_, rfl, _, _, rfl, rfl, (by show (0 : Int) < 2147483647; decide), _, rfl, D.dk, _, 3, 3, rfl, rfl, upd_same, rfl, ?_⟩⟩
      refine ⟨_, rfl, D.dk, _, _, _, rfl, rfl, SqL.of upd_same, at_3, _, _, rfl, rfl, .inr (big _ (.inl rfl)), _, _, rfl, rfl, .inl ⟨_, rfl, _, _, rfl, rfl, (by show (0 : Int) < 2147483647; decide), _, rfl, D.dk, _, 3, 3, rfl, rfl, upd_same, rfl, ?_⟩⟩
      refine ⟨_, rfl, D.dk, _, _, _, rfl, rfl, SqL.of upd_same, at_3, _, _, rfl, rfl, ⟨by decide, by decide⟩, .inl ⟨_, rfl, _, rfl, _, _, rfl, rfl, hm, ?_⟩⟩
      rw [upd_upd, upd_upd, upd_upd]
      exact q _ _ (mod0 _).1 (mod0 _).2 (put _ _ _ (by omega))
end Sk

/-! Sk: the law's ways. -/
namespace Sk
open PySem L2 PySem.Spec PyProof.Rows
variable {P : Program} {w : World} {K : PySem.W.Frag} {mg : Str → Option Value} {base : Heap}

/-- the heap without the thing at f -/
def ex (f : Addr) (H : Hp) : Hp := fun b => if b = f then none else H b
theorem ex_at {f b : Addr} {H : Hp} (h : b ≠ f) : ex f H b = H b := if_neg h
theorem ex_sub {f : Addr} {H : Hp} : Same (ex f H) H := fun b o h => by
  by_cases e : b = f
  · rw [e] at h; simp [ex] at h
  · rw [ex_at e] at h; exact h
theorem ex_same {f : Addr} {H H' : Hp} (e : Same H H') : Same (ex f H) (ex f H') := fun b o h => by
  by_cases z : b = f
  · rw [z] at h; simp [ex] at h
  · rw [ex_at z] at h ⊢; exact e b o h
theorem ex_put {D : Dk} {f : Addr} {H : Hp} {o : HO} : ex f (wo D (upd H f o)) = ex f (wo D H) := by
  funext b
  by_cases z : b = f
  · simp [ex, z]
  · rw [ex_at z, ex_at z]
    unfold wo
    by_cases y : b = D.dk
    · rw [if_pos y, if_pos y]
    · rw [if_neg y, if_neg y, upd_ne z]
def rowOk (n : Nat) (r : List Int) : Prop := r.length = n ∧ ∀ x ∈ r, -1 ≤ x ∧ x < n
theorem range_ok (n : Nat) (h : 2 ≤ n) (x : Int) (hx : x = -1 ∨ x = 0) : rowOk n (((List.range (n - 1)).map fun j : Nat => (j : Int) + 1) ++ [x]) := by
  refine ⟨by simp; omega, fun y hy => ?_⟩
  rcases List.mem_append.mp hy with z | z
  · obtain ⟨j, hj, rfl⟩ := List.mem_map.mp z
    have := List.mem_range.mp hj
    omega
  · rw [List.mem_singleton.mp z]; omega
theorem range_ok2 (n : Nat) (h : 2 ≤ n) : rowOk n ((-1 : Int) :: ((List.range (n - 1)).map fun j : Nat => (j : Int))) := by
  refine ⟨by simp; omega, fun y hy => ?_⟩
  rcases List.mem_cons.mp hy with z | z
  · omega
  · obtain ⟨j, hj, rfl⟩ := List.mem_map.mp z
    have := List.mem_range.mp hj
    omega
def sp_ways (K : PySem.W.Frag) : Sp := fun vs H Q _ => ∃ (D : Dk) (n : Nat), vs = [.ref D.dk, .int n] ∧ Deck D H ∧ 2 ≤ n ∧ n ≤ 5 ∧
  ∀ l xs ways H', Dw D H H' → H l = none → H' l = some (.lst xs) → All2 (WayR K (wo D H')) xs ways → 1 ≤ ways.length → ways.length ≤ 3 → (∀ r ∈ ways, rowOk n r) → Q (.ref l) H'
theorem ok_L_ways (T : Top K mg) : FnOk P w K mg base CX0 2 T.L_ways.a T.L_ways.fd P_L_ways (sp_ways K) := by
  refine T.L_ways.F.ok sc_L_ways (fun vs H Q E h => ?_) (fun cdv A outer s H vs Q E hr hh => ?_)
  · obtain ⟨_, _, rfl, _⟩ := h; rfl
  obtain ⟨D, n, rfl, dk, n2, n5, q⟩ := hh
  have nd := sc_L_ways.nd
  refine ⟨_, (pss_cons (ps_set (i := 2) nd rfl (Or.inl rfl) (pe_lst pa_nil))
    (pss_cons (ps_for PassesOwn.never rfl (pi_range1 rfl T.z_range (pa_cons (pe_op op_add pe_int (pe_call (ok_L_draw T) (hr.mono (by decide)) rfl T.L_draw.m T.L_draw.k T.L_draw.b .nil pass0 (pa_cons (pv 0) (pa_cons pe_int pa_nil)))) pa_nil)) (pg_name (i := 3) nd rfl (Or.inl rfl))
      (pss_cons (ps_set (i := 4) nd rfl (Or.inl rfl) (pe_call (ok_L_draw T) (hr.mono (by decide)) rfl T.L_draw.m T.L_draw.k T.L_draw.b .nil pass0 (pa_cons (pv 0) (pa_cons pe_int pa_nil))))
      (pss_cons (ps_set (i := 5) nd rfl (Or.inl rfl) (pe_op op_cat (pe_lc (own := [("_law_j", 6)]) (g := gName 6) (tt := tYes) rfl nd (pi_range1 rfl T.z_range (pa_cons (pe_op op_sub (pv 1) pe_int) pa_nil)) (blkOk_by (N := N_L_ways) (sc := defScope s_L_ways) (by decide +kernel)) (fun _ _ _ _ _ => (pg_name (i := 6) nd rfl (Or.inl rfl))) (fun _ _ _ _ _ => pts_nil) (fun _ _ _ _ _ => (pe_op op_add (pv 6) pe_int))) (pe_lst (pa_cons (pe_ix ix_list (pe_lst (pa_cons (pe_un un_neg pe_int) (pa_cons pe_int pa_nil))) (pe_call (ok_L_draw T) (hr.mono (by decide)) rfl T.L_draw.m T.L_draw.k T.L_draw.b .nil pass0 (pa_cons (pv 0) (pa_cons pe_int pa_nil))) (fun _ _ => rfl)) pa_nil))))
      (pss_cons (ps_if (pt_cmpR op_eq (pv 4) pe_int (nomark _))
        (pss_one (ps_set (i := 5) nd rfl (Or.inl rfl) (pe_op op_cat (pe_lst (pa_cons (pe_un un_neg pe_int) pa_nil)) (pe_lc (own := [("_law_j", 6)]) (g := gName 6) (tt := tYes) rfl nd (pi_range1 rfl T.z_range (pa_cons (pe_op op_sub (pv 1) pe_int) pa_nil)) (blkOk_by (N := N_L_ways) (sc := defScope s_L_ways) (by decide +kernel)) (fun _ _ _ _ _ => (pg_name (i := 6) nd rfl (Or.inl rfl))) (fun _ _ _ _ _ => pts_nil) (fun _ _ _ _ _ => (pv 6))))))
        pss_nil)
      (pss_cons (ps_if (pt_cmpR op_gt (pv 4) pe_int (nomark _))
        (pss_one (ps_setLc (i := 5) (own := [("_law_j", 6)]) (g := gName 6) (tt := tYes) rfl nd rfl rfl (sw_true rfl rfl rfl (by decide +kernel)) (pi_range1 rfl T.z_range (pa_cons (pv 1) pa_nil)) (blkOk_by (N := N_L_ways) (sc := defScope s_L_ways) (by decide +kernel)) (fun _ _ _ _ _ => (pg_name (i := 6) nd rfl (Or.inl rfl))) (fun _ _ _ _ _ => pts_nil) (fun _ _ _ _ _ => (pe_op op_sub (pe_call (ok_L_draw T) (hr.mono (by decide)) rfl T.L_draw.m T.L_draw.k T.L_draw.b .nil pass0 (pa_cons (pv 0) (pa_cons (pe_op op_add (pv 1) pe_int) pa_nil))) pe_int))))
        pss_nil)
      (pss_one (ps_expr (pe_bm PySem.F.plainAttrs_list PySem.F.slot_list_append PySem.F.type_list_append mt_append (pv 2) (pa_cons (pe_tup (pa_cons (pe_ix ix_list (pe_lst (pa_cons pe_str (pa_cons pe_str (pa_cons pe_str (pa_cons pe_str pa_nil))))) (pv 3) (fun _ _ => rfl)) (pa_cons (pv 5) pa_nil))) pa_nil)))))))))
    (pss_one (ps_ret (pv 2))))), ?_⟩
  refine ⟨(by decide : 0 ≤ sizeLine), fun f hf => ?_⟩
  have w0 : Dw D H (upd H f (.lst [])) := Dw.new dk hf
  have fd := dk.new hf
  refine ⟨_, rfl, D, 3, rfl, w0.dk, by decide, by decide, fun v H1 v0 v1 w1 => ⟨_, _, rfl, rfl, 1 + v, rfl, by omega, by omega, ?_⟩⟩
  have hf1 : H1 f = some (.lst []) := w1.at_ fd upd_same
  refine for_range (lo := 0) (n := (1 + v).toNat) (fun i σ H2 => ∃ xs ways x3 x4 x5 x6, σ = [some (.ref D.dk), some (.int n), some (.ref f), x3, x4, x5, x6] ∧ Dw D H H2 ∧ H2 f = some (.lst xs) ∧ All2 (WayR K (ex f (wo D H2))) xs ways ∧ ways.length = i ∧ ∀ r ∈ ways, rowOk n r)
    ⟨[], [], _, _, _, _, rfl, w0.trans w1, hf1, .nil, rfl, fun r h => nomatch h⟩ (fun i σ H2 hi hP => ?_) (fun σ H2 hP => ?_)
  · obtain ⟨xs, ways, x3, x4, x5, x6, rfl, w2, hf2, a2, l2, r2⟩ := hP
    have hi3 : i < 3 := by omega
    refine ⟨_, rfl, D, 4, rfl, w2.dk, by decide, by decide, fun kind H3 k0 k1 w3 => ?_⟩
    -- the first row
    have en : ((n : Int) - 1).toNat = n - 1 := by omega
    refine ⟨_, rfl, _, _, rfl, rfl, (n : Int) - 1, rfl, by omega, by omega, fun a1 ha1 => ?_⟩
    refine lc_range (lo := 0) (n := ((n : Int) - 1).toNat) (fun j H4 => H4 = upd H3 a1 (.lst (((List.range j).map fun j : Nat => (j : Int) + 1).map V.int))) rfl (fun j H4 hj hP => ?_) (fun H4 hP => ?_)
    · subst hP
      refine ⟨rfl, _, rfl, _, _, rfl, rfl, _, upd_same, big' (by simp; omega), ?_⟩
      rw [upd_upd, List.range_succ, List.map_append, List.map_append]
      have e0 : (0 : Int) + (j : Int) + 1 = (j : Int) + 1 := by omega
      show upd H3 a1 (.lst (_ ++ [V.int (0 + (j : Int) + 1)])) = _
      rw [e0]
      rfl
    subst hP
    rw [en]
    have c4 : Dw D H2 (upd H3 a1 (.lst (((List.range (n - 1)).map fun j : Nat => (j : Int) + 1).map V.int))) := w3.trans (Dw.new w3.dk ha1)
    have z2 : 2 ≤ sizeLine := by decide
    have z1 : 1 ≤ sizeLine := by decide
    refine ⟨_, rfl, z2, fun b1 hb1 => ?_⟩
    have c5 := c4.trans (Dw.new c4.dk (o := .lst [.int (-1), .int 0]) hb1)
    have a1d : a1 ≠ D.dk := w3.dk.new ha1
    have a1b : a1 ≠ b1 := ne_of_none (show upd H3 a1 _ a1 = some _ from upd_same) hb1
    have b1d : b1 ≠ D.dk := c4.dk.new hb1
    refine ⟨_, rfl, D, 2, rfl, c5.dk, by decide, by decide, fun x H6 x0 x1 w6 => ?_⟩
    have hb6 : H6 b1 = some (.lst [.int (-1), .int 0]) := w6.at_ b1d upd_same
    have hx : ∃ y : Int, (y = -1 ∨ y = 0) ∧ atI [V.int (-1), V.int 0] x = some (.int y) := by
      have : x = 0 ∨ x = 1 := by omega
      rcases this with z | z <;> subst z
      · exact ⟨-1, .inl rfl, at_0⟩
      · exact ⟨0, .inr rfl, at_1⟩
    obtain ⟨y, hy, hxy⟩ := hx
    refine ⟨b1, _, _, _, rfl, rfl, SqL.of hb6, hxy, z1, fun c1 hc1 => ?_⟩
    have c6 := c5.trans w6
    have c7 := c6.trans (Dw.new c6.dk (o := .lst [.int y]) hc1)
    have ha7 : upd H6 c1 (.lst [.int y]) a1 = some (.lst (((List.range (n - 1)).map fun j : Nat => (j : Int) + 1).map V.int)) := (Dw.new c6.dk (o := .lst [.int y]) hc1).at_ a1d (w6.at_ a1d (by rw [upd_ne a1b]; exact upd_same))
    refine ⟨a1, c1, _, _, rfl, rfl, ha7, upd_same, big (by simp; omega), fun r hr => ?_⟩
    have c8 := c7.trans (Dw.new c7.dk (o := .lst ((((List.range (n - 1)).map fun j : Nat => (j : Int) + 1).map V.int) ++ [.int y])) hr)
    have rd : r ≠ D.dk := c7.dk.new hr
    have hr8 : upd (upd H6 c1 (.lst [.int y])) r (.lst ((((List.range (n - 1)).map fun j : Nat => (j : Int) + 1).map V.int) ++ [.int y])) r = some (.lst ((((List.range (n - 1)).map fun j : Nat => (j : Int) + 1) ++ [y]).map V.int)) := by rw [upd_same, List.map_append]; rfl
    have ok8 := range_ok n n2 y hy
    have rf8 : r ≠ f := (ne_of_none (c7.at_ fd hf2) hr).symm
    generalize upd (upd H6 c1 (.lst [.int y])) r (.lst ((((List.range (n - 1)).map fun j : Nat => (j : Int) + 1).map V.int) ++ [.int y])) = H8 at c8 hr8
    generalize ((List.range (n - 1)).map fun j : Nat => (j : Int) + 1) ++ [y] = row at hr8 ok8
    clear hxy ha7 hb6 hr c7 c6 w6 c5 c4
    refine ⟨_, rfl, rfl, _, rfl, ite2 (fun k => ?_) (fun k => ?_)⟩
    · -- the second kind of row
      clear hr8 ok8 rf8 rd
      refine ⟨_, rfl, (by decide : 1 ≤ sizeLine), fun b2 hb2 => ?_⟩
      have c9 := c8.trans (Dw.new c8.dk (o := .lst [.int (-1)]) hb2)
      have b2d : b2 ≠ D.dk := c8.dk.new hb2
      refine ⟨_, rfl, _, _, rfl, rfl, (n : Int) - 1, rfl, by omega, by omega, fun a2' ha2 => ?_⟩
      have b2a : b2 ≠ a2' := ne_of_none (show upd H8 b2 _ b2 = some _ from upd_same) ha2
      refine lc_range (lo := 0) (n := ((n : Int) - 1).toNat) (fun j H4 => H4 = upd (upd H8 b2 (.lst [.int (-1)])) a2' (.lst (((List.range j).map fun j : Nat => (j : Int)).map V.int))) rfl (fun j H4 hj hP => ?_) (fun H4 hP => ?_)
      · subst hP
        refine ⟨rfl, _, rfl, _, upd_same, big' (by simp; omega), ?_⟩
        rw [upd_upd, List.range_succ, List.map_append, List.map_append]
        have e0 : (0 : Int) + (j : Int) = (j : Int) := by omega
        show upd _ a2' (.lst (_ ++ [V.int (0 + (j : Int))])) = _
        rw [e0]
        rfl
      subst hP
      rw [en]
      have c10 := c9.trans (Dw.new c9.dk (o := .lst (((List.range (n - 1)).map fun j : Nat => (j : Int)).map V.int)) ha2)
      refine ⟨b2, a2', _, _, rfl, rfl, by rw [upd_ne b2a]; exact upd_same, upd_same, big (by simp; omega), fun r hr => ?_⟩
      have c11 := c10.trans (Dw.new c10.dk (o := .lst ([.int (-1)] ++ ((List.range (n - 1)).map fun j : Nat => (j : Int)).map V.int)) hr)
      have rd : r ≠ D.dk := c10.dk.new hr
      have hr8 : upd (upd (upd H8 b2 (.lst [.int (-1)])) a2' (.lst (((List.range (n - 1)).map fun j : Nat => (j : Int)).map V.int))) r (.lst ([.int (-1)] ++ ((List.range (n - 1)).map fun j : Nat => (j : Int)).map V.int)) r = some (.lst (((-1 : Int) :: ((List.range (n - 1)).map fun j : Nat => (j : Int))).map V.int)) := by rw [upd_same]; rfl
      have ok8 := range_ok2 n n2
      have rf8 : r ≠ f := (ne_of_none (c10.at_ fd hf2) hr).symm
      generalize upd (upd (upd H8 b2 (.lst [.int (-1)])) a2' (.lst (((List.range (n - 1)).map fun j : Nat => (j : Int)).map V.int))) r (.lst ([.int (-1)] ++ ((List.range (n - 1)).map fun j : Nat => (j : Int)).map V.int)) = H12 at c11 hr8
      generalize (-1 : Int) :: ((List.range (n - 1)).map fun j : Nat => (j : Int)) = row at hr8 ok8
      have k1 : kind = 1 := by simpa using k
      refine ⟨_, rfl, _, _, rfl, rfl, _, rfl, ite2 (fun k => absurd (of_decide_eq_true k) (by omega)) (fun _ => ?_)⟩
      refine ⟨_, rfl, .inl ⟨rfl, _, SqL.of (c11.at_ fd hf2)⟩, (by decide : 4 ≤ sizeLine), fun s1 hs1 => ⟨_, rfl, ?_⟩⟩
      have d1 := c11.trans (Dw.new c11.dk (o := .lst [.str (Str.ofString "east"), .str (Str.ofString "west"), .str (Str.ofString "up"), .str (Str.ofString "down")]) hs1)
      obtain ⟨nm, hnm⟩ : ∃ nm : Str, atI [V.str (Str.ofString "east"), V.str (Str.ofString "west"), V.str (Str.ofString "up"), V.str (Str.ofString "down")] (0 + (i : Int)) = some (.str nm) := by
        have : i = 0 ∨ i = 1 ∨ i = 2 := by omega
        rcases this with z | z | z <;> subst z
        · exact ⟨_, at_0⟩
        · exact ⟨_, at_1⟩
        · exact ⟨_, at_2⟩
      refine ⟨s1, _, _, _, rfl, rfl, SqL.of upd_same, hnm, _, rfl, (by decide : 2 ≤ sizeLine), fun t ht => ?_⟩
      have d2 := d1.trans (Dw.new d1.dk (o := .tup [.str nm, .ref r]) ht)
      have rs : r ≠ s1 := ne_of_none hr8 hs1
      have hr9 : upd _ s1 (.lst [.str (Str.ofString "east"), .str (Str.ofString "west"), .str (Str.ofString "up"), .str (Str.ofString "down")]) r = some (.lst (row.map V.int)) := (upd_ne rs).trans hr8
      have rt : r ≠ t := ne_of_none hr9 ht
      have tf : t ≠ f := (ne_of_none (d1.at_ fd hf2) ht).symm
      have td : t ≠ D.dk := d1.dk.new ht
      refine ⟨f, xs, _, rfl, rfl, d2.at_ fd hf2, big' (by have := a2.length; omega), ?_⟩
      refine ⟨_, ways ++ [row], _, _, _, _, rfl, (w2.trans d2).mut dk hf, upd_same, ?_, by simp [l2], fun z hz => ?_⟩
      · rw [ex_put]
        refine (a2.mono fun _ _ z => z.same (ex_same d2.same)).snoc ⟨t, r, nm, rfl, SqT.of ?_, SqL.of ?_⟩
        · rw [ex_at tf, wo_at td]; exact upd_same
        · rw [ex_at rf8, wo_at rd, upd_ne rt]; exact hr9
      · rcases List.mem_append.mp hz with a | a
        · exact r2 z a
        · rw [List.mem_singleton.mp a]; exact ok8
    · refine ⟨_, rfl, _, _, rfl, rfl, _, rfl, ite2 (fun k2 => ?_) (fun k2 => ?_)⟩
      · clear hr8 ok8 rf8 rd
        refine ⟨_, rfl, (n : Int), rfl, by omega, by omega, fun a3 ha3 => ?_⟩
        have a3d : a3 ≠ D.dk := c8.dk.new ha3
        refine lc_range (lo := 0) (n := ((n : Int)).toNat) (fun j H4 => ∃ acc : List Int, Dw D H8 H4 ∧ H4 a3 = some (.lst (acc.map V.int)) ∧ acc.length = j ∧ ∀ x ∈ acc, -1 ≤ x ∧ x < n) ⟨[], Dw.new c8.dk ha3, upd_same, rfl, fun x h => nomatch h⟩ (fun j H4 hj hP => ?_) (fun H4 hP => ?_)
        · obtain ⟨acc, w4, h4, l4, r4⟩ := hP
          refine ⟨rfl, _, rfl, _, rfl, _, _, rfl, rfl, D, (n : Int) + 1, rfl, w4.dk, by omega, by omega, fun x H5 x0 x1 w5 => ⟨_, _, rfl, rfl, _, w5.at_ a3d h4, big' (by rw [List.length_map]; omega), acc ++ [x - 1], (w4.trans w5).mut c8.dk ha3, ?_, by simp [l4], fun z hz => ?_⟩⟩
          · rw [upd_same, List.map_append]; rfl
          · rcases List.mem_append.mp hz with a | a
            · exact r4 z a
            · rw [List.mem_singleton.mp a]; omega
        obtain ⟨row, w4, hr8, l4, r4⟩ := hP
        have c11 := c8.trans w4
        have ok8 : rowOk n row := ⟨by rw [l4]; omega, r4⟩
        have rd := a3d
        have rf8 : a3 ≠ f := (ne_of_none (c8.at_ fd hf2) ha3).symm
        generalize a3 = r at hr8 rd rf8
        refine ⟨_, rfl, .inl ⟨rfl, _, SqL.of (c11.at_ fd hf2)⟩, (by decide : 4 ≤ sizeLine), fun s1 hs1 => ⟨_, rfl, ?_⟩⟩
        have d1 := c11.trans (Dw.new c11.dk (o := .lst [.str (Str.ofString "east"), .str (Str.ofString "west"), .str (Str.ofString "up"), .str (Str.ofString "down")]) hs1)
        obtain ⟨nm, hnm⟩ : ∃ nm : Str, atI [V.str (Str.ofString "east"), V.str (Str.ofString "west"), V.str (Str.ofString "up"), V.str (Str.ofString "down")] (0 + (i : Int)) = some (.str nm) := by
          have : i = 0 ∨ i = 1 ∨ i = 2 := by omega
          rcases this with z | z | z <;> subst z
          · exact ⟨_, at_0⟩
          · exact ⟨_, at_1⟩
          · exact ⟨_, at_2⟩
        refine ⟨s1, _, _, _, rfl, rfl, SqL.of upd_same, hnm, _, rfl, (by decide : 2 ≤ sizeLine), fun t ht => ?_⟩
        have d2 := d1.trans (Dw.new d1.dk (o := .tup [.str nm, .ref r]) ht)
        have rs : r ≠ s1 := ne_of_none hr8 hs1
        have hr9 : upd _ s1 (.lst [.str (Str.ofString "east"), .str (Str.ofString "west"), .str (Str.ofString "up"), .str (Str.ofString "down")]) r = some (.lst (row.map V.int)) := (upd_ne rs).trans hr8
        have rt : r ≠ t := ne_of_none hr9 ht
        have tf : t ≠ f := (ne_of_none (d1.at_ fd hf2) ht).symm
        have td : t ≠ D.dk := d1.dk.new ht
        refine ⟨f, xs, _, rfl, rfl, d2.at_ fd hf2, big' (by have := a2.length; omega), ?_⟩
        refine ⟨_, ways ++ [row], _, _, _, _, rfl, (w2.trans d2).mut dk hf, upd_same, ?_, by simp [l2], fun z hz => ?_⟩
        · rw [ex_put]
          refine (a2.mono fun _ _ z => z.same (ex_same d2.same)).snoc ⟨t, r, nm, rfl, SqT.of ?_, SqL.of ?_⟩
          · rw [ex_at tf, wo_at td]; exact upd_same
          · rw [ex_at rf8, wo_at rd, upd_ne rt]; exact hr9
        · rcases List.mem_append.mp hz with a | a
          · exact r2 z a
          · rw [List.mem_singleton.mp a]; exact ok8
      · refine ⟨_, rfl, .inl ⟨rfl, _, SqL.of (c8.at_ fd hf2)⟩, (by decide : 4 ≤ sizeLine), fun s1 hs1 => ⟨_, rfl, ?_⟩⟩
        have d1 := c8.trans (Dw.new c8.dk (o := .lst [.str (Str.ofString "east"), .str (Str.ofString "west"), .str (Str.ofString "up"), .str (Str.ofString "down")]) hs1)
        obtain ⟨nm, hnm⟩ : ∃ nm : Str, atI [V.str (Str.ofString "east"), V.str (Str.ofString "west"), V.str (Str.ofString "up"), V.str (Str.ofString "down")] (0 + (i : Int)) = some (.str nm) := by
          have : i = 0 ∨ i = 1 ∨ i = 2 := by omega
          rcases this with z | z | z <;> subst z
          · exact ⟨_, at_0⟩
          · exact ⟨_, at_1⟩
          · exact ⟨_, at_2⟩
        refine ⟨s1, _, _, _, rfl, rfl, SqL.of upd_same, hnm, _, rfl, (by decide : 2 ≤ sizeLine), fun t ht => ?_⟩
        have d2 := d1.trans (Dw.new d1.dk (o := .tup [.str nm, .ref r]) ht)
        have rs : r ≠ s1 := ne_of_none hr8 hs1
        have hr9 : upd _ s1 (.lst [.str (Str.ofString "east"), .str (Str.ofString "west"), .str (Str.ofString "up"), .str (Str.ofString "down")]) r = some (.lst (row.map V.int)) := (upd_ne rs).trans hr8
        have rt : r ≠ t := ne_of_none hr9 ht
        have tf : t ≠ f := (ne_of_none (d1.at_ fd hf2) ht).symm
        have td : t ≠ D.dk := d1.dk.new ht
        refine ⟨f, xs, _, rfl, rfl, d2.at_ fd hf2, big' (by have := a2.length; omega), ?_⟩
        refine ⟨_, ways ++ [row], _, _, _, _, rfl, (w2.trans d2).mut dk hf, upd_same, ?_, by simp [l2], fun z hz => ?_⟩
        · rw [ex_put]
          refine (a2.mono fun _ _ z => z.same (ex_same d2.same)).snoc ⟨t, r, nm, rfl, SqT.of ?_, SqL.of ?_⟩
          · rw [ex_at tf, wo_at td]; exact upd_same
          · rw [ex_at rf8, wo_at rd, upd_ne rt]; exact hr9
        · rcases List.mem_append.mp hz with a | a
          · exact r2 z a
          · rw [List.mem_singleton.mp a]; exact ok8
  · obtain ⟨xs, ways, x3, x4, x5, x6, rfl, w2, hf2, a2, l2, r2⟩ := hP
    exact ⟨_, rfl, q f xs ways H2 w2 hf hf2 (a2.mono fun _ _ z => z.same ex_sub) (by omega) (by omega) r2⟩
end Sk

/-! Sk: the law's programs. -/
namespace Sk
open PySem L2 PySem.Spec PyProof.Rows
variable {P : Program} {w : World} {K : PySem.W.Frag} {mg : Str → Option Value} {base : Heap}

/-- what is new since H0 -/
def nw (H0 H : Hp) : Hp := fun b => if H0 b = none then H b else none
theorem nw_at {H0 H : Hp} {b : Addr} (h : H0 b = none) : nw H0 H b = H b := if_pos h
theorem nw_in {H0 H : Hp} {b : Addr} {o : HO} (h : nw H0 H b = some o) : H0 b = none ∧ H b = some o := by
  unfold nw at h
  by_cases c : H0 b = none
  · rw [if_pos c] at h; exact ⟨c, h⟩
  · rw [if_neg c] at h; cases h
section
variable {D : Dk} {H0 H H' : Hp} {v : V} {p : Pg} {t l : Addr} {ps : List Pg} {vs : List V}
theorem nw_same (dk0 : Deck D H0) (a : Dw D H H') : Same (nw H0 H) (nw H0 H') := fun b o h => by
  obtain ⟨h1, h2⟩ := nw_in h
  rw [nw_at h1]
  exact a.at_ (dk0.new h1) h2
theorem nw_wo (dk0 : Deck D H0) : Same (nw H0 H) (wo D H) := fun b o h => by
  obtain ⟨h1, h2⟩ := nw_in h
  rw [wo_at (dk0.new h1)]
  exact h2
theorem Deck.pg (dk0 : Deck D H0) (a : Dw D H H') (h : PgR K (nw H0 H) v p) : PgR K (nw H0 H') v p := h.same (nw_same dk0 a) _ _
theorem Deck.pgs (dk0 : Deck D H0) (a : Dw D H H') (h : PgRs K (nw H0 H) vs ps) : PgRs K (nw H0 H') vs ps := h.same (nw_same dk0 a) _ _
theorem nw_new (dk0 : Deck D H0) (c : Dw D H0 H) {o : HO} (ht : H t = none) : nw H0 (upd H t o) t = some o := by rw [nw_at (c.free dk0 ht)]; exact upd_same
theorem mk_one (dk0 : Deck D H0) (c : Dw D H0 H) (ht : H t = none) (hp : p = .empty ∨ p = .own ∨ p = .foe ∨ p = .take ∨ p = .rest) : PgR K (nw H0 (upd H t (.tup [.str p.word]))) (.ref t) p := .one (SqT.of (nw_new dk0 c ht)) hp
theorem mk_go (dk0 : Deck D H0) (c : Dw D H0 H) (ht : H t = none) {d : Int} : PgR K (nw H0 (upd H t (.tup [.str wGo, .int d]))) (.ref t) (.go d) := .go (SqT.of (nw_new dk0 c ht))
theorem mk_lay (dk0 : Deck D H0) (c : Dw D H0 H) (ht : H t = none) {d : Int} : PgR K (nw H0 (upd H t (.tup [.str wLay, .int d]))) (.ref t) (.lay d) := .lay (SqT.of (nw_new dk0 c ht))
theorem mk_kin (dk0 : Deck D H0) (c : Dw D H0 H) (ht : H t = none) {d : Int} : PgR K (nw H0 (upd H t (.tup [.str wAt, .int d]))) (.ref t) (.kin d) := .kin (SqT.of (nw_new dk0 c ht))
theorem mk_row (dk0 : Deck D H0) (c : Dw D H0 H) (ht : H t = none) (hl : H l = some (.lst vs)) (l0 : H0 l = none) (hp : PgRs K (nw H0 H) vs ps) : PgR K (nw H0 (upd H t (.tup [.str wRow, .ref l]))) (.ref t) (.row ps) := by
  have e := Dw.new c.dk (o := .tup [.str wRow, .ref l]) ht
  exact .row (SqT.of (nw_new dk0 c ht)) (SqL.of (by rw [nw_at l0]; exact e.at_ (dk0.new l0) hl)) (dk0.pgs e hp)
theorem mk_either (dk0 : Deck D H0) (c : Dw D H0 H) (ht : H t = none) (hl : H l = some (.lst vs)) (l0 : H0 l = none) (hp : PgRs K (nw H0 H) vs ps) : PgR K (nw H0 (upd H t (.tup [.str wEither, .ref l]))) (.ref t) (.either ps) := by
  have e := Dw.new c.dk (o := .tup [.str wEither, .ref l]) ht
  exact .either (SqT.of (nw_new dk0 c ht)) (SqL.of (by rw [nw_at l0]; exact e.at_ (dk0.new l0) hl)) (dk0.pgs e hp)
theorem mk_any (dk0 : Deck D H0) (c : Dw D H0 H) (ht : H t = none) (hp : PgR K (nw H0 H) v p) : PgR K (nw H0 (upd H t (.tup [.str wAny, v]))) (.ref t) (.any p) := by
  have e := Dw.new c.dk (o := .tup [.str wAny, v]) ht
  exact .any (SqT.of (nw_new dk0 c ht)) (dk0.pg e hp)
/-- what is new since a later heap is new since H0, and it is not at a -/
theorem nw_later (dk0 : Deck D H0) (c : Dw D H0 H) {a : Addr} {o : HO} (ha : H a = some o) : Same (nw H H') (ex a (nw H0 H')) := fun b u h => by
  obtain ⟨h1, h2⟩ := nw_in h
  rw [ex_at (ne_of_none ha h1).symm, nw_at (c.free dk0 h1)]
  exact h2
theorem nw_later' (dk0 : Deck D H0) (c : Dw D H0 H) : Same (nw H H') (nw H0 H') := fun b u h => by
  obtain ⟨h1, h2⟩ := nw_in h
  rw [nw_at (c.free dk0 h1)]
  exact h2
theorem ex_nw {a : Addr} {o : HO} : ex a (nw H0 (upd H a o)) = ex a (nw H0 H) := by
  funext b
  by_cases z : b = a
  · simp [ex, z]
  · rw [ex_at z, ex_at z]
    unfold nw
    by_cases y : H0 b = none
    · rw [if_pos y, if_pos y, upd_ne z]
    · rw [if_neg y, if_neg y]
end
def lim : Nat → Nat
  | 0 => 1
  | d + 1 => max 5 (3 * lim d)
theorem lim_pos : ∀ d, 1 ≤ lim d
  | 0 => Nat.le_refl _
  | d + 1 => by unfold lim; omega
theorem cnt_mul1 {p q : Pg} (h : q.cnt = 1) : cntR [p, q] = p.cnt := by
  show p.cnt * (q.cnt * 1) = p.cnt
  rw [h]
  omega
def sp_program (K : PySem.W.Frag) (n : Nat) : Sp := fun vs H Q _ => ∃ (D : Dk) (G : GD) (d : Nat), vs = [.ref D.dk, .int G.ways.length, .int G.kd, .int d] ∧ Deck D H ∧ 1 ≤ G.ways.length ∧ G.ways.length ≤ 3 ∧ 1 ≤ G.kd ∧ G.kd ≤ 2 ∧ d < n ∧
  ∀ v p H', Dw D H H' → PgR K (nw H H') v p → p.ok G → p.cnt ≤ lim d → p.hgt ≤ 3 + d → Q v H'
theorem step_program (T : Top K mg) {k n : Nat} (hk : 1 ≤ k) (Gp : FnOk P w K mg base CX0 k T.L_program.a T.L_program.fd P_L_program (sp_program K n)) : FnOk P w K mg base CX0 (k + 1) T.L_program.a T.L_program.fd P_L_program (sp_program K (n + 1)) := by
  refine T.L_program.F.ok sc_L_program (fun vs H Q E h => ?_) (fun cdv A outer s H vs Q E hr hh => ?_)
  · obtain ⟨_, _, _, rfl, _⟩ := h; rfl
  obtain ⟨D, G, d, rfl, dk, nw1, nw3, kd1, kd2, hd, q⟩ := hh
  have nd := sc_L_program.nd
  refine ⟨_, (pss_cons (ps_set (i := 4) nd rfl (Or.inl rfl) (pe_call (ok_L_draw T) (hr.mono (by omega)) rfl T.L_draw.m T.L_draw.k T.L_draw.b .nil pass0 (pa_cons (pv 0) (pa_cons pe_int pa_nil))))
    (pss_cons (ps_if (PW.pt (pw_or (pt_cmpR op_eq (pv 3) pe_int (nomark _)) (pw_or1 (pt_cmpR op_lt (pv 4) pe_int (nomark _)))))
      (pss_one (ps_ret (pe_tup (pa_cons pe_str (pa_cons (pe_call (ok_L_draw T) (hr.mono (by omega)) rfl T.L_draw.m T.L_draw.k T.L_draw.b .nil pass0 (pa_cons (pv 0) (pa_cons (pv 1) pa_nil))) pa_nil)))))
      pss_nil)
    (pss_cons (ps_if (pt_cmpR op_lt (pv 4) pe_int (nomark _))
      (pss_cons (ps_set (i := 5) nd rfl (Or.inl rfl) (pe_lst (pa_cons (pe_tup (pa_cons pe_str (pa_cons (pe_call (ok_L_draw T) (hr.mono (by omega)) rfl T.L_draw.m T.L_draw.k T.L_draw.b .nil pass0 (pa_cons (pv 0) (pa_cons (pv 1) pa_nil))) pa_nil))) (pa_cons (pe_ix ix_list (pe_lst (pa_cons (pe_tup (pa_cons pe_str pa_nil)) (pa_cons (pe_tup (pa_cons pe_str pa_nil)) (pa_cons (pe_tup (pa_cons pe_str pa_nil)) pa_nil)))) (pe_call (ok_L_draw T) (hr.mono (by omega)) rfl T.L_draw.m T.L_draw.k T.L_draw.b .nil pass0 (pa_cons (pv 0) (pa_cons pe_int pa_nil))) (fun _ _ => rfl)) pa_nil))))
      (pss_cons (ps_if (pt_cmpR op_eq (pe_call (ok_L_draw T) (hr.mono (by omega)) rfl T.L_draw.m T.L_draw.k T.L_draw.b .nil pass0 (pa_cons (pv 0) (pa_cons pe_int pa_nil))) pe_int (nomark _))
        (pss_one (ps_set (i := 5) nd rfl (Or.inl rfl) (pe_op op_cat (pv 5) (pe_lst (pa_cons (pe_tup (pa_cons pe_str (pa_cons (pe_lst (pa_cons (pe_tup (pa_cons pe_str pa_nil)) (pa_cons (pe_tup (pa_cons pe_str (pa_cons (pe_lst (pa_cons (pe_ix ix_list (pe_lst (pa_cons (pe_tup (pa_cons pe_str pa_nil)) (pa_cons (pe_tup (pa_cons pe_str pa_nil)) pa_nil))) (pe_callTy call_int1 rfl T.z_int (by decide +kernel) (pa_cons (pe_cmpR op_eq (pe_call (ok_L_draw T) (hr.mono (by omega)) rfl T.L_draw.m T.L_draw.k T.L_draw.b .nil pass0 (pa_cons (pv 0) (pa_cons pe_int pa_nil))) pe_int (nomark _)) pa_nil)) (fun _ _ => rfl)) (pa_cons (pe_tup (pa_cons pe_str pa_nil)) pa_nil))) pa_nil))) pa_nil))) pa_nil))) pa_nil)))))
        pss_nil)
      (pss_one (ps_ret (pe_tup (pa_cons pe_str (pa_cons (pv 5) pa_nil)))))))
      pss_nil)
    (pss_cons (ps_if (pt_cmpR op_lt (pv 4) pe_int (nomark _))
      (pss_one (ps_ret (pe_tup (pa_cons pe_str (pa_cons (pe_lc (own := [("_law_k", 6)]) (g := gName 6) (tt := tYes) rfl nd (pi_range1 rfl T.z_range (pa_cons (pe_op op_add (pe_call (ok_L_draw T) (hr.mono (by omega)) rfl T.L_draw.m T.L_draw.k T.L_draw.b .nil pass0 (pa_cons (pv 0) (pa_cons pe_int pa_nil))) pe_int) pa_nil)) (blkOk_by (N := N_L_program) (sc := defScope s_L_program) (by decide +kernel)) (fun _ _ _ _ _ => (pg_name (i := 6) nd rfl (Or.inl rfl))) (fun _ _ _ _ _ => pts_nil) (fun _ _ _ _ _ => (pe_call (Gp) (hr.mono (by omega)) rfl T.L_program.m T.L_program.k T.L_program.b .nil pass0 (pa_cons (pv 0) (pa_cons (pv 1) (pa_cons (pv 2) (pa_cons (pe_op op_sub (pv 3) pe_int) pa_nil))))))) pa_nil)))))
      pss_nil)
    (pss_cons (ps_if (pt_cmpR op_eq (pv 4) pe_int (nomark _))
      (pss_one (ps_ret (pe_tup (pa_cons pe_str (pa_cons (pe_tup (pa_cons pe_str (pa_cons (pe_lst (pa_cons (pe_tup (pa_cons pe_str (pa_cons (pe_call (ok_L_draw T) (hr.mono (by omega)) rfl T.L_draw.m T.L_draw.k T.L_draw.b .nil pass0 (pa_cons (pv 0) (pa_cons (pv 1) pa_nil))) pa_nil))) (pa_cons (pe_tup (pa_cons pe_str pa_nil)) pa_nil))) pa_nil))) pa_nil)))))
      pss_nil)
    (pss_cons (ps_if (pt_cmpR op_eq (pv 4) pe_int (nomark _))
      (pss_one (ps_ret (pe_tup (pa_cons pe_str (pa_cons (pe_lst (pa_cons (pe_call (Gp) (hr.mono (by omega)) rfl T.L_program.m T.L_program.k T.L_program.b .nil pass0 (pa_cons (pv 0) (pa_cons (pv 1) (pa_cons (pv 2) (pa_cons (pe_op op_sub (pv 3) pe_int) pa_nil))))) (pa_cons (pe_tup (pa_cons pe_str (pa_cons (pe_call (ok_L_draw T) (hr.mono (by omega)) rfl T.L_draw.m T.L_draw.k T.L_draw.b .nil pass0 (pa_cons (pv 0) (pa_cons (pv 2) pa_nil))) pa_nil))) pa_nil))) pa_nil)))))
      pss_nil)
    (pss_cons (ps_if (pt_cmpR op_eq (pv 4) pe_int (nomark _))
      (pss_one (ps_ret (pe_tup (pa_cons pe_str (pa_cons (pe_lst (pa_cons (pe_call (Gp) (hr.mono (by omega)) rfl T.L_program.m T.L_program.k T.L_program.b .nil pass0 (pa_cons (pv 0) (pa_cons (pv 1) (pa_cons (pv 2) (pa_cons (pe_op op_sub (pv 3) pe_int) pa_nil))))) (pa_cons (pe_tup (pa_cons pe_str (pa_cons (pe_call (ok_L_draw T) (hr.mono (by omega)) rfl T.L_draw.m T.L_draw.k T.L_draw.b .nil pass0 (pa_cons (pv 0) (pa_cons (pv 2) pa_nil))) pa_nil))) (pa_cons (pe_tup (pa_cons pe_str pa_nil)) pa_nil)))) pa_nil)))))
      pss_nil)
    (pss_one (ps_ret (pe_ix ix_list (pe_lst (pa_cons (pe_tup (pa_cons pe_str (pa_cons (pe_lst pa_nil) pa_nil))) (pa_cons (pe_tup (pa_cons pe_str pa_nil)) (pa_cons (pe_tup (pa_cons pe_str pa_nil)) (pa_cons (pe_tup (pa_cons pe_str (pa_cons (pe_lst (pa_cons (pe_tup (pa_cons pe_str (pa_cons pe_int pa_nil))) (pa_cons (pe_tup (pa_cons pe_str pa_nil)) (pa_cons (pe_tup (pa_cons pe_str (pa_cons pe_int pa_nil))) pa_nil)))) pa_nil))) pa_nil))))) (pe_call (ok_L_draw T) (hr.mono (by omega)) rfl T.L_draw.m T.L_draw.k T.L_draw.b .nil pass0 (pa_cons (pv 0) (pa_cons pe_int pa_nil))) (fun _ _ => rfl))))))))))), ?_⟩
  have z1 : 1 ≤ sizeLine := by decide
  have z2 : 2 ≤ sizeLine := by decide
  have z3 : 3 ≤ sizeLine := by decide
  have lp := lim_pos d
  refine ⟨_, rfl, D, 12, rfl, dk, by decide, by decide, fun kind H1 k0 k1 w1 => ?_⟩
  -- ('go', ..)
  have goL : ∀ {Qx : Prop}, True := fun {_} => trivial
  refine ⟨_, rfl, rfl, _, rfl, ite2 (fun c => ?_) (fun c => ?_)⟩
  · refine iteT ⟨_, rfl, _, rfl, D, _, rfl, w1.dk, by omega, by omega, fun x H2 x0 x1 w2 => ⟨z2, fun t ht => ?_⟩⟩
    have c2 := w1.trans w2
    exact q _ (.go x) _ (c2.trans (Dw.new c2.dk ht)) (mk_go dk c2 ht) ⟨x0, x1⟩ lp (by show 0 ≤ _; omega)
  have dne : ¬ d = 0 := fun z => c (by subst z; rfl)
  obtain ⟨d', rfl⟩ : ∃ d', d = d' + 1 := ⟨d - 1, by omega⟩
  have l5 : 5 ≤ lim (d' + 1) := by show 5 ≤ max 5 (3 * lim d'); omega
  have l3 : 3 * lim d' ≤ lim (d' + 1) := by show _ ≤ max 5 (3 * lim d'); omega
  have ed : ((d' + 1 : Nat) : Int) - 1 = (d' : Int) := by omega
  have ea : ([V.ref D.dk, V.int G.ways.length, V.int G.kd, V.int (((d' + 1 : Nat) : Int) - 1)] : List V) ++ [] = [V.ref D.dk, V.int G.ways.length, V.int G.kd, V.int d'] := by rw [ed]; rfl
  refine ⟨_, rfl, _, _, rfl, rfl, _, rfl, ite2 (fun c => ?_) (fun c => ?_)⟩
  · refine ⟨_, rfl, _, rfl, D, _, rfl, w1.dk, by omega, by omega, fun x H2 x0 x1 w2 => ⟨z2, fun t ht => ?_⟩⟩
    have c2 := w1.trans w2
    exact q _ (.go x) _ (c2.trans (Dw.new c2.dk ht)) (mk_go dk c2 ht) ⟨x0, x1⟩ lp (by show 0 ≤ _; omega)
  have kn : ¬ kind < 3 := fun z => c (decide_eq_true z)
  refine ⟨_, rfl, _, _, rfl, rfl, _, rfl, ite2 (fun c1 => ?_) (fun c1 => ?_)⟩
  · -- a row of two or three
    refine ⟨_, rfl, _, rfl, D, _, rfl, w1.dk, by omega, by omega, fun x H2 x0 x1 w2 => ⟨z2, fun t1 ht1 => ?_⟩⟩
    have c2 := w1.trans w2
    have p1 := mk_go (K := K) dk c2 ht1 (d := x)
    have c3 := c2.trans (Dw.new c2.dk (o := .tup [.str wGo, .int x]) ht1)
    refine ⟨z1, fun a ha => ⟨z1, fun b hb => ⟨z1, fun e he => ⟨z3, fun m hm => ?_⟩⟩⟩⟩
    have pa := mk_one (K := K) (p := .empty) dk c3 ha (.inl rfl)
    have s4 := Dw.new c3.dk (o := .tup [.str Pg.empty.word]) ha
    have c4 := c3.trans s4
    have pb := mk_one (K := K) (p := .rest) dk c4 hb (by simp)
    have s5 := Dw.new s4.dk (o := .tup [.str Pg.rest.word]) hb
    have c5 := c4.trans s5
    have pe := mk_one (K := K) (p := .foe) dk c5 he (by simp)
    have s6 := Dw.new s5.dk (o := .tup [.str Pg.foe.word]) he
    have c6 := c5.trans s6
    have s7 := Dw.new s6.dk (o := .lst [.ref a, .ref b, .ref e]) hm
    have md := s6.dk.new hm
    refine ⟨_, rfl, D, 3, rfl, s7.dk, by decide, by decide, fun y H8 y0 y1 w8 => ?_⟩
    have c8 := (c6.trans s7).trans w8
    have r8 := ((s4.trans s5).trans (s6.trans s7)).trans w8
    have hm8 : H8 m = some (.lst [.ref a, .ref b, .ref e]) := w8.at_ md upd_same
    obtain ⟨vy, py, hvy, hpy, hpk⟩ : ∃ vy py, atI [V.ref a, V.ref b, V.ref e] y = some vy ∧ PgR K (nw H H8) vy py ∧ (py = .empty ∨ py = .rest ∨ py = .foe) := by
      have : y = 0 ∨ y = 1 ∨ y = 2 := by omega
      rcases this with z | z | z <;> subst z
      · exact ⟨_, .empty, at_0, dk.pg ((s5.trans (s6.trans s7)).trans w8) pa, by simp⟩
      · exact ⟨_, .rest, at_1, dk.pg ((s6.trans s7).trans w8) pb, by simp⟩
      · exact ⟨_, .foe, at_2, dk.pg (s7.trans w8) pe, by simp⟩
    refine ⟨m, _, _, _, rfl, rfl, SqL.of hm8, hvy, z2, fun l hl => ?_⟩
    have p18 := dk.pg r8 p1
    have ps8 : PgRs K (nw H H8) [.ref t1, vy] [.go x, py] := .cons p18 (.cons hpy .nil)
    have s9 := Dw.new c8.dk (o := .lst [.ref t1, vy]) hl
    have l0 := c8.free dk hl
    have c9 := c8.trans s9
    have pyc : py.cnt = 1 ∧ py.hgt = 0 ∧ py.ok G := by rcases hpk with z | z | z <;> subst z <;> exact ⟨rfl, rfl, trivial⟩
    refine ⟨_, rfl, D, 2, rfl, s9.dk, by decide, by decide, fun u H10 u0 u1 w10 => ⟨rfl, _, rfl, ite2 (fun cc => ?_) (fun cc => ?_)⟩⟩
    · -- with the third
      have c10 := c9.trans w10
      have hl10 : H10 l = some (.lst [.ref t1, vy]) := w10.at_ (dk.new l0) upd_same
      have ps10 := dk.pgs (s9.trans w10) ps8
      refine ⟨_, rfl, z1, fun g1 hg1 => ⟨z1, fun g2 hg2 => ⟨z1, fun g3 hg3 => ⟨z2, fun gl hgl => ?_⟩⟩⟩⟩
      have q1 := mk_one (K := K) (p := .empty) dk c10 hg1 (.inl rfl)
      have r1 := Dw.new w10.dk (o := .tup [.str Pg.empty.word]) hg1
      have d1 := c10.trans r1
      have q2 := mk_one (K := K) (p := .foe) dk d1 hg2 (by simp)
      have r2 := Dw.new r1.dk (o := .tup [.str Pg.foe.word]) hg2
      have d2 := d1.trans r2
      have q3 := mk_one (K := K) (p := .own) dk d2 hg3 (by simp)
      have r3 := Dw.new r2.dk (o := .tup [.str Pg.own.word]) hg3
      have d3 := d2.trans r3
      have r4 := Dw.new r3.dk (o := .lst [.ref g2, .ref g3]) hgl
      have gld := r3.dk.new hgl
      refine ⟨_, rfl, D, 5, rfl, r4.dk, by decide, by decide, fun f H11 f0 f1 w11 => ⟨rfl, .inr ⟨_, rfl, ?_⟩⟩⟩
      have hgl11 : H11 gl = some (.lst [.ref g2, .ref g3]) := w11.at_ gld upd_same
      have d11 := (d3.trans r4).trans w11
      obtain ⟨vf, pf, hvf, hpf, hpk2⟩ : ∃ vf pf, atI [V.ref g2, V.ref g3] (if decide (V.int f = V.int 0) = true then 1 else 0) = some vf ∧ PgR K (nw H H11) vf pf ∧ (pf = .foe ∨ pf = .own) := by
        by_cases z : f = 0
        · exact ⟨.ref g3, .own, by rw [z]; exact at_1, dk.pg (r4.trans w11) q3, .inr rfl⟩
        · have e0 : decide (V.int f = V.int 0) = false := by simp [z]
          exact ⟨.ref g2, .foe, by rw [e0]; exact at_0, dk.pg ((r3.trans r4).trans w11) q2, .inl rfl⟩
      refine ⟨gl, _, _, _, rfl, rfl, SqL.of hgl11, hvf, z1, fun g5 hg5 => ⟨z2, fun g6 hg6 => ⟨z2, fun g7 hg7 => ⟨z2, fun g8 hg8 => ⟨z2, fun g9 hg9 => ⟨z1, fun g10 hg10 => ?_⟩⟩⟩⟩⟩⟩
      have t5 := mk_one (K := K) (p := .take) dk d11 hg5 (by simp)
      have s5' := Dw.new d11.dk (o := .tup [.str Pg.take.word]) hg5
      have e5 := d11.trans s5'
      have s6' := Dw.new e5.dk (o := .lst [vf, .ref g5]) hg6
      have e6 := e5.trans s6'
      have g60 := e5.free dk hg6
      have t7 := mk_row (K := K) (ps := [pf, .take]) dk e6 hg7 upd_same g60 (.cons (dk.pg (s5'.trans s6') hpf) (.cons (dk.pg s6' t5) .nil))
      have s7' := Dw.new e6.dk (o := .tup [.str wRow, .ref g6]) hg7
      have e7 := e6.trans s7'
      have s8' := Dw.new e7.dk (o := .lst [.ref g1, .ref g7]) hg8
      have e8 := e7.trans s8'
      have g80 := e7.free dk hg8
      have q1' := dk.pg ((((r2.trans r3).trans (r4.trans w11)).trans ((s5'.trans s6').trans s7')).trans s8') q1
      have t9 := mk_either (K := K) (ps := [.empty, .row [pf, .take]]) dk e8 hg9 upd_same g80 (.cons q1' (.cons (dk.pg s8' t7) .nil))
      have s9' := Dw.new e8.dk (o := .tup [.str wEither, .ref g8]) hg9
      have e9 := e8.trans s9'
      have s10' := Dw.new e9.dk (o := .lst [.ref g9]) hg10
      have e10 := e9.trans s10'
      have step10 := (((r1.trans r2).trans (r3.trans r4)).trans (w11.trans s5')).trans (((s6'.trans s7').trans (s8'.trans s9')).trans s10')
      have hl11 := step10.at_ (dk.new l0) hl10
      refine ⟨l, g10, _, _, rfl, rfl, hl11, upd_same, (by show 3 ≤ sizeLine; decide), fun l2 hl2 => ?_⟩
      have s11 := Dw.new e10.dk (o := .lst ([.ref t1, vy] ++ [.ref g9])) hl2
      have e11 := e10.trans s11
      have l20 := e10.free dk hl2
      have a1 := dk.pgs (step10.trans s11) ps10
      have t9' := dk.pg (s10'.trans s11) t9
      have ps11 := PgRs.of (a1.all.snoc t9')
      have pfc : pf.cnt = 1 ∧ pf.hgt = 0 ∧ pf.ok G := by rcases hpk2 with z | z <;> subst z <;> exact ⟨rfl, rfl, trivial⟩
      refine ⟨_, rfl, z2, fun t ht => q _ (.row [.go x, py, .either [.empty, .row [pf, .take]]]) _ (e11.trans (Dw.new e11.dk ht)) (mk_row dk e11 ht upd_same l20 ps11) ⟨⟨x0, x1⟩, pyc.2.2, ⟨trivial, ⟨pfc.2.2, trivial, trivial⟩, trivial⟩, trivial⟩ ?_ ?_⟩
      · show 1 * (py.cnt * ((1 + ((pf.cnt * (1 * 1)) + 0)) * 1)) ≤ _
        rw [pyc.1, pfc.1]; omega
      · show max 0 (max py.hgt (max (max 0 (max (max pf.hgt (max 0 0) + 1) 0) + 1) 0)) + 1 ≤ _
        rw [pyc.2.1, pfc.2.1]
        omega
    · -- two steps
      have c10 := c9.trans w10
      have hl10 : H10 l = some (.lst [.ref t1, vy]) := w10.at_ (dk.new l0) upd_same
      have ps10 := dk.pgs (s9.trans w10) ps8
      refine ⟨_, rfl, z2, fun t ht => q _ (.row [.go x, py]) _ (c10.trans (Dw.new w10.dk ht)) (mk_row dk c10 ht hl10 l0 ps10) ⟨⟨x0, x1⟩, pyc.2.2, trivial⟩ ?_ ?_⟩
      · show 1 * (py.cnt * 1) ≤ _
        rw [pyc.1]; omega
      · show max 0 (max py.hgt 0) + 1 ≤ _
        rw [pyc.2.1]; omega
  have kn6 : ¬ kind < 6 := fun z => c1 (decide_eq_true z)
  refine ⟨_, rfl, _, _, rfl, rfl, _, rfl, ite2 (fun c2 => ?_) (fun c2 => ?_)⟩
  · -- one of several
    refine ⟨_, rfl, D, 3, rfl, w1.dk, by decide, by decide, fun m H2 m0 m1 w2 => ⟨_, _, rfl, rfl, m + 1, rfl, by omega, by omega, fun a ha => ?_⟩⟩
    have c2 := w1.trans w2
    have a0 := c2.free dk ha
    refine lc_range (lo := 0) (n := (m + 1).toNat) (fun j H4 => ∃ vs ps, Dw D H H4 ∧ H4 a = some (.lst vs) ∧ PgRs K (ex a (nw H H4)) vs ps ∧ ps.length = j ∧ oks G ps ∧ cntE ps ≤ j * lim d' ∧ hgts ps ≤ 3 + d') ⟨[], [], c2.trans (Dw.new c2.dk ha), upd_same, .nil, rfl, trivial, by simp [cntE], Nat.zero_le _⟩ (fun j H4 hj hP => ?_) (fun H4 hP => ?_)
    · obtain ⟨vs, ps, w4, h4, r4, l4, o4, n4, g4⟩ := hP
      refine ⟨rfl, _, rfl, _, rfl, _, rfl, _, rfl, _, _, rfl, rfl, D, G, d', ea, w4.dk, nw1, nw3, kd1, kd2, by omega, fun v p H5 w5 hp po pc pgt => ?_⟩
      have r5 := PgRs.same (ex_same (f := a) (nw_same dk w5)) ps vs r4
      have hvs := r4.all.length
      have p5 := PgR.same (nw_later dk w4 h4) p v hp
      refine ⟨_, w5.at_ (dk.new a0) h4, big' (by omega), vs ++ [v], ps ++ [p], (w4.trans w5).mut dk a0, upd_same, by rw [ex_nw]; exact PgRs.of (r5.all.snoc p5), by simp [l4], ?_, ?_, ?_⟩
      · clear r5 r4 hvs l4 n4 g4
        induction ps with
        | nil => exact ⟨po, trivial⟩
        | cons p0 ps ih => exact ⟨o4.1, ih o4.2⟩
      · have : cntE (ps ++ [p]) = cntE ps + p.cnt := by
          clear r5 r4 hvs l4 n4 g4 o4
          induction ps with
          | nil => show p.cnt + 0 = 0 + p.cnt; omega
          | cons p0 ps ih => show p0.cnt + cntE (ps ++ [p]) = (p0.cnt + cntE ps) + p.cnt; rw [ih]; omega
        rw [this, Nat.succ_mul]
        omega
      · have : hgts (ps ++ [p]) = max (hgts ps) p.hgt := by
          clear r5 r4 hvs l4 n4 g4 o4
          induction ps with
          | nil => show max p.hgt 0 = max 0 p.hgt; omega
          | cons p0 ps ih => show max p0.hgt (hgts (ps ++ [p])) = max (max p0.hgt (hgts ps)) p.hgt; rw [ih]; omega
        rw [this]
        omega
    · obtain ⟨vs, ps, w4, h4, r4, l4, o4, n4, g4⟩ := hP
      refine ⟨z2, fun t ht => q _ (.either ps) _ (w4.trans (Dw.new w4.dk ht)) (mk_either dk w4 ht h4 a0 (PgRs.same ex_sub ps vs r4)) o4 ?_ ?_⟩
      · have hm : (m + 1).toNat ≤ 3 := by omega
        have := Nat.mul_le_mul_right (lim d') hm
        show cntE ps ≤ _
        omega
      · show hgts ps + 1 ≤ _
        omega
  have kn8 : ¬ kind < 8 := fun z => c2 (decide_eq_true z)
  refine ⟨_, rfl, rfl, _, rfl, ite2 (fun c3 => ?_) (fun c3 => ?_)⟩
  · -- any
    refine ⟨_, rfl, _, rfl, D, _, rfl, w1.dk, by omega, by omega, fun x H2 x0 x1 w2 => ⟨z2, fun t1 ht1 => ⟨z1, fun t2 ht2 => ⟨z2, fun l hl => ⟨z2, fun t3 ht3 => ⟨z2, fun t4 ht4 => ?_⟩⟩⟩⟩⟩⟩
    have c2 := w1.trans w2
    have p1 := mk_go (K := K) dk c2 ht1 (d := x)
    have s1 := Dw.new c2.dk (o := .tup [.str wGo, .int x]) ht1
    have e1 := c2.trans s1
    have p2 := mk_one (K := K) (p := .empty) dk e1 ht2 (.inl rfl)
    have s2 := Dw.new s1.dk (o := .tup [.str Pg.empty.word]) ht2
    have e2 := e1.trans s2
    have s3 := Dw.new s2.dk (o := .lst [.ref t1, .ref t2]) hl
    have e3 := e2.trans s3
    have ld := e2.free dk hl
    have p3 := mk_row (K := K) (ps := [.go x, .empty]) dk e3 ht3 upd_same ld (.cons (dk.pg (s2.trans s3) p1) (.cons (dk.pg s3 p2) .nil))
    have s4 := Dw.new s3.dk (o := .tup [.str wRow, .ref l]) ht3
    have e4 := e3.trans s4
    have p4 := mk_any (K := K) dk e4 ht4 p3
    have s5 := Dw.new s4.dk (o := .tup [.str wAny, .ref t3]) ht4
    exact q _ (.any (.row [.go x, .empty])) _ (e4.trans s5) p4 ⟨rfl, ⟨x0, x1⟩, trivial, trivial⟩ l5 (by show max 0 (max 0 0) + 1 + 1 ≤ _; omega)
  have kn9 : ¬ kind = 8 := fun z => c3 (by subst z; rfl)
  refine ⟨_, rfl, rfl, _, rfl, ite2 (fun c4 => ?_) (fun c4 => ?_)⟩
  · refine ⟨_, rfl, _, rfl, _, rfl, _, rfl, _, _, rfl, rfl, D, G, d', ea, w1.dk, nw1, nw3, kd1, kd2, by omega, fun v p H2 w2 hp po pc pgt => ?_⟩
    have hp := PgR.same (nw_later' (H0 := H) dk w1) p v hp
    have c2 := w1.trans w2
    refine ⟨_, rfl, _, rfl, D, _, rfl, w2.dk, by omega, by omega, fun x H3 x0 x1 w3 => ⟨z2, fun t1 ht1 => ⟨z2, fun l hl => ⟨z2, fun t3 ht3 => ?_⟩⟩⟩⟩
    have c3 := c2.trans w3
    have p1 := mk_lay (K := K) dk c3 ht1 (d := x)
    have s1 := Dw.new w3.dk (o := .tup [.str wLay, .int x]) ht1
    have e1 := c3.trans s1
    have s3 := Dw.new s1.dk (o := .lst [v, .ref t1]) hl
    have e3 := e1.trans s3
    have ld := e1.free dk hl
    have p3 := mk_row (K := K) (ps := [p, .lay x]) dk e3 ht3 upd_same ld (.cons (dk.pg (w3.trans (s1.trans s3)) hp) (.cons (dk.pg s3 p1) .nil))
    have s4 := Dw.new s3.dk (o := .tup [.str wRow, .ref l]) ht3
    refine q _ (.row [p, .lay x]) _ (e3.trans s4) p3 ⟨po, ⟨x0, x1⟩, trivial⟩ ?_ ?_
    · show p.cnt * (1 * 1) ≤ _
      omega
    · show max p.hgt (max 0 0) + 1 ≤ _
      omega
  have kn10 : ¬ kind = 9 := fun z => c4 (by subst z; rfl)
  refine ⟨_, rfl, rfl, _, rfl, ite2 (fun c5 => ?_) (fun c5 => ?_)⟩
  · refine ⟨_, rfl, _, rfl, _, rfl, _, rfl, _, _, rfl, rfl, D, G, d', ea, w1.dk, nw1, nw3, kd1, kd2, by omega, fun v p H2 w2 hp po pc pgt => ?_⟩
    have hp := PgR.same (nw_later' (H0 := H) dk w1) p v hp
    have c2 := w1.trans w2
    refine ⟨_, rfl, _, rfl, D, _, rfl, w2.dk, by omega, by omega, fun x H3 x0 x1 w3 => ⟨z2, fun t1 ht1 => ⟨z1, fun t2 ht2 => ⟨z3, fun l hl => ⟨z2, fun t3 ht3 => ?_⟩⟩⟩⟩⟩
    have c3 := c2.trans w3
    have p1 := mk_kin (K := K) dk c3 ht1 (d := x)
    have s1 := Dw.new w3.dk (o := .tup [.str wAt, .int x]) ht1
    have e1 := c3.trans s1
    have p2 := mk_one (K := K) (p := .take) dk e1 ht2 (by simp)
    have s2 := Dw.new s1.dk (o := .tup [.str Pg.take.word]) ht2
    have e2 := e1.trans s2
    have s3 := Dw.new s2.dk (o := .lst [v, .ref t1, .ref t2]) hl
    have e3 := e2.trans s3
    have ld := e2.free dk hl
    have p3 := mk_row (K := K) (ps := [p, .kin x, .take]) dk e3 ht3 upd_same ld (.cons (dk.pg (w3.trans (s1.trans (s2.trans s3))) hp) (.cons (dk.pg (s2.trans s3) p1) (.cons (dk.pg s3 p2) .nil)))
    have s4 := Dw.new s3.dk (o := .tup [.str wRow, .ref l]) ht3
    refine q _ (.row [p, .kin x, .take]) _ (e3.trans s4) p3 ⟨po, trivial, trivial, trivial⟩ ?_ ?_
    · show p.cnt * (1 * (1 * 1)) ≤ _
      omega
    · show max p.hgt (max 0 (max 0 0)) + 1 ≤ _
      omega
  · refine ⟨(by decide : 0 ≤ sizeLine), fun l1 hl1 => ⟨z2, fun t1 ht1 => ⟨z1, fun t2 ht2 => ⟨z1, fun t3 ht3 => ?_⟩⟩⟩⟩
    have s1 := Dw.new w1.dk (o := .lst []) hl1
    have e1 := w1.trans s1
    have d1 := w1.free dk hl1
    have p1 := mk_row (K := K) (ps := []) dk e1 ht1 upd_same d1 .nil
    have s2 := Dw.new s1.dk (o := .tup [.str wRow, .ref l1]) ht1
    have e2 := e1.trans s2
    have p2 := mk_one (K := K) (p := .rest) dk e2 ht2 (by simp)
    have s3 := Dw.new s2.dk (o := .tup [.str Pg.rest.word]) ht2
    have e3 := e2.trans s3
    have p3 := mk_one (K := K) (p := .take) dk e3 ht3 (by simp)
    have s4 := Dw.new s3.dk (o := .tup [.str Pg.take.word]) ht3
    have e4 := e3.trans s4
    refine ⟨z2, fun t5 ht5 => ⟨z1, fun t6 ht6 => ⟨z2, fun t7 ht7 => ⟨z3, fun l2 hl2 => ⟨z2, fun t8 ht8 => ⟨(by decide : 4 ≤ sizeLine), fun l3 hl3 => ?_⟩⟩⟩⟩⟩⟩
    have p5 := mk_go (K := K) dk e4 ht5 (d := 0)
    have s5 := Dw.new s4.dk (o := .tup [.str wGo, .int 0]) ht5
    have e5 := e4.trans s5
    have p6 := mk_one (K := K) (p := .empty) dk e5 ht6 (.inl rfl)
    have s6 := Dw.new s5.dk (o := .tup [.str Pg.empty.word]) ht6
    have e6 := e5.trans s6
    have p7 := mk_go (K := K) dk e6 ht7 (d := 0)
    have s7 := Dw.new s6.dk (o := .tup [.str wGo, .int 0]) ht7
    have e7 := e6.trans s7
    have s8 := Dw.new s7.dk (o := .lst [.ref t5, .ref t6, .ref t7]) hl2
    have e8 := e7.trans s8
    have d2 := e7.free dk hl2
    have p8 := mk_row (K := K) (ps := [.go 0, .empty, .go 0]) dk e8 ht8 upd_same d2 (.cons (dk.pg (s6.trans (s7.trans s8)) p5) (.cons (dk.pg (s7.trans s8) p6) (.cons (dk.pg s8 p7) .nil)))
    have s9 := Dw.new s8.dk (o := .tup [.str wRow, .ref l2]) ht8
    have e9 := e8.trans s9
    have s10 := Dw.new s9.dk (o := .lst [.ref t1, .ref t2, .ref t3, .ref t8]) hl3
    have d3 := s9.dk.new hl3
    refine ⟨_, rfl, D, 4, rfl, s10.dk, by decide, by decide, fun x H2 x0 x1 w2 => ?_⟩
    have hl32 : H2 l3 = some (.lst [.ref t1, .ref t2, .ref t3, .ref t8]) := w2.at_ d3 upd_same
    have f10 := s10.trans w2
    have f5 := (s5.trans (s6.trans (s7.trans s8))).trans (s9.trans f10)
    have all := e9.trans f10
    have : x = 0 ∨ x = 1 ∨ x = 2 ∨ x = 3 := by omega
    rcases this with z | z | z | z <;> subst z
    · exact ⟨l3, _, _, _, rfl, rfl, SqL.of hl32, at_0, q _ (.row []) _ all (dk.pg (s3.trans (s4.trans f5)) p1) trivial lp (by show 0 + 1 ≤ _; omega)⟩
    · exact ⟨l3, _, _, _, rfl, rfl, SqL.of hl32, at_1, q _ .rest _ all (dk.pg (s4.trans f5) p2) trivial lp (by show 0 ≤ _; omega)⟩
    · exact ⟨l3, _, _, _, rfl, rfl, SqL.of hl32, at_2, q _ .take _ all (dk.pg f5 p3) trivial lp (by show 0 ≤ _; omega)⟩
    · exact ⟨l3, _, _, _, rfl, rfl, SqL.of hl32, at_3, q _ (.row [.go 0, .empty, .go 0]) _ all (dk.pg f10 p8) ⟨⟨by omega, by omega⟩, trivial, ⟨by omega, by omega⟩, trivial⟩ lp (by show max 0 (max 0 (max 0 0)) + 1 ≤ _; omega)⟩
theorem ok_program_h (T : Top K mg) : ∀ n : Nat, FnOk P w K mg base CX0 (1 + n) T.L_program.a T.L_program.fd P_L_program (sp_program K n)
  | 0 => by
    have no : ∀ vs H Q E, ¬ sp_program K 0 vs H Q E := fun vs H Q E ⟨_, _, _, _, _, _, _, _, _, h, _⟩ => Nat.not_lt_zero _ h
    exact ⟨fun vs H Q E h => absurd h (no vs H Q E), fun A outer s H args us vs Q E _ _ _ _ h => absurd h (no vs H Q E)⟩
  | n + 1 => step_program (k := 1 + n) T (Nat.le_add_right _ _) (ok_program_h T n)
theorem ok_L_program (T : Top K mg) : FnOk P w K mg base CX0 4 T.L_program.a T.L_program.fd P_L_program (sp_program K 3) := ok_program_h T 3
end Sk

/-! Sk: set(xs), xs a list of whole numbers. -/
namespace Sk
open PySem L2 PySem.Spec PyProof.Rows
section
variable {P : Program} {w : World} {A : Around} {E : Value → Shared → Prop} {s : Shared}
set_option maxHeartbeats 8000000 in
/-- set(xs), xs a list of whole numbers -/
theorem call_set_l {l : Addr} {items : Array Value} (ns : List Int) {Q : Value → Shared → Prop} (hh : A.handled = none) (hl : s.heap.IsList l items) (hit : IntsAre items.toList ns) (hb : ns.length + 1 < scanBound)
    (h : ∀ (h' : Heap) (tk c : Nat), SetR w h' s.heap.objs.size (fun j => decide (j ∈ ns)) c → c ≤ ns.length → (∀ b o, s.heap.get? b = some o → h'.get? b = some o) → Q (.ref s.heap.objs.size) { s with heap := h', toks := tk }) :
    wpAny (model P w) A (call (.type "set") [.ref l]) Q E s := by
  have hisz : items.size = ns.length := by
    have q := IntsAre.length hit
    rw [Array.length_toList] at q
    exact q
  obtain ⟨c, tl, hmro⟩ := F.called_set.mro
  have hmade := F.called_set.made
  have hsub := F.called_set.sub
  refine wpAny_call (codeAny_of_tree ?_)
  show wpAny _ _ (callAny (.type "set") _) _ _ _
  refine wpAny_pure ⟨Code.quiet_builtin _ (by decide +kernel), codeAny_builtin F.entry_type_call ?_⟩
  rw [Around.under_plain (weight_type_call_type "set" [.ref l] []) rfl]
  have h1 := F.called_set.notType
  have h2 := F.called_set.canCreate
  have hct := F.typeCall_set_1 (.ref l)
  repeat (any_goals (first | assumption | wp_step))
  refine codeAny_mono (code_set_led1 (.ref l) (E := E) (Q₁ := fun obj s₁ => obj = .ref s.heap.objs.size ∧ s₁ = { s with heap := s.heap.push (setObj w) }) ⟨rfl, rfl⟩) fun r s₁ hr => ?_
  cases r with
  | error e => exact hr
  | ok fl =>
    cases fl with
    | ret obj =>
      obtain ⟨rfl, rfl⟩ := hr
      have hS : (s.heap.push (setObj w)).get? s.heap.objs.size = some (setObj w) := Heap.get?_push_size _ rfl
      have hT : Shared.TypeIs { s with heap := s.heap.push (setObj w) } (.ref s.heap.objs.size) "set" := ⟨_, hS, rfl⟩
      have hli := F.called_set.init.lookup
      have hbi := F.called_set.init.bind (.ref s.heap.objs.size)
      repeat (any_goals (first | assumption | wp_step))
      refine codeAny_mono (codeAny_call_builtin (R := wants (fun r s₂ => r = .none ∧ ∃ h' tk c, s₂ = { s with heap := h', toks := tk } ∧ SetR w h' s.heap.objs.size (fun j => decide (j ∈ ns)) c ∧ c ≤ ns.length ∧
          (∀ b o, s.heap.get? b = some o → h'.get? b = some o)) E) F.called_set.init.plain F.entry_set_init (check_set_init_1 hT ?_)) fun r₂ s₂ hr₂ => ?_
      · obtain ⟨⟨ocls, odict, odata, oslots⟩, hol, hcl, nl, hdl⟩ := hl
        simp only at hcl hdl
        subst hcl; subst hdl
        have hol' : (s.heap.push (setObj w)).get? l = some { cls := .type "list", dict := odict, data := .seq items nl, slots := oslots } := Heap.get?_push_of_some _ hol
        have hsls := F.sub_list_set
        have hslf := F.sub_list_frozenset
        have hne : (Value.type "list" == Value.type "dict") = false := by decide
        have hl1 : (s.heap.push (setObj w)).IsList l items := ⟨_, hol', rfl, nl, rfl⟩
        unfold Builtin.«set.__init__» noKeywords Builtin.Frozenset.updateFrom
        generalize hPI : pyIter = PI
        wp_walk
        subst hPI
        refine wpAny_pyIter_list hl1 ?_
        refine wpAny_bind (wpAny_runValue ?_)
        have hlS : l < s.heap.objs.size := Heap.lt_size hol
        have hneI : l ≠ (s.heap.push (setObj w)).objs.size := by rw [Heap.size_push]; exact Nat.ne_of_lt (Nat.lt_succ_of_lt hlS)
        have hSf : s.heap.objs.size ∉ [(s.heap.push (setObj w)).objs.size, l] := by
          rw [Heap.size_push]
          simp only [List.mem_cons, List.not_mem_nil, or_false, not_or]
          exact ⟨Nat.ne_of_lt (Nat.lt_succ_self _), Nat.ne_of_gt hlS⟩
        have hval : ∀ (i : Nat) (v : Value), items[i]? = some v → ∃ k t, ns[i]? = some k ∧ v = .int k t := fun i v hv => by
          have hi : i < ns.length := by rw [← hisz]; exact (Array.getElem?_eq_some_iff.mp hv).1
          obtain ⟨t, e⟩ := PyProof.Rows.IntsAre.int_at hit i v (by rw [Array.getElem?_toList]; exact hv)
          refine ⟨ns[i], t, List.getElem?_eq_getElem hi, ?_⟩
          rw [e, List.getD_eq_getElem?_getD, List.getElem?_eq_getElem hi] <;> rfl
        refine set_update_ints ((Walks.list (A := A.in1.in1.in1) (by simp [hh]) _ l hneI items).toS) s.heap.objs.size hSf ns hisz hb hval (items.size - 0) 0 _ (by omega) (Nat.zero_le _)
          ⟨⟨_, Heap.get?_push_size _ rfl, rfl, rfl⟩, (hl1.push _)⟩ ?hS0 ?hR
        case hS0 => exact ⟨0, Nat.le_refl 0, setR_new_at (Heap.get?_push_of_some _ hS)⟩
        case hR =>
          intro s' c' hm hc' hS'
          obtain ⟨h', g2, d', tk', os'⟩ := s'
          have eg : g2 = s.gens := hm.gens
          have ed : d' = s.drawn := hm.drawn
          have eo : os' = s.os := hm.os
          subst eg; subst ed; subst eo
          show wpAny _ _ _ _ _ _
          refine wpAny_pure ?_
          show wpAny _ _ (ret Value.none) _ _ _
          rw [hisz] at hc'
          refine wpAny_pure ⟨rfl, h', tk', c', rfl, hS', hc', fun b o e => ?_⟩
          have hb0 : b < s.heap.objs.size := Heap.lt_size e
          have hb1 : b ≠ s.heap.objs.size := Nat.ne_of_lt hb0
          have hb2 : b ≠ (s.heap.push (setObj w)).objs.size := by rw [Heap.size_push]; exact Nat.ne_of_lt (Nat.lt_succ_of_lt hb0)
          exact hm.heap b o (by simp only [List.mem_cons, List.not_mem_nil, or_false, not_or]; exact ⟨hb1, hb2⟩) (Heap.get?_push_of_some _ (Heap.get?_push_of_some _ e))
      · cases r₂ with
        | error e => exact hr₂
        | ok fl₂ =>
          cases fl₂ with
          | ret r =>
            obtain ⟨rfl, h', tk, c', rfl, hS', hc', hk'⟩ := hr₂
            repeat (any_goals (first | assumption | wp_step))
            exact h _ _ _ hS' hc' hk'
          | _ => exact hr₂.elim
    | _ => exact hr.elim
end
def rSetI (w : World) (K : PySem.W.Frag) : List V → Hp → VK → Prop := fun vs H Q => ∃ (a : Addr) (ns : List Int), vs = [.ref a] ∧ SqL K H a (ns.map V.int) ∧ ns.length ≤ 60 ∧ ∀ p n, H p = none → n ≤ ns.length → Q (.ref p) (upd H p (SetO w p (fun j => decide (j ∈ ns)) n))
theorem cr_setI {X : Cx} (hc : X.calm = true) : CallR X (.type "set") (rSetI X.w X.K) := by
  intro pins s σ H xs us Q I r h
  obtain ⟨a, ns, e, hs, hl, q⟩ := h
  subst e
  obtain ⟨u, rfl, ru⟩ := vals1 r
  cases ru
  obtain ⟨its, rv, pl, hz⟩ := I.list hs
  refine call_set_l ns (I.ok.hd hc) pl.isList (by simpa using ints_of_vals rv) (by unfold scanBound; omega) fun h' tk c hS hc' hk => ?_
  exact ⟨.ref s.heap.objs.size, _, I.laid (t' := tk) hk (Nat.le_refl _) (setO_new hS), rfl, q _ _ (I.hok.fresh (Nat.le_refl _)) hc'⟩
end Sk

/-! Sk: the law's conditions. -/
namespace Sk
open PySem L2 PySem.Spec PyProof.Rows
variable {P : Program} {w : World} {K : PySem.W.Frag} {mg : Str → Option Value} {base : Heap}

theorem Deck.co {D : Dk} {H0 H H' : Hp} {v : V} {c : Cond} (dk0 : Deck D H0) (a : Dw D H H') (h : CoR K (nw H0 H) v c) : CoR K (nw H0 H') v c := h.same (nw_same dk0 a)
def sp_condition (K : PySem.W.Frag) (n : Nat) : Sp := fun vs H Q _ => ∃ (D : Dk) (G : GD) (d : Nat), vs = [.ref D.dk, .int G.n, .int G.kd, .int d] ∧ Deck D H ∧ 2 ≤ G.n ∧ G.n ≤ 5 ∧ 1 ≤ G.kd ∧ G.kd ≤ 2 ∧ d < n ∧
  ∀ v c H', Dw D H H' → CoR K (nw H H') v c → c.ok G → c.small → c.hgt ≤ d + 1 → Q v H'
theorem step_condition (T : Top K mg) {k n : Nat} (hk : 1 ≤ k) (Gp : FnOk P w K mg base CX0 k T.L_condition.a T.L_condition.fd P_L_condition (sp_condition K n)) : FnOk P w K mg base CX0 (k + 1) T.L_condition.a T.L_condition.fd P_L_condition (sp_condition K (n + 1)) := by
  refine T.L_condition.F.ok sc_L_condition (fun vs H Q E h => ?_) (fun cdv A outer s H vs Q E hr hh => ?_)
  · obtain ⟨_, _, _, rfl, _⟩ := h; rfl
  obtain ⟨D, G, d, rfl, dk, n2, n5, kd1, kd2, hd, q⟩ := hh
  have nd := sc_L_condition.nd
  refine ⟨_, (pss_cons (ps_set (i := 4) nd rfl (Or.inl rfl) (pe_call (ok_L_draw T) (hr.mono (by omega)) rfl T.L_draw.m T.L_draw.k T.L_draw.b .nil pass0 (pa_cons (pv 0) (pa_cons pe_int pa_nil))))
    (pss_cons (ps_set (i := 5) nd rfl (Or.inl rfl) (pe_callB (cr_sortedSet rfl) rfl T.z_sorted (by decide +kernel) (pa_cons (pe_callTy (cr_setI rfl) rfl T.z_set (by decide +kernel) (pa_cons (pe_lc (own := [("_law_k", 7)]) (g := gName 7) (tt := tYes) rfl nd (pi_range1 rfl T.z_range (pa_cons (pe_op op_add pe_int (pe_call (ok_L_draw T) (hr.mono (by omega)) rfl T.L_draw.m T.L_draw.k T.L_draw.b .nil pass0 (pa_cons (pv 0) (pa_cons pe_int pa_nil)))) pa_nil)) (blkOk_by (N := N_L_condition) (sc := defScope s_L_condition) (by decide +kernel)) (fun _ _ _ _ _ => (pg_name (i := 7) nd rfl (Or.inl rfl))) (fun _ _ _ _ _ => pts_nil) (fun _ _ _ _ _ => (pe_call (ok_L_draw T) (hr.mono (by omega)) rfl T.L_draw.m T.L_draw.k T.L_draw.b .nil pass0 (pa_cons (pv 0) (pa_cons (pv 1) pa_nil))))) pa_nil)) pa_nil)))
    (pss_cons (ps_if (PW.pt (pw_and (pt_cmpR op_gt (pv 3) pe_int (nomark _)) (pw_and1 (pt_cmpR op_eq (pv 4) pe_int (nomark _)))))
      (pss_cons (ps_set (i := 6) nd rfl (Or.inl rfl) (pe_call (Gp) (hr.mono (by omega)) rfl T.L_condition.m T.L_condition.k T.L_condition.b .nil pass0 (pa_cons (pv 0) (pa_cons (pv 1) (pa_cons (pv 2) (pa_cons (pe_op op_sub (pv 3) pe_int) pa_nil))))))
      (pss_one (ps_ret (pe_ix ix_list (pe_lst (pa_cons (pe_tup (pa_cons pe_str (pa_cons (pv 6) pa_nil))) (pa_cons (pe_tup (pa_cons pe_str (pa_cons (pv 6) (pa_cons (pe_tup (pa_cons pe_str pa_nil)) pa_nil)))) (pa_cons (pe_tup (pa_cons pe_str (pa_cons (pv 6) (pa_cons (pe_tup (pa_cons pe_str (pa_cons pe_int pa_nil))) pa_nil)))) pa_nil)))) (pe_call (ok_L_draw T) (hr.mono (by omega)) rfl T.L_draw.m T.L_draw.k T.L_draw.b .nil pass0 (pa_cons (pv 0) (pa_cons pe_int pa_nil))) (fun _ _ => rfl)))))
      pss_nil)
    (pss_cons (ps_if (pt_cmpR op_lt (pv 4) pe_int (nomark _))
      (pss_one (ps_ret (pe_ix ix_list (pe_lst (pa_cons (pe_tup (pa_cons pe_str (pa_cons (pe_call (ok_L_draw T) (hr.mono (by omega)) rfl T.L_draw.m T.L_draw.k T.L_draw.b .nil pass0 (pa_cons (pv 0) (pa_cons (pv 2) pa_nil))) pa_nil))) (pa_cons (pe_tup (pa_cons pe_str (pa_cons (pe_call (ok_L_draw T) (hr.mono (by omega)) rfl T.L_draw.m T.L_draw.k T.L_draw.b .nil pass0 (pa_cons (pv 0) (pa_cons (pv 2) pa_nil))) pa_nil))) pa_nil))) (pe_call (ok_L_draw T) (hr.mono (by omega)) rfl T.L_draw.m T.L_draw.k T.L_draw.b .nil pass0 (pa_cons (pv 0) (pa_cons pe_int pa_nil))) (fun _ _ => rfl))))
      pss_nil)
    (pss_cons (ps_if (pt_cmpR op_lt (pv 4) pe_int (nomark _))
      (pss_one (ps_ret (pe_tup (pa_cons (pe_ix ix_list (pe_lst (pa_cons pe_str (pa_cons pe_str pa_nil))) (pe_call (ok_L_draw T) (hr.mono (by omega)) rfl T.L_draw.m T.L_draw.k T.L_draw.b .nil pass0 (pa_cons (pv 0) (pa_cons pe_int pa_nil))) (fun _ _ => rfl)) (pa_cons (pe_call (ok_L_draw T) (hr.mono (by omega)) rfl T.L_draw.m T.L_draw.k T.L_draw.b .nil pass0 (pa_cons (pv 0) (pa_cons (pv 2) pa_nil))) (pa_cons (pv 5) pa_nil))))))
      pss_nil)
    (pss_cons (ps_if (pt_cmpR op_eq (pv 4) pe_int (nomark _))
      (pss_one (ps_ret (pe_tup (pa_cons pe_str pa_nil))))
      pss_nil)
    (pss_one (ps_ret (pe_tup (pa_cons pe_str (pa_cons (pe_call (ok_L_draw T) (hr.mono (by omega)) rfl T.L_draw.m T.L_draw.k T.L_draw.b .nil pass0 (pa_cons (pv 0) (pa_cons pe_int pa_nil))) pa_nil))))))))))), ?_⟩
  have z1 : 1 ≤ sizeLine := by decide
  have z2 : 2 ≤ sizeLine := by decide
  have z3 : 3 ≤ sizeLine := by decide
  refine ⟨_, rfl, D, 8, rfl, dk, by decide, by decide, fun kind H1 k0 k1 w1 => ?_⟩
  -- the fields
  refine ⟨_, rfl, D, 2, rfl, w1.dk, by decide, by decide, fun m H2 m0 m1 w2 => ⟨_, _, rfl, rfl, 1 + m, rfl, by omega, by omega, fun a ha => ?_⟩⟩
  have c2 := w1.trans w2
  have a0 := c2.free dk ha
  have ad := dk.new a0
  refine lc_range (lo := 0) (n := (1 + m).toNat) (fun j H4 => ∃ acc : List Int, Dw D H H4 ∧ H4 a = some (.lst (acc.map V.int)) ∧ acc.length = j ∧ ∀ x ∈ acc, 0 ≤ x ∧ x < G.n) ⟨[], c2.trans (Dw.new c2.dk ha), upd_same, rfl, fun x h => nomatch h⟩ (fun j H4 hj hP => ?_) (fun H4 hP => ?_)
  · obtain ⟨acc, w4, h4, l4, r4⟩ := hP
    refine ⟨rfl, _, rfl, _, rfl, D, (G.n : Int), rfl, w4.dk, by omega, by omega, fun x H5 x0 x1 w5 => ⟨_, w5.at_ ad h4, big' (by rw [List.length_map]; omega), acc ++ [x], (w4.trans w5).mut dk a0, ?_, by simp [l4], fun z hz => ?_⟩⟩
    · rw [upd_same, List.map_append]; rfl
    · rcases List.mem_append.mp hz with a | a
      · exact r4 z a
      · rw [List.mem_singleton.mp a]; exact ⟨x0, x1⟩
  obtain ⟨acc, w4, h4, l4, r4⟩ := hP
  refine ⟨a, acc, rfl, SqL.of h4, by omega, fun b nb hb hnb => ?_⟩
  refine ⟨b, _, nb, rfl, upd_same, by omega, fun fs fl fso fsm fsl hfl => ?_⟩
  have s5 := Dw.new w4.dk (o := SetO w b (fun j => decide (j ∈ acc)) nb) hb
  have c5 := w4.trans s5
  have fl0 := c5.free dk hfl
  have s6 := Dw.new s5.dk (o := .lst (fs.map V.int)) hfl
  have c6 := c5.trans s6
  have hfl6 : ∀ H7, Dw D (upd (upd H4 b (SetO w b (fun j => decide (j ∈ acc)) nb)) fl (.lst (fs.map V.int))) H7 → H7 fl = some (.lst (fs.map V.int)) := fun H7 w7 => w7.at_ (dk.new fl0) upd_same
  have fs2 : fs.length ≤ 2 := by omega
  have fsr : ∀ x ∈ fs, 0 ≤ x ∧ x < G.n := fun x hx => r4 x (of_decide_eq_true ((fsm x).mp hx))
  -- the rest
  have mkS : ∀ {H7 : Hp} {t : Addr}, Dw D H H7 → H7 t = none → CoR K (nw H (upd H7 t (.tup [.str wStuck]))) (.ref t) .stuck := fun c ht => .stuck (SqT.of (nw_new dk c ht))
  have mkF : ∀ {H7 : Hp} {t : Addr} {x : Int}, Dw D H H7 → H7 t = none → CoR K (nw H (upd H7 t (.tup [.str wFew, .int x]))) (.ref t) (.few x) := fun c ht => .few (SqT.of (nw_new dk c ht))
  have mkL : ∀ {H7 : Hp} {t : Addr} {x : Int} {f : Bool}, Dw D H H7 → H7 t = none → CoR K (nw H (upd H7 t (.tup [.str (Cond.lacks f x).word, .int x]))) (.ref t) (.lacks f x) := fun c ht => .lacks (SqT.of (nw_new dk c ht))
  refine ⟨_, rfl, _, _, rfl, rfl, _, rfl, ite2 (fun c1 => ?_) (fun c1 => ?_)⟩
  · have c1 : 0 < (d : Int) := of_decide_eq_true c1
    refine ⟨_, rfl, rfl, _, rfl, ite2 (fun c2 => ?_) (fun c2 => ?_)⟩
    · -- a condition of another one
      obtain ⟨d', rfl⟩ : ∃ d', d = d' + 1 := ⟨d - 1, by omega⟩
      have ed : ((d' + 1 : Nat) : Int) - 1 = (d' : Int) := by omega
      have ea : ([V.ref D.dk, V.int G.n, V.int G.kd, V.int (((d' + 1 : Nat) : Int) - 1)] : List V) ++ [] = [V.ref D.dk, V.int G.n, V.int G.kd, V.int d'] := by rw [ed]; rfl
      refine ⟨_, rfl, _, rfl, _, rfl, _, rfl, _, _, rfl, rfl, D, G, d', ea, c6.dk, n2, n5, kd1, kd2, by omega, fun v c H7 w7 hc cok csm cgt => ?_⟩
      have hc := CoR.same (nw_later' (H0 := H) dk c6) hc
      have c7 := c6.trans w7
      refine ⟨_, rfl, z2, fun t1 ht1 => ⟨_, rfl, z1, fun t2 ht2 => ⟨z3, fun t3 ht3 => ⟨_, rfl, z2, fun t4 ht4 => ⟨z3, fun t5 ht5 => ⟨z3, fun l hl => ?_⟩⟩⟩⟩⟩⟩
      have s1 := Dw.new c7.dk (o := .tup [.str wNot, v]) ht1
      have p1 : CoR K (nw H (upd H7 t1 (.tup [.str wNot, v]))) (.ref t1) (.not c) := .not (SqT.of (nw_new dk c7 ht1)) (dk.co s1 hc)
      have e1 := c7.trans s1
      have s2 := Dw.new e1.dk (o := .tup [.str wStuck]) ht2
      have p2 := mkS e1 ht2
      have e2 := e1.trans s2
      have s3 := Dw.new e2.dk (o := .tup [.str wAnd, v, .ref t2]) ht3
      have p3 : CoR K (nw H (upd _ t3 (.tup [.str wAnd, v, .ref t2]))) (.ref t3) (.and c .stuck) := .and (SqT.of (nw_new dk e2 ht3)) (dk.co (s1.trans (s2.trans s3)) hc) (dk.co s3 p2)
      have e3 := e2.trans s3
      have s4 := Dw.new e3.dk (o := .tup [.str wFew, .int 1]) ht4
      have p4 := mkF e3 ht4 (x := 1)
      have e4 := e3.trans s4
      have s5 := Dw.new e4.dk (o := .tup [.str wOr, v, .ref t4]) ht5
      have p5 : CoR K (nw H (upd _ t5 (.tup [.str wOr, v, .ref t4]))) (.ref t5) (.or c (.few 1)) := .or (SqT.of (nw_new dk e4 ht5)) (dk.co (((s1.trans s2).trans (s3.trans s4)).trans s5) hc) (dk.co s5 p4)
      have e5 := e4.trans s5
      have s6 := Dw.new e5.dk (o := .lst [.ref t1, .ref t3, .ref t5]) hl
      have e6 := e5.trans s6
      have ld := e5.dk.new hl
      refine ⟨_, rfl, D, 3, rfl, e6.dk, by decide, by decide, fun x H8 x0 x1 w8 => ?_⟩
      have hl8 : H8 l = some (.lst [.ref t1, .ref t3, .ref t5]) := w8.at_ ld upd_same
      have all := e6.trans w8
      have : x = 0 ∨ x = 1 ∨ x = 2 := by omega
      rcases this with z | z | z <;> subst z
      · exact ⟨l, _, _, _, rfl, rfl, SqL.of hl8, at_0, q _ (.not c) _ all (dk.co (((s2.trans s3).trans (s4.trans s5)).trans (s6.trans w8)) p1) cok csm (by show c.hgt + 1 ≤ _; omega)⟩
      · exact ⟨l, _, _, _, rfl, rfl, SqL.of hl8, at_1, q _ (.and c .stuck) _ all (dk.co ((s4.trans s5).trans (s6.trans w8)) p3) ⟨cok, trivial⟩ ⟨csm, trivial⟩ (by show max c.hgt 0 + 1 ≤ _; omega)⟩
      · exact ⟨l, _, _, _, rfl, rfl, SqL.of hl8, at_2, q _ (.or c (.few 1)) _ all (dk.co (s6.trans w8) p5) ⟨cok, trivial⟩ ⟨csm, by constructor <;> decide⟩ (by show max c.hgt 0 + 1 ≤ _; omega)⟩
    · refine ⟨_, rfl, _, _, rfl, rfl, _, rfl, ite2 (fun c3 => ?_) (fun c3 => ?_)⟩
      · -- lacks
        refine ⟨_, rfl, _, rfl, D, _, rfl, c6.dk, by omega, by omega, fun x H7 x0 x1 w7 => ⟨z2, fun t1 ht1 => ?_⟩⟩
        have c7 := c6.trans w7
        have p1 := mkL c7 ht1 (x := x) (f := false)
        have s1 := Dw.new c7.dk (o := .tup [.str (Cond.lacks false x).word, .int x]) ht1
        have e1 := c7.trans s1
        refine ⟨_, rfl, _, rfl, D, _, rfl, e1.dk, by omega, by omega, fun y H8 y0 y1 w8 => ⟨z2, fun t2 ht2 => ⟨z2, fun l hl => ?_⟩⟩⟩
        have c8 := e1.trans w8
        have p2 := mkL c8 ht2 (x := y) (f := true)
        have s2 := Dw.new c8.dk (o := .tup [.str (Cond.lacks true y).word, .int y]) ht2
        have e2 := c8.trans s2
        have s3 := Dw.new e2.dk (o := .lst [.ref t1, .ref t2]) hl
        have e3 := e2.trans s3
        have ld := e2.dk.new hl
        refine ⟨_, rfl, D, 2, rfl, e3.dk, by decide, by decide, fun u H9 u0 u1 w9 => ?_⟩
        have hl9 : H9 l = some (.lst [.ref t1, .ref t2]) := w9.at_ ld upd_same
        have : u = 0 ∨ u = 1 := by omega
        rcases this with z | z <;> subst z
        · exact ⟨l, _, _, _, rfl, rfl, SqL.of hl9, at_0, q _ (.lacks false x) _ (e3.trans w9) (dk.co ((w8.trans s2).trans (s3.trans w9)) p1) trivial ⟨x0, by omega⟩ (by show 0 ≤ _; omega)⟩
        · exact ⟨l, _, _, _, rfl, rfl, SqL.of hl9, at_1, q _ (.lacks true y) _ (e3.trans w9) (dk.co (s3.trans w9) p2) trivial ⟨y0, by omega⟩ (by show 0 ≤ _; omega)⟩
      refine ⟨_, rfl, _, _, rfl, rfl, _, rfl, ite2 (fun c4 => ?_) (fun c4 => ?_)⟩
      · -- holds
        refine ⟨z2, fun l hl => ?_⟩
        have s1 := Dw.new c6.dk (o := .lst [.str wHolds, .str wFoeholds]) hl
        have ld := c6.dk.new hl
        have e1 := c6.trans s1
        refine ⟨_, rfl, D, 2, rfl, s1.dk, by decide, by decide, fun u H7 u0 u1 w7 => ?_⟩
        have hl7 : H7 l = some (.lst [.str wHolds, .str wFoeholds]) := w7.at_ ld upd_same
        have c7 := e1.trans w7
        obtain ⟨f, hf⟩ : ∃ f : Bool, atI [V.str wHolds, V.str wFoeholds] u = some (.str (Cond.holds f 0 []).word) := by
          have : u = 0 ∨ u = 1 := by omega
          rcases this with z | z <;> subst z
          · exact ⟨false, at_0⟩
          · exact ⟨true, at_1⟩
        refine ⟨l, _, _, _, rfl, rfl, SqL.of hl7, hf, _, rfl, _, rfl, D, _, rfl, c7.dk, by omega, by omega, fun x H8 x0 x1 w8 => ⟨_, rfl, z3, fun t ht => ?_⟩⟩
        have c8 := c7.trans w8
        have hfl8 := hfl6 _ ((s1.trans w7).trans w8)
        have s9 := Dw.new c8.dk (o := .tup [.str (Cond.holds f 0 []).word, .int x, .ref fl]) ht
        have ew : (Cond.holds f 0 []).word = (Cond.holds f x fs).word := by cases f <;> rfl
        refine q _ (.holds f x fs) _ (c8.trans s9) (.holds (l := fl) ?_ (SqL.of ?_)) fsr ⟨⟨x0, by omega⟩, fs2⟩ (by show 0 ≤ _; omega)
        · rw [← ew]; exact SqT.of (nw_new dk c8 ht)
        · rw [nw_at fl0]; exact s9.at_ (dk.new fl0) hfl8
      refine ⟨_, rfl, rfl, _, rfl, ite2 (fun c5 => ?_) (fun c5 => ?_)⟩
      · exact ⟨z1, fun t ht => q _ .stuck _ (c6.trans (Dw.new c6.dk ht)) (mkS c6 ht) trivial trivial (by show 0 ≤ _; omega)⟩
      · refine ⟨_, rfl, D, 3, rfl, c6.dk, by decide, by decide, fun x H7 x0 x1 w7 => ⟨z2, fun t ht => ?_⟩⟩
        have c7 := c6.trans w7
        exact q _ (.few x) _ (c7.trans (Dw.new c7.dk ht)) (mkF c7 ht) trivial ⟨x0, by omega⟩ (by show 0 ≤ _; omega)
  · refine iteF ?_
    refine ⟨_, rfl, _, _, rfl, rfl, _, rfl, ite2 (fun c3 => ?_) (fun c3 => ?_)⟩
    · -- lacks
      refine ⟨_, rfl, _, rfl, D, _, rfl, c6.dk, by omega, by omega, fun x H7 x0 x1 w7 => ⟨z2, fun t1 ht1 => ?_⟩⟩
      have c7 := c6.trans w7
      have p1 := mkL c7 ht1 (x := x) (f := false)
      have s1 := Dw.new c7.dk (o := .tup [.str (Cond.lacks false x).word, .int x]) ht1
      have e1 := c7.trans s1
      refine ⟨_, rfl, _, rfl, D, _, rfl, e1.dk, by omega, by omega, fun y H8 y0 y1 w8 => ⟨z2, fun t2 ht2 => ⟨z2, fun l hl => ?_⟩⟩⟩
      have c8 := e1.trans w8
      have p2 := mkL c8 ht2 (x := y) (f := true)
      have s2 := Dw.new c8.dk (o := .tup [.str (Cond.lacks true y).word, .int y]) ht2
      have e2 := c8.trans s2
      have s3 := Dw.new e2.dk (o := .lst [.ref t1, .ref t2]) hl
      have e3 := e2.trans s3
      have ld := e2.dk.new hl
      refine ⟨_, rfl, D, 2, rfl, e3.dk, by decide, by decide, fun u H9 u0 u1 w9 => ?_⟩
      have hl9 : H9 l = some (.lst [.ref t1, .ref t2]) := w9.at_ ld upd_same
      have : u = 0 ∨ u = 1 := by omega
      rcases this with z | z <;> subst z
      · exact ⟨l, _, _, _, rfl, rfl, SqL.of hl9, at_0, q _ (.lacks false x) _ (e3.trans w9) (dk.co ((w8.trans s2).trans (s3.trans w9)) p1) trivial ⟨x0, by omega⟩ (by show 0 ≤ _; omega)⟩
      · exact ⟨l, _, _, _, rfl, rfl, SqL.of hl9, at_1, q _ (.lacks true y) _ (e3.trans w9) (dk.co (s3.trans w9) p2) trivial ⟨y0, by omega⟩ (by show 0 ≤ _; omega)⟩
    refine ⟨_, rfl, _, _, rfl, rfl, _, rfl, ite2 (fun c4 => ?_) (fun c4 => ?_)⟩
    · -- holds
      refine ⟨z2, fun l hl => ?_⟩
      have s1 := Dw.new c6.dk (o := .lst [.str wHolds, .str wFoeholds]) hl
      have ld := c6.dk.new hl
      have e1 := c6.trans s1
      refine ⟨_, rfl, D, 2, rfl, s1.dk, by decide, by decide, fun u H7 u0 u1 w7 => ?_⟩
      have hl7 : H7 l = some (.lst [.str wHolds, .str wFoeholds]) := w7.at_ ld upd_same
      have c7 := e1.trans w7
      obtain ⟨f, hf⟩ : ∃ f : Bool, atI [V.str wHolds, V.str wFoeholds] u = some (.str (Cond.holds f 0 []).word) := by
        have : u = 0 ∨ u = 1 := by omega
        rcases this with z | z <;> subst z
        · exact ⟨false, at_0⟩
        · exact ⟨true, at_1⟩
      refine ⟨l, _, _, _, rfl, rfl, SqL.of hl7, hf, _, rfl, _, rfl, D, _, rfl, c7.dk, by omega, by omega, fun x H8 x0 x1 w8 => ⟨_, rfl, z3, fun t ht => ?_⟩⟩
      have c8 := c7.trans w8
      have hfl8 := hfl6 _ ((s1.trans w7).trans w8)
      have s9 := Dw.new c8.dk (o := .tup [.str (Cond.holds f 0 []).word, .int x, .ref fl]) ht
      have ew : (Cond.holds f 0 []).word = (Cond.holds f x fs).word := by cases f <;> rfl
      refine q _ (.holds f x fs) _ (c8.trans s9) (.holds (l := fl) ?_ (SqL.of ?_)) fsr ⟨⟨x0, by omega⟩, fs2⟩ (by show 0 ≤ _; omega)
      · rw [← ew]; exact SqT.of (nw_new dk c8 ht)
      · rw [nw_at fl0]; exact s9.at_ (dk.new fl0) hfl8
    refine ⟨_, rfl, rfl, _, rfl, ite2 (fun c5 => ?_) (fun c5 => ?_)⟩
    · exact ⟨z1, fun t ht => q _ .stuck _ (c6.trans (Dw.new c6.dk ht)) (mkS c6 ht) trivial trivial (by show 0 ≤ _; omega)⟩
    · refine ⟨_, rfl, D, 3, rfl, c6.dk, by decide, by decide, fun x H7 x0 x1 w7 => ⟨z2, fun t ht => ?_⟩⟩
      have c7 := c6.trans w7
      exact q _ (.few x) _ (c7.trans (Dw.new c7.dk ht)) (mkF c7 ht) trivial ⟨x0, by omega⟩ (by show 0 ≤ _; omega)
theorem ok_condition_h (T : Top K mg) : ∀ n : Nat, FnOk P w K mg base CX0 (1 + n) T.L_condition.a T.L_condition.fd P_L_condition (sp_condition K n)
  | 0 => by
    have no : ∀ vs H Q E, ¬ sp_condition K 0 vs H Q E := fun vs H Q E ⟨_, _, _, _, _, _, _, _, _, h, _⟩ => Nat.not_lt_zero _ h
    exact ⟨fun vs H Q E h => absurd h (no vs H Q E), fun A outer s H args us vs Q E _ _ _ _ h => absurd h (no vs H Q E)⟩
  | n + 1 => step_condition (k := 1 + n) T (Nat.le_add_right _ _) (ok_condition_h T n)
theorem ok_L_condition (T : Top K mg) : FnOk P w K mg base CX0 3 T.L_condition.a T.L_condition.fd P_L_condition (sp_condition K 2) := ok_condition_h T 2
end Sk

/-! Sk: the law's rules. -/
namespace Sk
open PySem L2 PySem.Spec PyProof.Rows
variable {P : Program} {w : World} {K : PySem.W.Frag} {mg : Str → Option Value} {base : Heap}

mutual
theorem ok_same {G G' : GD} (h1 : G.ways.length = G'.ways.length) (h2 : G.kd = G'.kd) : ∀ p : Pg, p.ok G → p.ok G'
  | .go d, h => by unfold Pg.ok at h ⊢; rw [← h1]; exact h
  | .lay k, h => by unfold Pg.ok at h ⊢; rw [← h2]; exact h
  | .row ps, h => by unfold Pg.ok at h ⊢; exact oks_same h1 h2 ps h
  | .either ps, h => by unfold Pg.ok at h ⊢; exact oks_same h1 h2 ps h
  | .any p, h => by unfold Pg.ok at h ⊢; exact ⟨h.1, ok_same h1 h2 p h.2⟩
  | .empty, _ => trivial
  | .own, _ => trivial
  | .foe, _ => trivial
  | .kin _, _ => trivial
  | .take, _ => trivial
  | .rest, _ => trivial
theorem oks_same {G G' : GD} (h1 : G.ways.length = G'.ways.length) (h2 : G.kd = G'.kd) : ∀ ps : List Pg, oks G ps → oks G' ps
  | [], _ => trivial
  | p :: ps, h => ⟨ok_same h1 h2 p h.1, oks_same h1 h2 ps h.2⟩
end
theorem cok_same {G G' : GD} (h : G.n = G'.n) : ∀ c : Cond, c.ok G → c.ok G'
  | .holds _ _ fs, hc => by unfold Cond.ok at hc ⊢; rw [← h]; exact hc
  | .not c, hc => by unfold Cond.ok at hc ⊢; exact cok_same h c hc
  | .and c d, hc => by unfold Cond.ok at hc ⊢; exact ⟨cok_same h c hc.1, cok_same h d hc.2⟩
  | .or c d, hc => by unfold Cond.ok at hc ⊢; exact ⟨cok_same h c hc.1, cok_same h d hc.2⟩
  | .lacks _ _, _ => trivial
  | .stuck, _ => trivial
  | .few _, _ => trivial
def sp_rules (K : PySem.W.Frag) : Sp := fun vs H Q _ => ∃ (D : Dk), vs = [.ref D.dk] ∧ Deck D H ∧ ∀ r G H', Dw D H H' → RulesAt K (wo D H') r G → GOk G → ClOk G → Q (.ref r) H'
theorem ok_L_rules (T : Top K mg) : FnOk P w K mg base CX0 5 T.L_rules.a T.L_rules.fd P_L_rules (sp_rules K) := by
  refine T.L_rules.F.ok sc_L_rules (fun vs H Q E h => ?_) (fun cdv A outer s H vs Q E hr hh => ?_)
  · obtain ⟨_, rfl, _⟩ := h; rfl
  obtain ⟨D, rfl, dk, q⟩ := hh
  have nd := sc_L_rules.nd
  refine ⟨_, (pss_cons (ps_set (i := 1) nd rfl (Or.inl rfl) (pe_op op_add pe_int (pe_call (ok_L_draw T) (hr.mono (by decide)) rfl T.L_draw.m T.L_draw.k T.L_draw.b .nil pass0 (pa_cons (pv 0) (pa_cons pe_int pa_nil)))))
    (pss_cons (ps_set (i := 2) nd rfl (Or.inl rfl) (pe_op op_add pe_int (pe_call (ok_L_draw T) (hr.mono (by decide)) rfl T.L_draw.m T.L_draw.k T.L_draw.b .nil pass0 (pa_cons (pv 0) (pa_cons pe_int pa_nil)))))
    (pss_cons (ps_set (i := 3) nd rfl (Or.inl rfl) (pe_call (ok_L_ways T) (hr.mono (by decide)) rfl T.L_ways.m T.L_ways.k T.L_ways.b .nil pass0 (pa_cons (pv 0) (pa_cons (pv 1) pa_nil))))
    (pss_cons (ps_set (i := 4) nd rfl (Or.inl rfl) (pe_lst pa_nil))
    (pss_cons (ps_for PassesOwn.never rfl (pi_range1 rfl T.z_range (pa_cons (pv 2) pa_nil)) (pg_name (i := 5) nd rfl (Or.inl rfl))
      (pss_cons (ps_set (i := 6) nd rfl (Or.inl rfl) (pe_call (ok_L_program T) (hr.mono (by decide)) rfl T.L_program.m T.L_program.k T.L_program.b .nil pass0 (pa_cons (pv 0) (pa_cons (pe_callB call_len_seq rfl T.z_len PySem.boot_len (pa_cons (pv 3) pa_nil)) (pa_cons (pv 2) (pa_cons pe_int pa_nil))))))
      (pss_one (ps_expr (pe_bm PySem.F.plainAttrs_list PySem.F.slot_list_append PySem.F.type_list_append mt_append (pv 4) (pa_cons (pe_tup (pa_cons (pv 6) (pa_cons (pe_ix ix_list (pe_lst (pa_cons (pv 6) (pa_cons (pe_call (ok_L_program T) (hr.mono (by decide)) rfl T.L_program.m T.L_program.k T.L_program.b .nil pass0 (pa_cons (pv 0) (pa_cons (pe_callB call_len_seq rfl T.z_len PySem.boot_len (pa_cons (pv 3) pa_nil)) (pa_cons (pv 2) (pa_cons pe_int pa_nil))))) pa_nil))) (pe_call (ok_L_draw T) (hr.mono (by decide)) rfl T.L_draw.m T.L_draw.k T.L_draw.b .nil pass0 (pa_cons (pv 0) (pa_cons pe_int pa_nil))) (fun _ _ => rfl)) pa_nil))) pa_nil))))))
    (pss_cons (ps_set (i := 7) nd rfl (Or.inl rfl) (pe_lst pa_nil))
    (pss_cons (ps_for PassesOwn.never rfl (pi_range1 rfl T.z_range (pa_cons (pe_call (ok_L_draw T) (hr.mono (by decide)) rfl T.L_draw.m T.L_draw.k T.L_draw.b .nil pass0 (pa_cons (pv 0) (pa_cons pe_int pa_nil))) pa_nil)) (pg_name (i := 5) nd rfl (Or.inl rfl))
      (pss_one (ps_expr (pe_bm PySem.F.plainAttrs_list PySem.F.slot_list_append PySem.F.type_list_append mt_append (pv 7) (pa_cons (pe_tup (pa_cons (pe_call (ok_L_condition T) (hr.mono (by decide)) rfl T.L_condition.m T.L_condition.k T.L_condition.b .nil pass0 (pa_cons (pv 0) (pa_cons (pv 1) (pa_cons (pv 2) (pa_cons pe_int pa_nil))))) (pa_cons (pe_ix ix_list (pe_lst (pa_cons pe_str (pa_cons pe_str (pa_cons pe_str (pa_cons pe_str pa_nil))))) (pe_call (ok_L_draw T) (hr.mono (by decide)) rfl T.L_draw.m T.L_draw.k T.L_draw.b .nil pass0 (pa_cons (pv 0) (pa_cons pe_int pa_nil))) (fun _ _ => rfl)) pa_nil))) pa_nil)))))
    (pss_one (ps_ret (pe_lst (pa_cons (pv 1) (pa_cons (pv 3) (pa_cons (pe_slice sl_list (pe_lst (pa_cons pe_str (pa_cons pe_str pa_nil))) po_none (po_some (pv 2))) (pa_cons (pv 7) (pa_cons (pv 4) pa_nil))))))))))))))), ?_⟩
  have z2 : 2 ≤ sizeLine := by decide
  refine ⟨_, rfl, D, 4, rfl, dk, by decide, by decide, fun v1 H1 a0 a1 w1 => ⟨_, _, rfl, rfl, ?_⟩⟩
  obtain ⟨n, en⟩ : ∃ n : Nat, 2 + v1 = (n : Int) := ⟨(2 + v1).toNat, by omega⟩
  show gName 1 (V.int (2 + v1)) _ _ _
  rw [en]
  have n2 : 2 ≤ n := by omega
  have n5 : n ≤ 5 := by omega
  refine ⟨_, rfl, D, 2, rfl, w1.dk, by decide, by decide, fun v2 H2 b0 b1 w2 => ⟨_, _, rfl, rfl, ?_⟩⟩
  obtain ⟨kd, ek⟩ : ∃ kd : Nat, 1 + v2 = (kd : Int) := ⟨(1 + v2).toNat, by omega⟩
  show gName 2 (V.int (1 + v2)) _ _ _
  rw [ek]
  have kd1 : 1 ≤ kd := by omega
  have kd2 : kd ≤ 2 := by omega
  have c2 := w1.trans w2
  refine ⟨_, rfl, _, rfl, D, n, rfl, c2.dk, n2, n5, fun lw wv ways H3 w3 lw0 hlw hwv wl1 wl3 wok => ?_⟩
  have c3 := c2.trans w3
  have lwd : lw ≠ D.dk := c2.dk.new lw0
  refine ⟨(by decide : 0 ≤ sizeLine), fun lp hlp => ?_⟩
  have s4 := Dw.new c3.dk (o := .lst []) hlp
  have c4 := c3.trans s4
  have lp0 := c3.free dk hlp
  have lpd := dk.new lp0
  -- the programs
  refine ⟨_, rfl, (kd : Int), rfl, by omega, by omega, ?_⟩
  refine for_range (lo := 0) (n := ((kd : Int)).toNat) (fun i σ H5 => ∃ xs pps x5 x6 x7, σ = [some (.ref D.dk), some (.int n), some (.int kd), some (.ref lw), some (.ref lp), x5, x6, x7] ∧ Dw D H3 H5 ∧ H5 lp = some (.lst xs) ∧ All2 (PpR K (ex lp (nw H H5))) xs pps ∧ pps.length = i ∧ ∀ pp ∈ pps, (pp.1.ok ⟨n, kd, ways, [], []⟩ ∧ pp.1.cnt ≤ 15 ∧ pp.1.hgt ≤ 8) ∧ (pp.2.ok ⟨n, kd, ways, [], []⟩ ∧ pp.2.cnt ≤ 15 ∧ pp.2.hgt ≤ 8))
    ⟨[], [], _, _, _, rfl, s4, upd_same, .nil, rfl, fun _ h => nomatch h⟩ (fun i σ H5 hi hP => ?_) (fun σ H5 hP => ?_)
  · obtain ⟨xs, pps, x5, x6, x7, rfl, w5, h5, r5, l5, o5⟩ := hP
    have c5 := c3.trans w5
    have hlw5 := w5.at_ lwd hlw
    have ewl : (wv.length : Int) = ((⟨n, kd, ways, [], []⟩ : GD).ways.length : Int) := by rw [hwv.length]
    refine ⟨_, rfl, _, rfl, lw, wv, rfl, .inl (SqL.of hlw5), _, rfl, D, ⟨n, kd, ways, [], []⟩, 2, by rw [ewl]; rfl, c5.dk, wl1, wl3, kd1, kd2, by decide, fun u1 p1 H6 w6 r6 ok6 cn6 hg6 => ?_⟩
    have c6 := c5.trans w6
    have r6 := PgR.same (nw_later dk c5 h5) p1 u1 r6
    have hlw6 := w6.at_ lwd hlw5
    have h6 := w6.at_ lpd h5
    refine ⟨_, rfl, .inl ⟨rfl, _, SqL.of h6⟩, _, rfl, _, rfl, _, rfl, _, rfl, lw, wv, rfl, .inl (SqL.of hlw6), _, rfl, D, ⟨n, kd, ways, [], []⟩, 2, by rw [ewl]; rfl, c6.dk, wl1, wl3, kd1, kd2, by decide, fun u2 p2 H7 w7 r7 ok7 cn7 hg7 => ⟨z2, fun l hl => ?_⟩⟩
    have c7 := c6.trans w7
    have r7 := PgR.same (nw_later dk c6 h6) p2 u2 r7
    have s8 := Dw.new c7.dk (o := .lst [u1, u2]) hl
    have ld := c7.dk.new hl
    have c8 := c7.trans s8
    refine ⟨_, rfl, D, 2, rfl, s8.dk, by decide, by decide, fun y H9 y0 y1 w9 => ?_⟩
    have hl9 : H9 l = some (.lst [u1, u2]) := w9.at_ ld upd_same
    have c9 := c8.trans w9
    have q1 := PgR.same (ex_same (f := lp) (nw_same dk ((w7.trans s8).trans w9))) p1 u1 r6
    have q2 := PgR.same (ex_same (f := lp) (nw_same dk (s8.trans w9))) p2 u2 r7
    obtain ⟨u3, p3, e3, r3, ok3⟩ : ∃ u3 p3, atI [u1, u2] y = some u3 ∧ PgR K (ex lp (nw H H9)) u3 p3 ∧ (p3.ok ⟨n, kd, ways, [], []⟩ ∧ p3.cnt ≤ 15 ∧ p3.hgt ≤ 8) := by
      have : y = 0 ∨ y = 1 := by omega
      rcases this with z | z <;> subst z
      · exact ⟨u1, p1, at_0, q1, ok6, cn6, by omega⟩
      · exact ⟨u2, p2, at_1, q2, ok7, cn7, by omega⟩
    refine ⟨l, _, _, _, rfl, rfl, SqL.of hl9, e3, z2, fun t ht => ?_⟩
    have s10 := Dw.new c9.dk (o := .tup [u1, u3]) ht
    have c10 := c9.trans s10
    have t0 := c9.free dk ht
    have h9 := w9.at_ lpd (s8.at_ lpd (w7.at_ lpd h6))
    have tl : t ≠ lp := (ne_of_none h9 ht).symm
    have h10 := s10.at_ lpd h9
    have hxl := r5.length
    refine ⟨lp, xs, _, rfl, rfl, h10, big' (by omega), ?_⟩
    have q1' := PgR.same (ex_same (f := lp) (nw_same dk s10)) p1 u1 q1
    have q3' := PgR.same (ex_same (f := lp) (nw_same dk s10)) p3 u3 r3
    have w10 := ((w5.trans w6).trans (w7.trans s8)).trans (w9.trans s10)
    refine ⟨_, pps ++ [(p1, p3)], _, _, _, rfl, w10.mut c3.dk hlp, upd_same, ?_, by simp [l5], fun pp hpp => ?_⟩
    · rw [ex_nw]
      refine (r5.mono fun _ _ z => z.same (ex_same (nw_same dk ((w6.trans (w7.trans s8)).trans (w9.trans s10))))).snoc ⟨t, u1, u3, rfl, SqT.of ?_, q1', q3'⟩
      rw [ex_at tl, nw_at t0]; exact upd_same
    · rcases List.mem_append.mp hpp with a | a
      · exact o5 pp a
      · rw [List.mem_singleton.mp a]; exact ⟨⟨ok6, cn6, by show p1.hgt ≤ 8; omega⟩, ok3⟩
  obtain ⟨xs, pps, x5, x6, x7, rfl, w5, h5, r5, l5, o5⟩ := hP
  have c5 := c3.trans w5
  refine ⟨(by decide : 0 ≤ sizeLine), fun lc hlc => ?_⟩
  have s6 := Dw.new c5.dk (o := .lst []) hlc
  have c6 := c5.trans s6
  have lc0 := c5.free dk hlc
  have lcd := dk.new lc0
  refine ⟨_, rfl, D, 3, rfl, s6.dk, by decide, by decide, fun m H7 m0 m1 w7 => ⟨m, rfl, by omega, by omega, ?_⟩⟩
  have c7 := c6.trans w7
  refine for_range (lo := 0) (n := m.toNat) (fun i σ H8 => ∃ ys cs x5 x6, σ = [some (.ref D.dk), some (.int n), some (.int kd), some (.ref lw), some (.ref lp), x5, x6, some (.ref lc)] ∧ Dw D H5 H8 ∧ H8 lc = some (.lst ys) ∧ All2 (ClR K (ex lc (nw H H8))) ys cs ∧ cs.length = i ∧ ∀ c ∈ cs, c.1.ok ⟨n, kd, ways, [], []⟩ ∧ c.1.small ∧ c.1.hgt ≤ 8)
    ⟨[], [], _, _, rfl, s6.trans w7, w7.at_ lcd upd_same, .nil, rfl, fun _ h => nomatch h⟩ (fun i σ H8 hi hP => ?_) (fun σ H8 hP => ?_)
  · obtain ⟨ys, cs, x5, x6, rfl, w8, h8, r8, l8, o8⟩ := hP
    have c8 := c5.trans w8
    refine ⟨_, rfl, .inl ⟨rfl, _, SqL.of h8⟩, _, rfl, _, rfl, _, rfl, D, ⟨n, kd, ways, [], []⟩, 1, rfl, c8.dk, n2, n5, kd1, kd2, by decide, fun u c H9 w9 r9 ok9 sm9 hg9 => ⟨(by decide : 4 ≤ sizeLine), fun l hl => ?_⟩⟩
    have c9 := c8.trans w9
    have r9 := CoR.same (nw_later dk c8 h8) r9
    have s10 := Dw.new c9.dk (o := .lst [.str wWon, .str wLost, .str wDrawn, .str wLost]) hl
    have ld := c9.dk.new hl
    have c10 := c9.trans s10
    refine ⟨_, rfl, D, 4, rfl, s10.dk, by decide, by decide, fun y H11 y0 y1 w11 => ?_⟩
    have hl11 : H11 l = some (.lst [.str wWon, .str wLost, .str wDrawn, .str wLost]) := w11.at_ ld upd_same
    have c11 := c10.trans w11
    obtain ⟨res, hres⟩ : ∃ res : Res, atI [V.str wWon, V.str wLost, V.str wDrawn, V.str wLost] y = some (.str res.word) := by
      have : y = 0 ∨ y = 1 ∨ y = 2 ∨ y = 3 := by omega
      rcases this with z | z | z | z <;> subst z
      · exact ⟨.won, at_0⟩
      · exact ⟨.lost, at_1⟩
      · exact ⟨.drawn, at_2⟩
      · exact ⟨.lost, at_3⟩
    refine ⟨l, _, _, _, rfl, rfl, SqL.of hl11, hres, z2, fun t ht => ?_⟩
    have s12 := Dw.new c11.dk (o := .tup [u, .str res.word]) ht
    have t0 := c11.free dk ht
    have h11 := w11.at_ lcd (s10.at_ lcd (w9.at_ lcd h8))
    have tl : t ≠ lc := (ne_of_none h11 ht).symm
    have h12 := s12.at_ lcd h11
    have hyl := r8.length
    have w12 := ((w8.trans w9).trans (s10.trans w11)).trans s12
    have q9 := CoR.same (ex_same (f := lc) (nw_same dk ((s10.trans w11).trans s12))) r9
    refine ⟨lc, ys, _, rfl, rfl, h12, big' (by omega), ?_⟩
    refine ⟨_, cs ++ [(c, res)], _, _, rfl, w12.mut c5.dk hlc, upd_same, ?_, by simp [l8], fun cc hcc => ?_⟩
    · rw [ex_nw]
      refine (r8.mono fun _ _ z => z.same (ex_same (nw_same dk ((w9.trans s10).trans (w11.trans s12))))).snoc ⟨t, u, rfl, SqT.of ?_, q9⟩
      rw [ex_at tl, nw_at t0]; exact upd_same
    · rcases List.mem_append.mp hcc with a | a
      · exact o8 cc a
      · rw [List.mem_singleton.mp a]; exact ⟨ok9, sm9, by show c.hgt ≤ 8; omega⟩
  · obtain ⟨ys, cs, x5, x6, rfl, w8, h8, r8, l8, o8⟩ := hP
    have c8 := c5.trans w8
    refine ⟨_, rfl, _, rfl, z2, fun l hl => ?_⟩
    have s9 := Dw.new c8.dk (o := .lst [.str (Str.ofString "man"), .str (Str.ofString "king")]) hl
    have c9 := c8.trans s9
    refine ⟨_, rfl, _, rfl, l, _, rfl, SqL.of upd_same, fun lk hlk => ?_⟩
    have s10 := Dw.new c9.dk (o := .lst (cutV [V.str (Str.ofString "man"), V.str (Str.ofString "king")] none (some (kd : Int)))) hlk
    have c10 := c9.trans s10
    have lkd := c9.dk.new hlk
    have klen : (cutV [V.str (Str.ofString "man"), V.str (Str.ofString "king")] none (some (kd : Int))).length = kd := by
      rw [cut_lo _ _ (by simpa using kd2), List.length_take]
      simp
      omega
    refine ⟨_, rfl, _, rfl, (by decide : 5 ≤ sizeLine), fun r hr => ?_⟩
    have s11 := Dw.new c10.dk (o := .lst [.int n, .ref lw, .ref lk, .ref lc, .ref lp]) hr
    have c11 := c10.trans s11
    have rd := c10.dk.new hr
    have u8 := (s9.trans s10).trans s11
    refine q r ⟨n, kd, ways, cs, pps⟩ _ c11 ⟨lw, lk, lc, lp, _, SqL.of (by rw [wo_at rd]; exact upd_same), SqL.of (by rw [wo_at lkd]; exact s11.at_ lkd upd_same), klen, ⟨⟨wv, SqL.of ?_, ?_⟩, ⟨ys, SqL.of ?_, ?_⟩, ⟨xs, SqL.of ?_, ?_⟩⟩⟩ ⟨n2, n5, kd1, kd2, wok, by show ways.length ≤ 4; omega, by show pps.length = kd; omega, fun pp hpp => ?_⟩ ⟨by show cs.length ≤ 2; omega, fun c hc => ?_⟩
    · rw [wo_at lwd]; exact u8.at_ lwd (w8.at_ lwd (w5.at_ lwd hlw))
    · exact hwv.mono fun _ _ z => z.same ((w5.trans w8).trans u8).same
    · rw [wo_at lcd]; exact u8.at_ lcd h8
    · exact r8.mono fun _ _ z => (z.same ex_sub).same ((nw_same dk u8).trans (nw_wo dk))
    · rw [wo_at lpd]; exact u8.at_ lpd (w8.at_ lpd h5)
    · exact r5.mono fun _ _ z => (z.same ex_sub).same ((nw_same dk (w8.trans u8)).trans (nw_wo dk))
    · have z := o5 pp hpp
      exact ⟨⟨ok_same (G := ⟨n, kd, ways, [], []⟩) (G' := ⟨n, kd, ways, cs, pps⟩) rfl rfl _ z.1.1, z.1.2⟩, ⟨ok_same (G := ⟨n, kd, ways, [], []⟩) (G' := ⟨n, kd, ways, cs, pps⟩) rfl rfl _ z.2.1, z.2.2⟩⟩
    · have z := o8 c hc
      exact ⟨cok_same (G := ⟨n, kd, ways, [], []⟩) (G' := ⟨n, kd, ways, cs, pps⟩) rfl _ z.1, z.2⟩
end Sk

/-! Sk: Board, Game, the law's game. -/
namespace Sk
open PySem L2 PySem.Spec PyProof.Rows
variable {P : Program} {w : World} {K : PySem.W.Frag} {mg : Str → Option Value} {base : Heap}

section
variable {p : Addr} {H H1 : Hp} {G : GD}
theorem Ov.seq (a : Ov p H H1) {b : Addr} {xs : List V} (h : SqL K H b xs) : SqL K H1 b xs := by
  rcases h with (h | ⟨u, h⟩) | h
  · exact .inl (.inl (a.at h (by intro _ _ _ z; cases z)))
  · exact .inl (.inr ⟨u, a.at h (by intro _ _ _ z; cases z)⟩)
  · exact .inr h
mutual
theorem Ov.pg (a : Ov p H H1) : ∀ (q : Pg) (v : V), PgR K H v q → PgR K H1 v q
  | .go _, _, h => by
    cases h with
    | one h1 h2 => simp at h2
    | go h => exact .go (a.tk _ _ h)
  | .empty, _, h => by cases h with | one h1 h2 => exact .one (a.tk _ _ h1) h2
  | .own, _, h => by cases h with | one h1 h2 => exact .one (a.tk _ _ h1) h2
  | .foe, _, h => by cases h with | one h1 h2 => exact .one (a.tk _ _ h1) h2
  | .take, _, h => by cases h with | one h1 h2 => exact .one (a.tk _ _ h1) h2
  | .rest, _, h => by cases h with | one h1 h2 => exact .one (a.tk _ _ h1) h2
  | .kin _, _, h => by
    cases h with
    | one h1 h2 => simp at h2
    | kin h => exact .kin (a.tk _ _ h)
  | .lay _, _, h => by
    cases h with
    | one h1 h2 => simp at h2
    | lay h => exact .lay (a.tk _ _ h)
  | .row ps, _, h => by
    cases h with
    | one h1 h2 => simp at h2
    | row h1 h2 h3 => exact .row (a.tk _ _ h1) (a.seq h2) (Ov.pgs a ps _ h3)
  | .either ps, _, h => by
    cases h with
    | one h1 h2 => simp at h2
    | either h1 h2 h3 => exact .either (a.tk _ _ h1) (a.seq h2) (Ov.pgs a ps _ h3)
  | .any p, _, h => by
    cases h with
    | one h1 h2 => simp at h2
    | any h1 h2 => exact .any (a.tk _ _ h1) (Ov.pg a p _ h2)
theorem Ov.pgs (a : Ov p H H1) : ∀ (ps : List Pg) (vs : List V), PgRs K H vs ps → PgRs K H1 vs ps
  | [], _, h => by cases h; exact .nil
  | q :: ps, _, h => by
    cases h with
    | cons h1 h2 => exact .cons (Ov.pg a q _ h1) (Ov.pgs a ps _ h2)
end
theorem Ov.co (a : Ov p H H1) {v : V} {c : Cond} (h : CoR K H v c) : CoR K H1 v c := by
  induction h with
  | lacks h => exact .lacks (a.tk _ _ h)
  | holds h1 h2 => exact .holds (a.tk _ _ h1) (a.seq h2)
  | stuck h => exact .stuck (a.tk _ _ h)
  | few h => exact .few (a.tk _ _ h)
  | not h1 _ ih => exact .not (a.tk _ _ h1) ih
  | and h1 _ _ ih1 ih2 => exact .and (a.tk _ _ h1) ih1 ih2
  | or h1 _ _ ih1 ih2 => exact .or (a.tk _ _ h1) ih1 ih2
theorem Ov.way (a : Ov p H H1) {v : V} {r : List Int} (h : WayR K H v r) : WayR K H1 v r := let ⟨b, l, x, e1, h1, h2⟩ := h; ⟨b, l, x, e1, a.tk _ _ h1, a.seq h2⟩
theorem Ov.cl (a : Ov p H H1) {v : V} {r : Cond × Res} (h : ClR K H v r) : ClR K H1 v r := let ⟨b, x, e1, h1, h2⟩ := h; ⟨b, x, e1, a.tk _ _ h1, a.co h2⟩
theorem Ov.pp (a : Ov p H H1) {v : V} {r : Pg × Pg} (h : PpR K H v r) : PpR K H1 v r := let ⟨b, x, y, e1, h1, h2, h3⟩ := h; ⟨b, x, y, e1, a.tk _ _ h1, a.pg _ _ h2, a.pg _ _ h3⟩
end
theorem bf_eq (n : Int) (l : Addr) : putF "ways" (.ref l) (putF "size" (.int n) []) = bf n l := by
  have n1 : ¬ (("size" : Str) = "ways") := by decide +kernel
  simp [putF, bf, n1]
theorem gf_eq (b lk lc lp : Addr) : putF "programs" (.ref lp) (putF "clauses" (.ref lc) (putF "kinds" (.ref lk) (putF "board" (.ref b) []))) = gf b lk lc lp := by
  have n1 : ¬ (("board" : Str) = "kinds") := by decide +kernel
  have n2 : ¬ (("board" : Str) = "clauses") := by decide +kernel
  have n3 : ¬ (("kinds" : Str) = "clauses") := by decide +kernel
  have n4 : ¬ (("board" : Str) = "programs") := by decide +kernel
  have n5 : ¬ (("kinds" : Str) = "programs") := by decide +kernel
  have n6 : ¬ (("clauses" : Str) = "programs") := by decide +kernel
  simp [putF, gf, n1, n2, n3, n4, n5, n6]
def sp_board (K : PySem.W.Frag) (T : Top K mg) : Sp := fun vs H Q _ => ∃ (p dx lw : Addr) (n : Int) (xs : List V) (ways : List (List Int)), vs = [.ref p, .int n, .ref lw] ∧ H p = some (.ins T.c_Board dx []) ∧ SqL K H lw xs ∧ All2 (WayR K H) xs ways ∧ xs.length ≤ 1000 ∧
  ∀ Hf l2 ys, Ov p H Hf → Hf p = some (.ins T.c_Board dx (bf n l2)) → SqL K Hf l2 ys → All2 (WayR K Hf) ys ways → Q .non Hf
theorem ok_Board_init (T : Top K mg) : FnOk P w K mg base CX0 1 T.Board_init_a T.Board_init_fd P_Board_init (sp_board K T) := by
  refine T.Board_init_F.ok sc_Board_init (fun vs H Q E h => ?_) (fun cdv A outer s H vs Q E hr hh => ?_)
  · obtain ⟨_, _, _, _, _, _, rfl, _⟩ := h; rfl
  obtain ⟨p, dx, lw, n, xs, ways, rfl, hp, hl, hw, hz, q⟩ := hh
  have nd := sc_Board_init.nd
  refine ⟨_, (pss_cons (ps_fld (pv 0) (pv 1) rfl)
    (pss_one (ps_fld (pv 0) (pe_lc (own := [("name", 3), ("row", 4)]) (g := gTup K 2 (gCons (gName 3) (gCons (gName 4) (gNil)))) (tt := tYes) rfl nd (pi_list (pv 2)) (blkOk_by (N := N_Board_init) (sc := defScope s_Board_init) (by decide +kernel)) (fun _ _ _ _ _ => (pg_tup rfl (pgs_cons (pg_name (i := 3) nd rfl (Or.inl rfl)) (pgs_cons (pg_name (i := 4) nd rfl (Or.inl rfl)) pgs_nil)))) (fun _ _ _ _ _ => pts_nil) (fun _ _ _ _ _ => (pe_tup (pa_cons (pv 3) (pa_cons (pe_callTy (call_list_ofK (K := K) rfl) rfl T.z_list (by decide +kernel) (pa_cons (pv 4) pa_nil)) pa_nil))))) rfl))), ?_⟩
  refine ⟨_, rfl, _, rfl, p, T.c_Board, dx, [], rfl, hp, T.Board.cl, T.n_Board_size, (by show 0 < 1000; decide), ?_⟩
  have o1 : Ov p H (upd H p (.ins T.c_Board dx (putF "size" (.int n) []))) := Ov.put ⟨_, _, _, hp⟩
  refine ⟨_, rfl, lw, rfl, ⟨_, o1.seq hl⟩, fun D hD => ?_⟩
  refine lc_it (walkL (K := K) (a := lw) (xs := xs)) (fun i H2 => ∃ ys, Same (upd H p (.ins T.c_Board dx (putF "size" (.int n) []))) H2 ∧ H2 D = some (.lst ys) ∧ All2 (WayR K (ex D H2)) ys (ways.take i)) ⟨[], Same.new hD, upd_same, .nil⟩ (fun i H2 _ ⟨_, e, _⟩ => e.seq (o1.seq hl)) (fun i x H2 H2' hi hP hY => ?_) (fun H2 hP => ?_)
  · obtain ⟨ys, e2, h2, r2⟩ := hP
    obtain ⟨rfl, hx⟩ := hY
    obtain ⟨row, hrow, hwr⟩ := hw.get' hx
    obtain ⟨a, l, nm, rfl, h3, h4⟩ := (o1.way hwr).same e2
    refine ⟨a, _, rfl, h3, rfl, _, _, rfl, _, _, rfl, rfl, rfl, _, rfl, _, rfl, l, _, rfl, .inl h4, fun l3 hl3 => ⟨(by decide : 2 ≤ sizeLine), fun t ht => ?_⟩⟩
    have e3 := Same.new (o := .lst (row.map .int)) hl3
    have e4 := Same.new (o := .tup [.str nm, .ref l3]) ht
    have l3D : l3 ≠ D := (ne_of_none h2 hl3).symm
    have tD : t ≠ D := (ne_of_none (e3 _ _ h2) ht).symm
    have l3t : l3 ≠ t := ne_of_none (show upd H2' l3 (.lst (row.map .int)) l3 = some _ from upd_same) ht
    have hyl := r2.length
    have htl : (ways.take i).length ≤ 1000 := by rw [List.length_take, ← hw.length]; omega
    refine ⟨_, e4 _ _ (e3 _ _ h2), big' (by omega), ys ++ [.ref t], Same.mut (e2.trans (e3.trans e4)) hD, upd_same, ?_⟩
    rw [take_one hrow]
    have exq : ex D (upd (upd (upd H2' l3 (.lst (row.map .int))) t (.tup [.str nm, .ref l3])) D (.lst (ys ++ [.ref t]))) = ex D (upd (upd H2' l3 (.lst (row.map .int))) t (.tup [.str nm, .ref l3])) := by
      funext b
      by_cases z : b = D
      · simp [ex, z]
      · rw [ex_at z, ex_at z, upd_ne z]
    rw [exq]
    refine (r2.mono fun _ _ z => z.same (ex_same (e3.trans e4))).snoc ⟨t, l3, nm, rfl, SqT.of ?_, SqL.of ?_⟩
    · rw [ex_at tD]; exact upd_same
    · rw [ex_at l3D, upd_ne l3t]; exact upd_same
  · obtain ⟨ys, e2, h2, r2⟩ := hP
    rw [hw.length, List.take_length] at r2
    have hp2 := e2 _ _ (show upd H p (.ins T.c_Board dx (putF "size" (.int n) [])) p = some _ from upd_same)
    refine ⟨_, rfl, p, T.c_Board, dx, _, rfl, hp2, T.Board.cl, T.n_Board_ways, (by show 1 < 1000; decide), ?_⟩
    have o2 : Ov p H2 (upd H2 p (.ins T.c_Board dx (putF "ways" (.ref D) (putF "size" (.int n) [])))) := Ov.put ⟨_, _, _, hp2⟩
    exact q _ D ys ((o1.trans (Ov.same o1.ins' e2)).trans o2) (by rw [upd_same, bf_eq]) (o2.seq (SqL.of h2)) (r2.mono fun _ _ z => o2.way (z.same ex_sub))
def sp_gameI (K : PySem.W.Frag) (T : Top K mg) : Sp := fun vs H Q _ => ∃ (p dx b lk lc lp : Addr) (ks cs ps : List V), vs = [.ref p, .ref b, .ref lk, .ref lc, .ref lp] ∧ H p = some (.ins T.c_Game dx []) ∧ SqL K H lk ks ∧ SqL K H lc cs ∧ SqL K H lp ps ∧
  ∀ Hf lk' lc' lp', Ov p H Hf → Hf p = some (.ins T.c_Game dx (gf b lk' lc' lp')) → SqL K Hf lc' cs → SqL K Hf lp' ps → Q .non Hf
theorem ok_Game_init (T : Top K mg) : FnOk P w K mg base CX0 1 T.Game_init_a T.Game_init_fd P_Game_init (sp_gameI K T) := by
  refine T.Game_init_F.ok sc_Game_init (fun vs H Q E h => ?_) (fun cdv A outer s H vs Q E hr hh => ?_)
  · obtain ⟨_, _, _, _, _, _, _, _, _, rfl, _⟩ := h; rfl
  obtain ⟨p, dx, b, lk, lc, lp, ks, cs, ps, rfl, hp, hk, hc, hps, q⟩ := hh
  have nd := sc_Game_init.nd
  refine ⟨_, (pss_cons (ps_fld (pv 0) (pv 1) rfl)
    (pss_cons (ps_fld (pv 0) (pe_callTy call_list_of rfl T.z_list (by decide +kernel) (pa_cons (pv 2) pa_nil)) rfl)
    (pss_cons (ps_fld (pv 0) (pe_callTy call_list_of rfl T.z_list (by decide +kernel) (pa_cons (pv 3) pa_nil)) rfl)
    (pss_one (ps_fld (pv 0) (pe_callTy call_list_of rfl T.z_list (by decide +kernel) (pa_cons (pv 4) pa_nil)) rfl))))), ?_⟩
  refine ⟨_, rfl, _, rfl, p, T.c_Game, dx, [], rfl, hp, T.Game.cl, T.n_Game_board, (by show 0 < 1000; decide), ?_⟩
  have o1 : Ov p H (upd H p (.ins T.c_Game dx (putF "board" (.ref b) []))) := Ov.put ⟨_, _, _, hp⟩
  refine ⟨_, rfl, lk, ks, rfl, .inl (o1.seq hk), fun l2 h2 => ?_⟩
  have e2 := Same.new (o := .lst ks) h2
  have o2 := o1.trans (Ov.same o1.ins' e2)
  have hp2 := e2 _ _ (show upd H p (.ins T.c_Game dx (putF "board" (.ref b) [])) p = some _ from upd_same)
  refine ⟨_, rfl, p, T.c_Game, dx, _, rfl, hp2, T.Game.cl, T.n_Game_kinds, (by show 1 < 1000; decide), ?_⟩
  have p3 : Ov p _ (upd (upd (upd H p (.ins T.c_Game dx (putF "board" (.ref b) []))) l2 (.lst ks)) p (.ins T.c_Game dx (putF "kinds" (.ref l2) (putF "board" (.ref b) [])))) := Ov.put ⟨_, _, _, hp2⟩
  have o3 := o2.trans p3
  refine ⟨_, rfl, lc, cs, rfl, .inl (o3.seq hc), fun l4 h4 => ?_⟩
  have e4 := Same.new (o := .lst cs) h4
  have q4 := Ov.same o3.ins' e4
  have o4 := o3.trans q4
  have hp4 := e4 _ _ (show upd (upd (upd H p (.ins T.c_Game dx (putF "board" (.ref b) []))) l2 (.lst ks)) p (.ins T.c_Game dx (putF "kinds" (.ref l2) (putF "board" (.ref b) []))) p = some _ from upd_same)
  refine ⟨_, rfl, p, T.c_Game, dx, _, rfl, hp4, T.Game.cl, T.n_Game_clauses, (by show 2 < 1000; decide), ?_⟩
  have hl4 : SqL K (upd (upd (upd (upd H p (.ins T.c_Game dx (putF "board" (.ref b) []))) l2 (.lst ks)) p (.ins T.c_Game dx (putF "kinds" (.ref l2) (putF "board" (.ref b) [])))) l4 (.lst cs)) l4 cs := SqL.of upd_same
  generalize upd (upd (upd (upd H p (.ins T.c_Game dx (putF "board" (.ref b) []))) l2 (.lst ks)) p (.ins T.c_Game dx (putF "kinds" (.ref l2) (putF "board" (.ref b) [])))) l4 (.lst cs) = H4 at o4 hp4 hl4
  have p5 : Ov p H4 (upd H4 p (.ins T.c_Game dx (putF "clauses" (.ref l4) (putF "kinds" (.ref l2) (putF "board" (.ref b) []))))) := Ov.put ⟨_, _, _, hp4⟩
  have o5 := o4.trans p5
  refine ⟨_, rfl, lp, ps, rfl, .inl (o5.seq hps), fun l6 h6 => ?_⟩
  have e6 := Same.new (o := .lst ps) h6
  have q6 := Ov.same o5.ins' e6
  have o6 := o5.trans q6
  have hp6 := e6 _ _ (show upd H4 p (.ins T.c_Game dx (putF "clauses" (.ref l4) (putF "kinds" (.ref l2) (putF "board" (.ref b) [])))) p = some _ from upd_same)
  refine ⟨_, rfl, p, T.c_Game, dx, _, rfl, hp6, T.Game.cl, T.n_Game_programs, (by show 3 < 1000; decide), ?_⟩
  have hl6 : SqL K (upd (upd H4 p (.ins T.c_Game dx (putF "clauses" (.ref l4) (putF "kinds" (.ref l2) (putF "board" (.ref b) []))))) l6 (.lst ps)) l6 ps := SqL.of upd_same
  have p7 : Ov p _ (upd (upd (upd H4 p (.ins T.c_Game dx (putF "clauses" (.ref l4) (putF "kinds" (.ref l2) (putF "board" (.ref b) []))))) l6 (.lst ps)) p (.ins T.c_Game dx (putF "programs" (.ref l6) (putF "clauses" (.ref l4) (putF "kinds" (.ref l2) (putF "board" (.ref b) [])))))) := Ov.put ⟨_, _, _, hp6⟩
  exact q _ l2 l4 l6 (o6.trans p7) (by rw [upd_same, gf_eq]) (((p5.trans q6).trans p7).seq hl4) (p7.seq hl6)
def sp_law_game (K : PySem.W.Frag) (T : Top K mg) : Sp := fun vs H Q _ => ∃ (r : Addr) (G : GD), vs = [.ref r] ∧ RulesAt K H r G ∧ G.ways.length ≤ 1000 ∧ ∀ g H', Same H H' → GameAt K H' T.c_Game T.c_Board g G → Q (.ref g) H'
theorem Ov.new {p dx : Addr} {H Hf : Hp} {C : Addr} (hp : H p = none) (hdx : H dx = none) (hne : dx ≠ p) (o : Ov p (upd (upd H dx (.own p)) p (.ins C dx [])) Hf) : Same H Hf := fun b u hb => o.keep b u (ne_of_none hb hp) (by rw [upd_ne (ne_of_none hb hp), upd_ne (ne_of_none hb hdx)]; exact hb)
theorem ok_L_game (T : Top K mg) : FnOk P w K mg base CX0 3 T.L_game.a T.L_game.fd P_L_game (sp_law_game K T) := by
  refine T.L_game.F.ok sc_L_game (fun vs H Q E h => ?_) (fun cdv A outer s H vs Q E hr hh => ?_)
  · obtain ⟨_, _, rfl, _⟩ := h; rfl
  obtain ⟨r, G, rfl, ⟨lw, lk, lc, lp, ks, h1, h2, h3, hP⟩, hwl, q⟩ := hh
  have nd := sc_L_game.nd
  refine ⟨_, (pss_one (ps_ret (pe_make T.Game.mk1 (ok_Game_init T) (hr.mono (by decide)) rfl T.Game.m T.Game_init_b .nil pass0 (pa_cons (pe_make T.Board.mk1 (ok_Board_init T) (hr.mono (by decide)) rfl T.Board.m T.Board_init_b .nil pass0 (pa_cons (pe_ix ix_list (pv 0) pe_int (fun _ _ => rfl)) (pa_cons (pe_callTy call_list_of rfl T.z_list (by decide +kernel) (pa_cons (pe_ix ix_list (pv 0) pe_int (fun _ _ => rfl)) pa_nil)) pa_nil))) (pa_cons (pe_callTy call_list_of rfl T.z_list (by decide +kernel) (pa_cons (pe_ix ix_list (pv 0) pe_int (fun _ _ => rfl)) pa_nil)) (pa_cons (pe_callTy call_list_of rfl T.z_list (by decide +kernel) (pa_cons (pe_ix ix_list (pv 0) pe_int (fun _ _ => rfl)) pa_nil)) (pa_cons (pe_callTy call_list_of rfl T.z_list (by decide +kernel) (pa_cons (pe_ix ix_list (pv 0) pe_int (fun _ _ => rfl)) pa_nil)) pa_nil))))))), ?_⟩
  obtain ⟨wv, w1, w2⟩ := hP.ways
  obtain ⟨cv, c1, c2⟩ := hP.clauses
  obtain ⟨pv', p1, p2⟩ := hP.progs
  refine ⟨_, rfl, r, _, _, _, rfl, rfl, h1, at_0, _, rfl, r, _, _, _, rfl, rfl, h1, at_1, lw, wv, rfl, .inl w1, fun l1 hl1 => ?_⟩
  have e1 := Same.new (o := .lst wv) hl1
  intro b dxb hb hdb hnb
  have eb : Same (upd H l1 (.lst wv)) (upd (upd (upd H l1 (.lst wv)) dxb (.own b)) b (.ins T.c_Board dxb [])) := (Same.new hdb).trans (Same.new (by rw [upd_ne hnb.symm]; exact hb))
  refine ⟨b, dxb, l1, G.n, wv, G.ways, rfl, upd_same, SqL.of (eb _ _ upd_same), w2.mono fun _ _ z => z.same (e1.trans eb), by rw [w2.length]; exact hwl, fun Hf l2 ys of hf hl2 hy2 => ⟨rfl, ?_⟩⟩
  have ef : Same H Hf := e1.trans (Ov.new hb hdb hnb of)
  refine ⟨_, rfl, r, _, _, _, rfl, rfl, ef.seq h1, at_2, lk, ks, rfl, .inl (ef.seq h2), fun m1 hm1 => ?_⟩
  have a1 := Same.new (o := .lst ks) hm1
  refine ⟨_, rfl, r, _, _, _, rfl, rfl, (ef.trans a1).seq h1, at_3, lc, cv, rfl, .inl ((ef.trans a1).seq c1), fun m2 hm2 => ?_⟩
  have a2 := Same.new (o := .lst cv) hm2
  refine ⟨_, rfl, r, _, _, _, rfl, rfl, ((ef.trans a1).trans a2).seq h1, at_4, lp, pv', rfl, .inl (((ef.trans a1).trans a2).seq p1), fun m3 hm3 => ?_⟩
  have a3 := Same.new (o := .lst pv') hm3
  intro g dxg hg hdg hng
  have a4 : Same _ (upd (upd (upd (upd (upd Hf m1 (.lst ks)) m2 (.lst cv)) m3 (.lst pv')) dxg (.own g)) g (.ins T.c_Game dxg [])) := (Same.new hdg).trans (Same.new (by rw [upd_ne hng.symm]; exact hg))
  have s1 := ((a2.trans a3).trans a4).seq (SqL.of (K := K) (show upd Hf m1 (.lst ks) m1 = some _ from upd_same))
  have s2 := (a3.trans a4).seq (SqL.of (K := K) (show upd (upd Hf m1 (.lst ks)) m2 (.lst cv) m2 = some _ from upd_same))
  have s3 := a4.seq (SqL.of (K := K) (show upd (upd (upd Hf m1 (.lst ks)) m2 (.lst cv)) m3 (.lst pv') m3 = some _ from upd_same))
  refine ⟨g, dxg, b, m1, m2, m3, ks, cv, pv', rfl, upd_same, s1, s2, s3, fun Hg lk' lc' lp' og hgg t1 t2 => ⟨rfl, ?_⟩⟩
  have eg : Same Hf Hg := ((a1.trans a2).trans a3).trans (Ov.new hg hdg hng og)
  have eH := ef.trans eg
  exact q g Hg eH ⟨b, lk', lc', lp', l2, dxg, dxb, hgg, eg _ _ hf, ⟨ys, eg.seq hl2, hy2.mono fun _ _ z => z.same eg⟩, ⟨cv, t1, c2.mono fun _ _ z => z.same eH⟩, ⟨pv', t2, p2.mono fun _ _ z => z.same eH⟩⟩
def sp_position (K : PySem.W.Frag) : Sp := fun vs H Q _ => ∃ (D : Dk) (r : Addr) (G : GD), vs = [.ref D.dk, .ref r, .int 3] ∧ Deck D H ∧ RulesAt K (wo D H) r G ∧ GOk G ∧ ∀ v p H', Dw D H H' → R K H' v p → PosOk G p → Q v H'
theorem ok_L_position (T : Top K mg) : FnOk P w K mg base CX0 2 T.L_position.a T.L_position.fd P_L_position (sp_position K) := by
  refine T.L_position.F.ok sc_L_position (fun vs H Q E h => ?_) (fun cdv A outer s H vs Q E hr hh => ?_)
  · obtain ⟨_, _, _, rfl, _⟩ := h; rfl
  obtain ⟨D, r, G, rfl, dk, hR, gok, q⟩ := hh
  have nd := sc_L_position.nd
  refine ⟨_, (pss_cons (ps_setLc (i := 3) (own := [("_law_k", 4)]) (g := gName 4) (tt := tYes) rfl nd rfl rfl (sw_true rfl rfl rfl (by decide +kernel)) (pi_range1 rfl T.z_range (pa_cons (pe_ix ix_list (pv 1) pe_int (fun _ _ => rfl)) pa_nil)) (blkOk_by (N := N_L_position) (sc := defScope s_L_position) (by decide +kernel)) (fun _ _ _ _ _ => (pg_name (i := 4) nd rfl (Or.inl rfl))) (fun _ _ _ _ _ => pts_nil) (fun _ _ _ _ _ => pe_int))
    (pss_cons (ps_for PassesOwn.never rfl (pi_range1 rfl T.z_range (pa_cons (pe_op op_add pe_int (pe_call (ok_L_draw T) (hr.mono (by decide)) rfl T.L_draw.m T.L_draw.k T.L_draw.b .nil pass0 (pa_cons (pv 0) (pa_cons (pv 2) pa_nil)))) pa_nil)) (pg_name (i := 4) nd rfl (Or.inl rfl))
      (pss_cons (ps_set (i := 5) nd rfl (Or.inl rfl) (pe_call (ok_L_draw T) (hr.mono (by decide)) rfl T.L_draw.m T.L_draw.k T.L_draw.b .nil pass0 (pa_cons (pv 0) (pa_cons (pe_ix ix_list (pv 1) pe_int (fun _ _ => rfl)) pa_nil))))
      (pss_one (ps_set (i := 3) nd rfl (Or.inl rfl) (pe_op op_cat (pe_op op_cat (pe_slice sl_list (pv 3) po_none (po_some (pv 5))) (pe_lst (pa_cons (pe_op op_add pe_int (pe_call (ok_L_draw T) (hr.mono (by decide)) rfl T.L_draw.m T.L_draw.k T.L_draw.b .nil pass0 (pa_cons (pv 0) (pa_cons (pe_op op_mul pe_int (pe_callB call_len_seq rfl T.z_len PySem.boot_len (pa_cons (pe_ix ix_list (pv 1) pe_int (fun _ _ => rfl)) pa_nil))) pa_nil)))) pa_nil))) (pe_slice sl_list (pv 3) (po_some (pe_op op_add (pv 5) pe_int)) po_none))))))
    (pss_one (ps_ret (pe_tup (pa_cons (pe_call (ok_L_draw T) (hr.mono (by decide)) rfl T.L_draw.m T.L_draw.k T.L_draw.b .nil pass0 (pa_cons (pv 0) (pa_cons pe_int pa_nil))) (pa_cons (pe_callTy call_tuple_of rfl T.z_tuple (by decide +kernel) (pa_cons (pv 3) pa_nil)) pa_nil))))))), ?_⟩
  obtain ⟨lw, lk, lc, lp, ks, h1, h2, h3, hP⟩ := hR
  have n5 := gok.n5
  have n2 := gok.n2
  have k1 := gok.k1
  have k2 := gok.k2
  have h3' : (ks.length : Int) = (G.kd : Int) := by rw [h3]
  have r1 : ∀ {H2 : Hp}, Dw D H H2 → SqL K H2 r [.int G.n, .ref lw, .ref lk, .ref lc, .ref lp] := fun c => (c.same.trans wo_sub).seq h1
  have rk : ∀ {H2 : Hp}, Dw D H H2 → SqL K H2 lk ks := fun c => (c.same.trans wo_sub).seq h2
  refine ⟨_, rfl, r, _, _, _, rfl, rfl, r1 (Dw.rfl' dk), at_0, (G.n : Int), rfl, by omega, by omega, fun a ha => ?_⟩
  refine lc_range (lo := 0) (n := ((G.n : Int)).toNat) (fun j H2 => H2 = upd H a (.lst ((List.replicate j (0 : Int)).map V.int))) rfl (fun j H2 hj hP => ?_) (fun H2 hP => ?_)
  · subst hP
    refine ⟨rfl, _, upd_same, big' (by simp; omega), ?_⟩
    rw [upd_upd, List.replicate_succ', List.map_append]
    rfl
  subst hP
  have hn : ((G.n : Int)).toNat = G.n := Int.toNat_natCast _
  rw [hn]
  have c0 := Dw.new dk (o := .lst ((List.replicate G.n (0 : Int)).map V.int)) ha
  refine ⟨_, rfl, _, rfl, D, 3, rfl, c0.dk, by decide, by decide, fun m H1 m0 m1 w1 => ⟨_, _, rfl, rfl, 1 + m, rfl, by omega, by omega, ?_⟩⟩
  have ad := dk.new ha
  refine for_range (lo := 0) (n := (1 + m).toNat) (fun i σ H3 => ∃ la ms x4 x5, σ = [some (.ref D.dk), some (.ref r), some (.int 3), some (.ref la), x4, x5] ∧ Dw D H H3 ∧ H3 la = some (.lst (ms.map V.int)) ∧ la ≠ D.dk ∧ MenOk G ms ∧ full ms ≤ i)
    ⟨a, _, _, _, rfl, c0.trans w1, w1.at_ ad upd_same, ad, ⟨by simp, fun x hx => by rw [List.mem_replicate] at hx; omega⟩, ?_⟩ (fun i σ H3 hi hP => ?_) (fun σ H3 hP => ?_)
  · have : ∀ k, full (List.replicate k (0 : Int)) = 0 := fun k => by
      induction k with
      | zero => rfl
      | succ k ih => rw [List.replicate_succ]; unfold full; rw [ih]; rfl
    rw [this]
    exact Nat.le_refl 0
  · obtain ⟨la, ms, x4, x5, rfl, c3, hla, lad, mok, fl⟩ := hP
    refine ⟨_, rfl, _, rfl, r, _, _, _, rfl, rfl, r1 c3, at_0, D, (G.n : Int), rfl, c3.dk, by omega, by omega, fun f H4 f0 f1 w4 => ?_⟩
    have c4 := c3.trans w4
    have hla4 := w4.at_ lad hla
    have ml := mok.len
    have mlen : (ms.map V.int).length = G.n := by rw [List.length_map]; exact ml
    refine ⟨_, rfl, _, rfl, _, rfl, la, _, rfl, SqL.of hla4, fun b1 hb1 => ?_⟩
    have s5 := Dw.new c4.dk (o := .lst (cutV (ms.map V.int) none (some f))) hb1
    have b1d := c4.dk.new hb1
    have c5 := c4.trans s5
    refine ⟨_, rfl, _, rfl, r, _, _, _, rfl, rfl, r1 c5, at_2, lk, ks, rfl, .inl (rk c5), _, _, rfl, rfl, .inr (by omega), D, 2 * (ks.length : Int), rfl, s5.dk, by omega, by omega, fun x H6 x0 x1 w6 => ⟨_, _, rfl, rfl, (by decide : 1 ≤ sizeLine), fun b2 hb2 => ?_⟩⟩
    have c6 := c5.trans w6
    have s7 := Dw.new c6.dk (o := .lst [.int (1 + x)]) hb2
    have b2d := c6.dk.new hb2
    have c7 := c6.trans s7
    have hb17 := s7.at_ b1d (w6.at_ b1d upd_same)
    have l1 := cutV_length (ms.map V.int) none (some f)
    have l2 := cutV_length (ms.map V.int) (some (f + 1)) none
    refine ⟨b1, b2, _, _, rfl, rfl, hb17, upd_same, big (by rw [List.length_singleton]; omega), fun b3 hb3 => ?_⟩
    have s8 := Dw.new c7.dk (o := .lst (cutV (ms.map V.int) none (some f) ++ [.int (1 + x)])) hb3
    have b3d := c7.dk.new hb3
    have c8 := c7.trans s8
    have hla8 := s8.at_ lad (s7.at_ lad (w6.at_ lad (s5.at_ lad hla4)))
    refine ⟨_, rfl, _, rfl, _, _, rfl, rfl, _, rfl, la, _, rfl, SqL.of hla8, fun b4 hb4 => ?_⟩
    have s9 := Dw.new c8.dk (o := .lst (cutV (ms.map V.int) (some (f + 1)) none)) hb4
    have c9 := c8.trans s9
    refine ⟨b3, b4, _, _, rfl, rfl, s9.at_ b3d upd_same, upd_same, big (by rw [List.length_append, List.length_singleton]; omega), fun b5 hb5 => ?_⟩
    have b5d := c9.dk.new hb5
    have e5 : cutV (ms.map V.int) none (some f) ++ [V.int (1 + x)] ++ cutV (ms.map V.int) (some (f + 1)) none = (setM ms f (1 + x)).map V.int := cut_set f0 (by rw [ml]; exact f1)
    refine ⟨b5, setM ms f (1 + x), _, _, rfl, c9.trans (Dw.new c9.dk hb5), by rw [upd_same, e5], b5d, mok.set (by omega) (by rw [h3] at x1; omega), ?_⟩
    have := full_set (1 + x) ms f.toNat
    show full (List.set _ _ _) ≤ _
    omega
  · obtain ⟨la, ms, x4, x5, rfl, c3, hla, lad, mok, fl⟩ := hP
    refine ⟨_, rfl, D, 2, rfl, c3.dk, by decide, by decide, fun t H4 t0 t1 w4 => ⟨_, rfl, la, _, rfl, .inl ⟨SqL.of (w4.at_ lad hla), fun tm htm => ⟨(by decide : 2 ≤ sizeLine), fun tp htp => ?_⟩⟩⟩⟩
    have c4 := c3.trans w4
    have s5 := Dw.new c4.dk (o := .tup (ms.map V.int)) htm
    have s6 := Dw.new s5.dk (o := .tup [.int t, .ref tm]) htp
    have h6 : SqT K (upd (upd H4 tm (.tup (ms.map V.int))) tp (.tup [.int t, .ref tm])) tm (ms.map V.int) := SqT.of (s6.at_ (c4.dk.new htm) upd_same)
    exact q _ ⟨t, ms⟩ _ (c4.trans (s5.trans s6)) (R.ofPos (p := ⟨t, ms⟩) (SqT.of upd_same) h6) ⟨mok, by show full ms ≤ 3; omega, by show t = 0 ∨ t = 1; omega⟩
end Sk

/-! Sk: the law's step. -/
namespace Sk
open PySem L2 PySem.Spec PyProof.Rows
variable {P : Program} {w : World} {K : PySem.W.Frag} {mg : Str → Option Value} {base : Heap}

theorem valP {k c : Key} {v : V} (kvs : List (Key × V)) : ¬ (kvs.any fun kv => decide (kv.1 = k)) = true → valV (putK kvs k v) c = if c = k then (match valV kvs c with | some x => some x | none => some v) else valV kvs c := by
  intro h
  unfold putK
  rw [if_neg h]
  induction kvs with
  | nil =>
    show valV [(k, v)] c = _
    by_cases e : c = k
    · rw [if_pos e, valV_pos e.symm]; rfl
    · rw [if_neg e, valV_neg (fun z => e z.symm)]
  | cons p kvs ih =>
    have h' : ¬ (kvs.any fun kv => decide (kv.1 = k)) = true := fun z => h (by rw [List.any_cons, z, Bool.or_true])
    by_cases e2 : p.1 = c
    · rw [List.cons_append, valV_pos e2, valV_pos e2]
      split <;> rfl
    · rw [List.cons_append, valV_neg e2, valV_neg e2]; exact ih h'
def fits4 (a b c d : V) : List (Key × V) := [(Sum.inr wEmpty, a), (Sum.inr wOwn, b), (Sum.inr wFoe, c), (Sum.inr wAt, d)]
theorem four (a b c d : V) : (fits4 a b c d).length ≤ 15 := by show 4 ≤ 15; decide
theorem fits_eq (a b c d : V) : mergeK [] (fits4 a b c d) = fits4 a b c d := by
  have n1 : ¬ (wEmpty = wOwn) := by decide +kernel
  have n2 : ¬ (wEmpty = wFoe) := by decide +kernel
  have n3 : ¬ (wOwn = wFoe) := by decide +kernel
  have n4 : ¬ (wEmpty = wAt) := by decide +kernel
  have n5 : ¬ (wOwn = wAt) := by decide +kernel
  have n6 : ¬ (wFoe = wAt) := by decide +kernel
  simp [mergeK, fits4, putK, n1, n2, n3, n4, n5, n6]
theorem fits_at (a b c d : V) : valV (mergeK [] (fits4 a b c d)) (Sum.inr wEmpty) = some a ∧ valV (mergeK [] (fits4 a b c d)) (Sum.inr wOwn) = some b ∧ valV (mergeK [] (fits4 a b c d)) (Sum.inr wFoe) = some c ∧ valV (mergeK [] (fits4 a b c d)) (Sum.inr wAt) = some d := by
  have n1 : ¬ (wEmpty = wOwn) := by decide +kernel
  have n2 : ¬ (wEmpty = wFoe) := by decide +kernel
  have n3 : ¬ (wOwn = wFoe) := by decide +kernel
  have n4 : ¬ (wEmpty = wAt) := by decide +kernel
  have n5 : ¬ (wOwn = wAt) := by decide +kernel
  have n6 : ¬ (wFoe = wAt) := by decide +kernel
  rw [fits_eq]
  refine ⟨?_, ?_, ?_, ?_⟩ <;> simp [fits4, valV, List.find?_cons, n1, n2, n3, n4, n5, n6]
def sp_L_step (K : PySem.W.Frag) : Sp := fun vs H Q _ => ∃ (r : Addr) (G : GD) (side : Int) (v u : V) (p : Pg) (s : Spot), vs = [.ref r, .int side, v, u] ∧ RulesAt K H r G ∧ GOk G ∧ PgR K H v p ∧ p.leaf = true ∧ p.ok G ∧ R K H u s ∧ SpotK G s ∧
  ∀ l xs H', Same H H' → H' l = some (.lst xs) → Rs K H' xs (stepE G side p s) → Q (.ref l) H'
theorem ok_L_step (T : Top K mg) : FnOk P w K mg base CX0 1 T.L_step.a T.L_step.fd P_L_step (sp_L_step K) := by
  refine T.L_step.F.ok sc_L_step (fun vs H Q E h => ?_) (fun cdv A outer s H vs Q E hr h => ?_)
  · obtain ⟨_, _, _, _, _, _, _, rfl, _⟩ := h; rfl
  obtain ⟨g, G, side, v, u, p, s, rfl, hg, gok, hp, hl, hpo, hu', hs, q⟩ := h
  have nd := sc_L_step.nd
  have hu := hu64 hr
  have hu1 := hu_of hr
  refine ⟨_, (pss_cons (ps_set (i := 4) nd rfl (Or.inl rfl) (pe_ix ix_tup (pe_ix ix_tup (pv 3) pe_int (fun _ _ => rfl)) (pe_ix ix_tup (pv 3) pe_int (fun _ _ => rfl)) (fun _ _ => rfl)))
    (pss_cons (ps_set (i := 5) nd rfl (Or.inl rfl) (pe_ix ix_tup (pv 2) pe_int (fun _ _ => rfl)))
    (pss_cons (ps_if (pt_cmpR op_eq (pv 5) pe_str (nomark _))
      (pss_one (ps_ret (pe_lst (pa_cons (pv 3) pa_nil))))
      pss_nil)
    (pss_cons (ps_if (pt_cmpR op_eq (pv 5) pe_str (nomark _))
      (pss_cons (ps_set (i := 6) nd rfl (Or.inl rfl) (pe_ix ix_list (pe_ix ix_tup (pe_ix ix_list (pe_ix ix_list (pv 0) pe_int (fun _ _ => rfl)) (pe_ix ix_tup (pv 2) pe_int (fun _ _ => rfl)) (fun _ _ => rfl)) pe_int (fun _ _ => rfl)) (pe_ix ix_tup (pv 3) pe_int (fun _ _ => rfl)) (fun _ _ => rfl)))
      (pss_cons (ps_if (pt_cmpR op_lt (pv 6) pe_int (nomark _))
        (pss_one (ps_ret (pe_lst pa_nil)))
        pss_nil)
      (pss_one (ps_ret (pe_lst (pa_cons (pe_tup (pa_cons (pv 6) (pa_cons (pe_ix ix_tup (pv 3) pe_int (fun _ _ => rfl)) (pa_cons (pe_ix ix_tup (pv 3) pe_int (fun _ _ => rfl)) pa_nil)))) pa_nil))))))
      pss_nil)
    (pss_cons (ps_if (pt_cmpR op_eq (pv 5) pe_str (nomark _))
      (pss_one (ps_ret (pe_lst (pa_cons (pe_tup (pa_cons (pe_ix ix_tup (pv 3) pe_int (fun _ _ => rfl)) (pa_cons (pe_ix ix_tup (pv 3) pe_int (fun _ _ => rfl)) (pa_cons (pe_ix ix_tup (pv 2) pe_int (fun _ _ => rfl)) pa_nil)))) pa_nil))))
      pss_nil)
    (pss_cons (ps_if (pt_cmpR op_eq (pv 5) pe_str (nomark _))
      (pss_cons (ps_if (pt_cmpR op_eq (pv 4) pe_int (nomark _))
        (pss_one (ps_ret (pe_lst pa_nil)))
        pss_nil)
      (pss_one (ps_ret (pe_lst (pa_cons (pe_tup (pa_cons (pe_ix ix_tup (pv 3) pe_int (fun _ _ => rfl)) (pa_cons (pe_op op_catU (pe_op op_catU (pe_slice sl_tupU (pe_ix ix_tup (pv 3) pe_int (fun _ _ => rfl)) po_none (po_some (pe_ix ix_tup (pv 3) pe_int (fun _ _ => rfl)))) (pe_tup (pa_cons pe_int pa_nil))) (pe_slice sl_tupU (pe_ix ix_tup (pv 3) pe_int (fun _ _ => rfl)) (po_some (pe_op op_add (pe_ix ix_tup (pv 3) pe_int (fun _ _ => rfl)) pe_int)) po_none)) (pa_cons (pe_ix ix_tup (pv 3) pe_int (fun _ _ => rfl)) pa_nil)))) pa_nil)))))
      pss_nil)
    (pss_cons (ps_set (i := 7) nd rfl (Or.inl rfl) (pe_disp (pps_cons pe_str (pe_cmpR op_eq (pv 4) pe_int (nomark _)) (pps_cons pe_str (pe_and (pe_cmpR op_gt (pv 4) pe_int (nomark _)) (pe_one (pe_cmpR op_eq (pe_op op_mod (pe_callTy call_int1 rfl T.z_int (by decide +kernel) (pa_cons (pe_op op_sub (pv 4) pe_int) pa_nil)) pe_int) (pv 1) (nomark _)))) (pps_cons pe_str (pe_and (pe_cmpR op_gt (pv 4) pe_int (nomark _)) (pe_one (pe_cmpR op_ne (pe_op op_mod (pe_callTy call_int1 rfl T.z_int (by decide +kernel) (pa_cons (pe_op op_sub (pv 4) pe_int) pa_nil)) pe_int) (pv 1) (nomark _)))) (pps_cons pe_str (pe_and (pe_cmpR op_gt (pv 4) pe_int (nomark _)) (pe_and (pe_cmpR op_eq (pv 5) pe_str (nomark _)) (pe_one (pe_cmpR op_eq (pe_op op_fdiv (pe_op op_sub (pv 4) pe_int) pe_int) (pe_ix ix_tup (pv 2) (pe_op op_sub (pe_callB call_len_seq rfl T.z_len PySem.boot_len (pa_cons (pv 2) pa_nil)) pe_int) (fun _ _ => rfl)) (nomark _))))) pps_nil)))) (by rfl) (by rfl) (fun z => by cases z) (by decide)))
    (pss_cons (ps_if (pt_val (pe_dget hu1 (pv 7) (pv 5) (fun _ _ => rfl)))
      (pss_one (ps_ret (pe_lst (pa_cons (pv 3) pa_nil))))
      pss_nil)
    (pss_one (ps_ret (pe_lst pa_nil))))))))))), ?_⟩
  obtain ⟨a, b, rfl, ha, hb⟩ := hu'.spot
  obtain ⟨c, r, rfl, hc⟩ := hp.word
  have f0 := hs.f0
  have f1 : s.f < s.m.length := by rw [hs.men.len]; exact hs.f1
  have z5 : s.m.length ≤ 1000 := by rw [hs.men.len]; have := gok.n5; omega
  have man0 : 0 ≤ at0 s.m s.f := (hs.men.val _ (at0_mem f0 f1)).1
  have one : ∀ (H' : Hp) (v : V) (s' : Spot), Same H H' → R K H' v s' → stepE G side p s = [s'] → ∀ l, H' l = none → Q (.ref l) (upd H' l (.lst [v])) := fun H' v s' e hv es l hn =>
    q l [v] _ (e.trans (Same.new hn)) upd_same (by rw [es]; exact .cons (hv.same (Same.new hn)) .nil)
  have zero : ∀ (H' : Hp), Same H H' → stepE G side p s = [] → ∀ l, H' l = none → Q (.ref l) (upd H' l (.lst [])) := fun H' e es l hn =>
    q l [] _ (e.trans (Same.new hn)) upd_same (by rw [es]; exact .nil)
  have z1 : 1 ≤ sizeLine := by decide
  have z0 : 0 ≤ sizeLine := by decide
  have z3 : 3 ≤ sizeLine := by decide
  have hl1 : (s.m.map V.int).length = s.m.length := List.length_map _
  have small : ∀ n : Nat, n ≤ 3000 → n ≤ sizeLine := fun n hn => Nat.le_trans hn (by decide)
  refine ⟨_, rfl, a, _, _, _, rfl, rfl, ha, at_1, _, rfl, a, _, _, _, rfl, rfl, ha, at_0, b, _, _, _, rfl, rfl, hb, at_map f0 f1, ?_⟩
  cases p with
  | rest =>
    refine ⟨_, rfl, c, _, _, _, rfl, rfl, hc, at_0, _, rfl, rfl, _, rfl, ?_⟩
    refine ite2 (fun _ => ?_) (fun c => absurd (by decide +kernel) c)
    exact ⟨_, rfl, z1, one H _ s Same.rfl' hu' rfl⟩
  | go d =>
    have hc' : SqT K H c [.str wGo, .int d] := by
      cases hp with
      | one h1 h2 => simp at h2
      | go h => exact h
    unfold Pg.ok at hpo
    obtain ⟨lw, lk, lc, lp, ks, g1, g2, g4, g3⟩ := hg
    obtain ⟨ws, w1, w2⟩ := g3.ways
    have hd : d.toNat < G.ways.length := by omega
    obtain ⟨wv, we, wa, wl, wx, rfl, ww1, ww2⟩ := w2.get (List.getElem?_eq_getElem hd)
    have hrow := gok.way _ (List.getElem_mem hd)
    have ew : G.ways.getD d.toNat [] = G.ways[d.toNat] := by rw [List.getD_eq_getElem?_getD, List.getElem?_eq_getElem hd]; rfl
    have hf : s.f.toNat < (G.ways[d.toNat]).length := by rw [hrow.1]; have := hs.f1; omega
    have ev : atI ((G.ways[d.toNat]).map V.int) s.f = some (.int (wayAt G d s.f)) := by
      refine at_vs f0 ?_
      rw [List.getElem?_map, List.getElem?_eq_getElem hf]
      unfold wayAt
      rw [ew, List.getD_eq_getElem?_getD, List.getElem?_eq_getElem hf]
      rfl
    refine ⟨_, rfl, c, _, _, _, rfl, rfl, hc', at_0, _, rfl, rfl, _, rfl, ?_⟩
    refine ite2 (fun c => absurd c (by decide +kernel)) (fun _ => ?_)
    refine ⟨_, rfl, rfl, _, rfl, ?_⟩
    refine ite2 (fun _ => ?_) (fun c => absurd (by decide +kernel) c)
    refine ⟨_, rfl, g, _, _, _, rfl, rfl, g1, at_1, _, rfl, c, _, _, _, rfl, rfl, hc', at_1, lw, _, _, _, rfl, rfl, w1, at_vs hpo.1 we, wa, _, _, _, rfl, rfl, ww1, at_1, _, rfl, a, _, _, _, rfl, rfl, ha, at_0, wl, _, _, _, rfl, rfl, ww2, ev, ?_⟩
    refine ⟨_, rfl, _, _, rfl, rfl, _, rfl, ite2 (fun c => ?_) (fun c => ?_)⟩
    · have c : wayAt G d s.f < 0 := of_decide_eq_true c
      exact ⟨z0, zero H Same.rfl' (by simp only [stepE]; rw [if_pos c])⟩
    · have c : ¬ wayAt G d s.f < 0 := fun z => c (decide_eq_true z)
      refine ⟨_, rfl, _, rfl, a, _, _, _, rfl, rfl, ha, at_1, _, rfl, a, _, _, _, rfl, rfl, ha, at_2, z3, fun t ht => ⟨z1, one _ _ ⟨wayAt G d s.f, s.m, s.k⟩ (Same.new ht) (R.ofSpot (b := b) (SqT.of upd_same) (seqT (Same.new ht) hb)) (by simp only [stepE]; rw [if_neg c])⟩⟩
  | lay k =>
    have hc' : SqT K H c [.str wLay, .int k] := by
      cases hp with
      | one h1 h2 => simp at h2
      | lay h => exact h
    refine ⟨_, rfl, c, _, _, _, rfl, rfl, hc', at_0, _, rfl, rfl, _, rfl, ?_⟩
    refine ite2 (fun c => absurd c (by decide +kernel)) (fun _ => ?_)
    refine ⟨_, rfl, rfl, _, rfl, ?_⟩
    refine ite2 (fun c => absurd c (by decide +kernel)) (fun _ => ?_)
    refine ⟨_, rfl, rfl, _, rfl, ?_⟩
    refine ite2 (fun _ => ?_) (fun c => absurd (by decide +kernel) c)
    refine ⟨_, rfl, a, _, _, _, rfl, rfl, ha, at_0, _, rfl, a, _, _, _, rfl, rfl, ha, at_1, _, rfl, c, _, _, _, rfl, rfl, hc', at_1, z3, fun t ht => ⟨z1, one _ _ ⟨s.f, s.m, k⟩ (Same.new ht) (R.ofSpot (b := b) (SqT.of upd_same) (seqT (Same.new ht) hb)) rfl⟩⟩
  | take =>
    refine ⟨_, rfl, c, _, _, _, rfl, rfl, hc, at_0, _, rfl, rfl, _, rfl, ?_⟩
    refine ite2 (fun c => absurd c (by decide +kernel)) (fun _ => ?_)
    refine ⟨_, rfl, rfl, _, rfl, ?_⟩
    refine ite2 (fun c => absurd c (by decide +kernel)) (fun _ => ?_)
    refine ⟨_, rfl, rfl, _, rfl, ?_⟩
    refine ite2 (fun c => absurd c (by decide +kernel)) (fun _ => ?_)
    refine ⟨_, rfl, rfl, _, rfl, ?_⟩
    refine ite2 (fun _ => ?_) (fun c => absurd (by decide +kernel) c)
    refine ⟨_, rfl, rfl, _, rfl, ite2 (fun c => ?_) (fun c => ?_)⟩
    · have c : at0 s.m s.f = 0 := by simpa using c
      exact ⟨z0, zero H Same.rfl' (by simp only [stepE]; rw [if_pos c])⟩
    · have c : ¬ at0 s.m s.f = 0 := by simpa using c
      have l1 := cutV_length (s.m.map V.int) none (some s.f)
      have l2 := cutV_length (s.m.map V.int) (some (s.f + 1)) none
      refine ⟨_, rfl, a, _, _, _, rfl, rfl, ha, at_0, _, rfl, a, _, _, _, rfl, rfl, ha, at_1, _, rfl, a, _, _, _, rfl, rfl, ha, at_0, _, rfl, b, _, rfl, hb, fun c1 H1 e1 s1 => ⟨z1, fun p1 hp1 => ?_⟩⟩
      have e2 : Same H1 (upd H1 p1 (.tup [.int 0])) := Same.new hp1
      refine ⟨c1, p1, _, _, rfl, rfl, seqT e2 s1, SqT.of upd_same, small _ (by rw [List.length_singleton]; omega), fun c2 H2 e3 s2 => ?_⟩
      have e4 := (e1.trans e2).trans e3
      refine ⟨_, rfl, a, _, _, _, rfl, rfl, seqT e4 ha, at_1, _, rfl, a, _, _, _, rfl, rfl, seqT e4 ha, at_0, _, _, rfl, rfl, _, rfl, b, _, rfl, seqT e4 hb, fun c3 H3 e5 s3 => ?_⟩
      refine ⟨c2, c3, _, _, rfl, rfl, seqT e5 s2, s3, small _ (by rw [List.length_append, List.length_singleton]; omega), fun c4 H4 e6 s4 => ?_⟩
      rw [cut_set f0 f1] at s4
      have e7 := e4.trans (e5.trans e6)
      refine ⟨_, rfl, a, _, _, _, rfl, rfl, seqT e7 ha, at_2, z3, fun t ht => ⟨z1, one _ _ ⟨s.f, setM s.m s.f 0, s.k⟩ (e7.trans (Same.new ht)) (R.ofSpot (b := c4) (SqT.of upd_same) (seqT (Same.new ht) s4)) (by simp only [stepE]; rw [if_neg c])⟩⟩
  | empty =>
    refine ⟨_, rfl, c, _, _, _, rfl, rfl, hc, at_0, _, rfl, rfl, _, rfl, ?_⟩
    refine ite2 (fun c => absurd c (by decide +kernel)) (fun _ => ?_)
    refine ⟨_, rfl, rfl, _, rfl, ?_⟩
    refine ite2 (fun c => absurd c (by decide +kernel)) (fun _ => ?_)
    refine ⟨_, rfl, rfl, _, rfl, ?_⟩
    refine ite2 (fun c => absurd c (by decide +kernel)) (fun _ => ?_)
    refine ⟨_, rfl, rfl, _, rfl, ?_⟩
    refine ite2 (fun c => absurd c (by decide +kernel)) (fun _ => ?_)
    rcases Int.lt_or_eq_of_le man0 with mp | mz
    · -- a man
      have mne : ¬ at0 s.m s.f = 0 := by omega
      have dp : decide (at0 s.m s.f > 0) = true := decide_eq_true mp
      refine fun p1 hp1 => ?_
      have e1 : Same H (upd H p1 (.dK [])) := Same.new hp1
      refine ⟨_, rfl, rfl, _, rfl, _, _, rfl, rfl, _, rfl, ite2 (fun _ => ?_) (fun z => absurd dp z)⟩
      refine ⟨_, rfl, _, _, rfl, rfl, .inl ⟨_, rfl, _, _, rfl, rfl, (by show (0 : Int) < 2; decide), _, rfl, rfl, ?_⟩⟩
      refine ⟨_, rfl, _, _, rfl, rfl, _, rfl, ite2 (fun _ => ?_) (fun z => absurd dp z)⟩
      refine ⟨_, rfl, _, _, rfl, rfl, .inl ⟨_, rfl, _, _, rfl, rfl, (by show (0 : Int) < 2; decide), _, rfl, rfl, ?_⟩⟩
      refine ⟨_, rfl, _, _, rfl, rfl, _, rfl, ite2 (fun _ => ?_) (fun z => absurd dp z)⟩
      refine ⟨_, rfl, rfl, _, rfl, ?_⟩
      refine ite2 (fun c => absurd c (by decide +kernel)) (fun _ => ?_)
      refine ⟨upd_same, fits4 (.bl (decide (V.int (at0 s.m s.f) = V.int 0))) (.bl (decide (V.int ((at0 s.m s.f - 1) % 2) = V.int side))) (.bl (!decide (V.int ((at0 s.m s.f - 1) % 2) = V.int side))) (.bl false), rfl, four (.bl (decide (V.int (at0 s.m s.f) = V.int 0))) (.bl (decide (V.int ((at0 s.m s.f - 1) % 2) = V.int side))) (.bl (!decide (V.int ((at0 s.m s.f - 1) % 2) = V.int side))) (.bl false), ?_⟩
      obtain ⟨k1, k2, k3, k4⟩ := fits_at (.bl (decide (V.int (at0 s.m s.f) = V.int 0))) (.bl (decide (V.int ((at0 s.m s.f - 1) % 2) = V.int side))) (.bl (!decide (V.int ((at0 s.m s.f - 1) % 2) = V.int side))) (.bl false)
      have hd2 : (upd (upd H p1 (.dK [])) p1 (.dK (mergeK [] (fits4 (.bl (decide (V.int (at0 s.m s.f) = V.int 0))) (.bl (decide (V.int ((at0 s.m s.f - 1) % 2) = V.int side))) (.bl (!decide (V.int ((at0 s.m s.f - 1) % 2) = V.int side))) (.bl false))))) p1 = some (.dK (mergeK [] (fits4 (.bl (decide (V.int (at0 s.m s.f) = V.int 0))) (.bl (decide (V.int ((at0 s.m s.f - 1) % 2) = V.int side))) (.bl (!decide (V.int ((at0 s.m s.f - 1) % 2) = V.int side))) (.bl false)))) := upd_same
      have e2 : Same H (upd (upd H p1 (.dK [])) p1 (.dK (mergeK [] (fits4 (.bl (decide (V.int (at0 s.m s.f) = V.int 0))) (.bl (decide (V.int ((at0 s.m s.f - 1) % 2) = V.int side))) (.bl (!decide (V.int ((at0 s.m s.f - 1) % 2) = V.int side))) (.bl false))))) := Same.mut e1 hp1
      refine ⟨_, rfl, _, rfl, p1, _, rfl, k1 ▸ DGet.k (k := Sum.inr wEmpty) hd2, _, rfl, ?_⟩
      have et : (decide (V.int (at0 s.m s.f) = V.int 0)) = told side .empty (at0 s.m s.f) := by simp [told, sideOf, kindOf, mne] <;> exact decide_eq_decide.mpr Iff.rfl
      refine ite2 (fun cc => ?_) (fun cc => ?_)
      all_goals rw [et] at cc
      · exact ⟨_, rfl, z1, one _ _ s e2 (hu'.same e2) (by simp only [stepE]; rw [if_pos cc])⟩
      · exact ⟨z0, zero _ e2 (by simp only [stepE]; rw [if_neg cc])⟩
    · -- none
      have mz : at0 s.m s.f = 0 := mz.symm
      have dp : ¬ decide (at0 s.m s.f > 0) = true := fun z => by have := of_decide_eq_true z; omega
      refine fun p1 hp1 => ?_
      have e1 : Same H (upd H p1 (.dK [])) := Same.new hp1
      refine ⟨_, rfl, rfl, _, rfl, _, _, rfl, rfl, _, rfl, ite2 (fun z => absurd z dp) (fun _ => ?_)⟩
      refine ⟨_, rfl, _, _, rfl, rfl, _, rfl, ite2 (fun z => absurd z dp) (fun _ => ?_)⟩
      refine ⟨_, rfl, _, _, rfl, rfl, _, rfl, ite2 (fun z => absurd z dp) (fun _ => ?_)⟩
      refine ⟨upd_same, fits4 (.bl (decide (V.int (at0 s.m s.f) = V.int 0))) (.bl false) (.bl false) (.bl false), rfl, four (.bl (decide (V.int (at0 s.m s.f) = V.int 0))) (.bl false) (.bl false) (.bl false), ?_⟩
      obtain ⟨k1, k2, k3, k4⟩ := fits_at (.bl (decide (V.int (at0 s.m s.f) = V.int 0))) (.bl false) (.bl false) (.bl false)
      have hd2 : (upd (upd H p1 (.dK [])) p1 (.dK (mergeK [] (fits4 (.bl (decide (V.int (at0 s.m s.f) = V.int 0))) (.bl false) (.bl false) (.bl false))))) p1 = some (.dK (mergeK [] (fits4 (.bl (decide (V.int (at0 s.m s.f) = V.int 0))) (.bl false) (.bl false) (.bl false)))) := upd_same
      have e2 : Same H (upd (upd H p1 (.dK [])) p1 (.dK (mergeK [] (fits4 (.bl (decide (V.int (at0 s.m s.f) = V.int 0))) (.bl false) (.bl false) (.bl false))))) := Same.mut e1 hp1
      refine ⟨_, rfl, _, rfl, p1, _, rfl, k1 ▸ DGet.k (k := Sum.inr wEmpty) hd2, _, rfl, ?_⟩
      have et : (decide (V.int (at0 s.m s.f) = V.int 0)) = told side .empty (at0 s.m s.f) := by simp [told, sideOf, kindOf, mz] <;> exact decide_eq_decide.mpr Iff.rfl
      refine ite2 (fun cc => ?_) (fun cc => ?_)
      all_goals rw [et] at cc
      · exact ⟨_, rfl, z1, one _ _ s e2 (hu'.same e2) (by simp only [stepE]; rw [if_pos cc])⟩
      · exact ⟨z0, zero _ e2 (by simp only [stepE]; rw [if_neg cc])⟩
  | own =>
    refine ⟨_, rfl, c, _, _, _, rfl, rfl, hc, at_0, _, rfl, rfl, _, rfl, ?_⟩
    refine ite2 (fun c => absurd c (by decide +kernel)) (fun _ => ?_)
    refine ⟨_, rfl, rfl, _, rfl, ?_⟩
    refine ite2 (fun c => absurd c (by decide +kernel)) (fun _ => ?_)
    refine ⟨_, rfl, rfl, _, rfl, ?_⟩
    refine ite2 (fun c => absurd c (by decide +kernel)) (fun _ => ?_)
    refine ⟨_, rfl, rfl, _, rfl, ?_⟩
    refine ite2 (fun c => absurd c (by decide +kernel)) (fun _ => ?_)
    rcases Int.lt_or_eq_of_le man0 with mp | mz
    · -- a man
      have mne : ¬ at0 s.m s.f = 0 := by omega
      have dp : decide (at0 s.m s.f > 0) = true := decide_eq_true mp
      refine fun p1 hp1 => ?_
      have e1 : Same H (upd H p1 (.dK [])) := Same.new hp1
      refine ⟨_, rfl, rfl, _, rfl, _, _, rfl, rfl, _, rfl, ite2 (fun _ => ?_) (fun z => absurd dp z)⟩
      refine ⟨_, rfl, _, _, rfl, rfl, .inl ⟨_, rfl, _, _, rfl, rfl, (by show (0 : Int) < 2; decide), _, rfl, rfl, ?_⟩⟩
      refine ⟨_, rfl, _, _, rfl, rfl, _, rfl, ite2 (fun _ => ?_) (fun z => absurd dp z)⟩
      refine ⟨_, rfl, _, _, rfl, rfl, .inl ⟨_, rfl, _, _, rfl, rfl, (by show (0 : Int) < 2; decide), _, rfl, rfl, ?_⟩⟩
      refine ⟨_, rfl, _, _, rfl, rfl, _, rfl, ite2 (fun _ => ?_) (fun z => absurd dp z)⟩
      refine ⟨_, rfl, rfl, _, rfl, ?_⟩
      refine ite2 (fun c => absurd c (by decide +kernel)) (fun _ => ?_)
      refine ⟨upd_same, fits4 (.bl (decide (V.int (at0 s.m s.f) = V.int 0))) (.bl (decide (V.int ((at0 s.m s.f - 1) % 2) = V.int side))) (.bl (!decide (V.int ((at0 s.m s.f - 1) % 2) = V.int side))) (.bl false), rfl, four (.bl (decide (V.int (at0 s.m s.f) = V.int 0))) (.bl (decide (V.int ((at0 s.m s.f - 1) % 2) = V.int side))) (.bl (!decide (V.int ((at0 s.m s.f - 1) % 2) = V.int side))) (.bl false), ?_⟩
      obtain ⟨k1, k2, k3, k4⟩ := fits_at (.bl (decide (V.int (at0 s.m s.f) = V.int 0))) (.bl (decide (V.int ((at0 s.m s.f - 1) % 2) = V.int side))) (.bl (!decide (V.int ((at0 s.m s.f - 1) % 2) = V.int side))) (.bl false)
      have hd2 : (upd (upd H p1 (.dK [])) p1 (.dK (mergeK [] (fits4 (.bl (decide (V.int (at0 s.m s.f) = V.int 0))) (.bl (decide (V.int ((at0 s.m s.f - 1) % 2) = V.int side))) (.bl (!decide (V.int ((at0 s.m s.f - 1) % 2) = V.int side))) (.bl false))))) p1 = some (.dK (mergeK [] (fits4 (.bl (decide (V.int (at0 s.m s.f) = V.int 0))) (.bl (decide (V.int ((at0 s.m s.f - 1) % 2) = V.int side))) (.bl (!decide (V.int ((at0 s.m s.f - 1) % 2) = V.int side))) (.bl false)))) := upd_same
      have e2 : Same H (upd (upd H p1 (.dK [])) p1 (.dK (mergeK [] (fits4 (.bl (decide (V.int (at0 s.m s.f) = V.int 0))) (.bl (decide (V.int ((at0 s.m s.f - 1) % 2) = V.int side))) (.bl (!decide (V.int ((at0 s.m s.f - 1) % 2) = V.int side))) (.bl false))))) := Same.mut e1 hp1
      refine ⟨_, rfl, _, rfl, p1, _, rfl, k2 ▸ DGet.k (k := Sum.inr wOwn) hd2, _, rfl, ?_⟩
      have et : (decide (V.int ((at0 s.m s.f - 1) % 2) = V.int side)) = told side .own (at0 s.m s.f) := by simp [told, sideOf, kindOf, mne] <;> exact decide_eq_decide.mpr Iff.rfl
      refine ite2 (fun cc => ?_) (fun cc => ?_)
      all_goals rw [et] at cc
      · exact ⟨_, rfl, z1, one _ _ s e2 (hu'.same e2) (by simp only [stepE]; rw [if_pos cc])⟩
      · exact ⟨z0, zero _ e2 (by simp only [stepE]; rw [if_neg cc])⟩
    · -- none
      have mz : at0 s.m s.f = 0 := mz.symm
      have dp : ¬ decide (at0 s.m s.f > 0) = true := fun z => by have := of_decide_eq_true z; omega
      refine fun p1 hp1 => ?_
      have e1 : Same H (upd H p1 (.dK [])) := Same.new hp1
      refine ⟨_, rfl, rfl, _, rfl, _, _, rfl, rfl, _, rfl, ite2 (fun z => absurd z dp) (fun _ => ?_)⟩
      refine ⟨_, rfl, _, _, rfl, rfl, _, rfl, ite2 (fun z => absurd z dp) (fun _ => ?_)⟩
      refine ⟨_, rfl, _, _, rfl, rfl, _, rfl, ite2 (fun z => absurd z dp) (fun _ => ?_)⟩
      refine ⟨upd_same, fits4 (.bl (decide (V.int (at0 s.m s.f) = V.int 0))) (.bl false) (.bl false) (.bl false), rfl, four (.bl (decide (V.int (at0 s.m s.f) = V.int 0))) (.bl false) (.bl false) (.bl false), ?_⟩
      obtain ⟨k1, k2, k3, k4⟩ := fits_at (.bl (decide (V.int (at0 s.m s.f) = V.int 0))) (.bl false) (.bl false) (.bl false)
      have hd2 : (upd (upd H p1 (.dK [])) p1 (.dK (mergeK [] (fits4 (.bl (decide (V.int (at0 s.m s.f) = V.int 0))) (.bl false) (.bl false) (.bl false))))) p1 = some (.dK (mergeK [] (fits4 (.bl (decide (V.int (at0 s.m s.f) = V.int 0))) (.bl false) (.bl false) (.bl false)))) := upd_same
      have e2 : Same H (upd (upd H p1 (.dK [])) p1 (.dK (mergeK [] (fits4 (.bl (decide (V.int (at0 s.m s.f) = V.int 0))) (.bl false) (.bl false) (.bl false))))) := Same.mut e1 hp1
      refine ⟨_, rfl, _, rfl, p1, _, rfl, k2 ▸ DGet.k (k := Sum.inr wOwn) hd2, _, rfl, ?_⟩
      have et : (false) = told side .own (at0 s.m s.f) := by simp [told, sideOf, kindOf, mz] <;> exact decide_eq_decide.mpr Iff.rfl
      refine ite2 (fun cc => ?_) (fun cc => ?_)
      all_goals rw [et] at cc
      · exact ⟨_, rfl, z1, one _ _ s e2 (hu'.same e2) (by simp only [stepE]; rw [if_pos cc])⟩
      · exact ⟨z0, zero _ e2 (by simp only [stepE]; rw [if_neg cc])⟩
  | foe =>
    refine ⟨_, rfl, c, _, _, _, rfl, rfl, hc, at_0, _, rfl, rfl, _, rfl, ?_⟩
    refine ite2 (fun c => absurd c (by decide +kernel)) (fun _ => ?_)
    refine ⟨_, rfl, rfl, _, rfl, ?_⟩
    refine ite2 (fun c => absurd c (by decide +kernel)) (fun _ => ?_)
    refine ⟨_, rfl, rfl, _, rfl, ?_⟩
    refine ite2 (fun c => absurd c (by decide +kernel)) (fun _ => ?_)
    refine ⟨_, rfl, rfl, _, rfl, ?_⟩
    refine ite2 (fun c => absurd c (by decide +kernel)) (fun _ => ?_)
    rcases Int.lt_or_eq_of_le man0 with mp | mz
    · -- a man
      have mne : ¬ at0 s.m s.f = 0 := by omega
      have dp : decide (at0 s.m s.f > 0) = true := decide_eq_true mp
      refine fun p1 hp1 => ?_
      have e1 : Same H (upd H p1 (.dK [])) := Same.new hp1
      refine ⟨_, rfl, rfl, _, rfl, _, _, rfl, rfl, _, rfl, ite2 (fun _ => ?_) (fun z => absurd dp z)⟩
      refine ⟨_, rfl, _, _, rfl, rfl, .inl ⟨_, rfl, _, _, rfl, rfl, (by show (0 : Int) < 2; decide), _, rfl, rfl, ?_⟩⟩
      refine ⟨_, rfl, _, _, rfl, rfl, _, rfl, ite2 (fun _ => ?_) (fun z => absurd dp z)⟩
      refine ⟨_, rfl, _, _, rfl, rfl, .inl ⟨_, rfl, _, _, rfl, rfl, (by show (0 : Int) < 2; decide), _, rfl, rfl, ?_⟩⟩
      refine ⟨_, rfl, _, _, rfl, rfl, _, rfl, ite2 (fun _ => ?_) (fun z => absurd dp z)⟩
      refine ⟨_, rfl, rfl, _, rfl, ?_⟩
      refine ite2 (fun c => absurd c (by decide +kernel)) (fun _ => ?_)
      refine ⟨upd_same, fits4 (.bl (decide (V.int (at0 s.m s.f) = V.int 0))) (.bl (decide (V.int ((at0 s.m s.f - 1) % 2) = V.int side))) (.bl (!decide (V.int ((at0 s.m s.f - 1) % 2) = V.int side))) (.bl false), rfl, four (.bl (decide (V.int (at0 s.m s.f) = V.int 0))) (.bl (decide (V.int ((at0 s.m s.f - 1) % 2) = V.int side))) (.bl (!decide (V.int ((at0 s.m s.f - 1) % 2) = V.int side))) (.bl false), ?_⟩
      obtain ⟨k1, k2, k3, k4⟩ := fits_at (.bl (decide (V.int (at0 s.m s.f) = V.int 0))) (.bl (decide (V.int ((at0 s.m s.f - 1) % 2) = V.int side))) (.bl (!decide (V.int ((at0 s.m s.f - 1) % 2) = V.int side))) (.bl false)
      have hd2 : (upd (upd H p1 (.dK [])) p1 (.dK (mergeK [] (fits4 (.bl (decide (V.int (at0 s.m s.f) = V.int 0))) (.bl (decide (V.int ((at0 s.m s.f - 1) % 2) = V.int side))) (.bl (!decide (V.int ((at0 s.m s.f - 1) % 2) = V.int side))) (.bl false))))) p1 = some (.dK (mergeK [] (fits4 (.bl (decide (V.int (at0 s.m s.f) = V.int 0))) (.bl (decide (V.int ((at0 s.m s.f - 1) % 2) = V.int side))) (.bl (!decide (V.int ((at0 s.m s.f - 1) % 2) = V.int side))) (.bl false)))) := upd_same
      have e2 : Same H (upd (upd H p1 (.dK [])) p1 (.dK (mergeK [] (fits4 (.bl (decide (V.int (at0 s.m s.f) = V.int 0))) (.bl (decide (V.int ((at0 s.m s.f - 1) % 2) = V.int side))) (.bl (!decide (V.int ((at0 s.m s.f - 1) % 2) = V.int side))) (.bl false))))) := Same.mut e1 hp1
      refine ⟨_, rfl, _, rfl, p1, _, rfl, k3 ▸ DGet.k (k := Sum.inr wFoe) hd2, _, rfl, ?_⟩
      have et : (!decide (V.int ((at0 s.m s.f - 1) % 2) = V.int side)) = told side .foe (at0 s.m s.f) := by simp [told, sideOf, kindOf, mne] <;> exact decide_eq_decide.mpr Iff.rfl
      refine ite2 (fun cc => ?_) (fun cc => ?_)
      all_goals rw [et] at cc
      · exact ⟨_, rfl, z1, one _ _ s e2 (hu'.same e2) (by simp only [stepE]; rw [if_pos cc])⟩
      · exact ⟨z0, zero _ e2 (by simp only [stepE]; rw [if_neg cc])⟩
    · -- none
      have mz : at0 s.m s.f = 0 := mz.symm
      have dp : ¬ decide (at0 s.m s.f > 0) = true := fun z => by have := of_decide_eq_true z; omega
      refine fun p1 hp1 => ?_
      have e1 : Same H (upd H p1 (.dK [])) := Same.new hp1
      refine ⟨_, rfl, rfl, _, rfl, _, _, rfl, rfl, _, rfl, ite2 (fun z => absurd z dp) (fun _ => ?_)⟩
      refine ⟨_, rfl, _, _, rfl, rfl, _, rfl, ite2 (fun z => absurd z dp) (fun _ => ?_)⟩
      refine ⟨_, rfl, _, _, rfl, rfl, _, rfl, ite2 (fun z => absurd z dp) (fun _ => ?_)⟩
      refine ⟨upd_same, fits4 (.bl (decide (V.int (at0 s.m s.f) = V.int 0))) (.bl false) (.bl false) (.bl false), rfl, four (.bl (decide (V.int (at0 s.m s.f) = V.int 0))) (.bl false) (.bl false) (.bl false), ?_⟩
      obtain ⟨k1, k2, k3, k4⟩ := fits_at (.bl (decide (V.int (at0 s.m s.f) = V.int 0))) (.bl false) (.bl false) (.bl false)
      have hd2 : (upd (upd H p1 (.dK [])) p1 (.dK (mergeK [] (fits4 (.bl (decide (V.int (at0 s.m s.f) = V.int 0))) (.bl false) (.bl false) (.bl false))))) p1 = some (.dK (mergeK [] (fits4 (.bl (decide (V.int (at0 s.m s.f) = V.int 0))) (.bl false) (.bl false) (.bl false)))) := upd_same
      have e2 : Same H (upd (upd H p1 (.dK [])) p1 (.dK (mergeK [] (fits4 (.bl (decide (V.int (at0 s.m s.f) = V.int 0))) (.bl false) (.bl false) (.bl false))))) := Same.mut e1 hp1
      refine ⟨_, rfl, _, rfl, p1, _, rfl, k3 ▸ DGet.k (k := Sum.inr wFoe) hd2, _, rfl, ?_⟩
      have et : (false) = told side .foe (at0 s.m s.f) := by simp [told, sideOf, kindOf, mz] <;> exact decide_eq_decide.mpr Iff.rfl
      refine ite2 (fun cc => ?_) (fun cc => ?_)
      all_goals rw [et] at cc
      · exact ⟨_, rfl, z1, one _ _ s e2 (hu'.same e2) (by simp only [stepE]; rw [if_pos cc])⟩
      · exact ⟨z0, zero _ e2 (by simp only [stepE]; rw [if_neg cc])⟩
  | kin k =>
    have hc' : SqT K H c [.str wAt, .int k] := by
      cases hp with
      | one h1 h2 => simp at h2
      | kin h => exact h
    refine ⟨_, rfl, c, _, _, _, rfl, rfl, hc', at_0, _, rfl, rfl, _, rfl, ?_⟩
    refine ite2 (fun c => absurd c (by decide +kernel)) (fun _ => ?_)
    refine ⟨_, rfl, rfl, _, rfl, ?_⟩
    refine ite2 (fun c => absurd c (by decide +kernel)) (fun _ => ?_)
    refine ⟨_, rfl, rfl, _, rfl, ?_⟩
    refine ite2 (fun c => absurd c (by decide +kernel)) (fun _ => ?_)
    refine ⟨_, rfl, rfl, _, rfl, ?_⟩
    refine ite2 (fun c => absurd c (by decide +kernel)) (fun _ => ?_)
    rcases Int.lt_or_eq_of_le man0 with mp | mz
    · -- a man
      have mne : ¬ at0 s.m s.f = 0 := by omega
      have dp : decide (at0 s.m s.f > 0) = true := decide_eq_true mp
      refine fun p1 hp1 => ?_
      have e1 : Same H (upd H p1 (.dK [])) := Same.new hp1
      refine ⟨_, rfl, rfl, _, rfl, _, _, rfl, rfl, _, rfl, ite2 (fun _ => ?_) (fun z => absurd dp z)⟩
      refine ⟨_, rfl, _, _, rfl, rfl, .inl ⟨_, rfl, _, _, rfl, rfl, (by show (0 : Int) < 2; decide), _, rfl, rfl, ?_⟩⟩
      refine ⟨_, rfl, _, _, rfl, rfl, _, rfl, ite2 (fun _ => ?_) (fun z => absurd dp z)⟩
      refine ⟨_, rfl, _, _, rfl, rfl, .inl ⟨_, rfl, _, _, rfl, rfl, (by show (0 : Int) < 2; decide), _, rfl, rfl, ?_⟩⟩
      refine ⟨_, rfl, _, _, rfl, rfl, _, rfl, ite2 (fun _ => ?_) (fun z => absurd dp z)⟩
      refine ⟨_, rfl, rfl, _, rfl, ?_⟩
      refine ite2 (fun _ => ?_) (fun c => absurd (by decide +kernel) c)
      refine ⟨_, rfl, _, _, rfl, rfl, _, _, rfl, rfl, ⟨by decide, by decide⟩, _, rfl, _, rfl, c, _, rfl, .inr (seqT e1 hc'), _, _, rfl, rfl, c, _, _, _, rfl, rfl, seqT e1 hc', at_1, rfl, upd_same, fits4 (.bl (decide (V.int (at0 s.m s.f) = V.int 0))) (.bl (decide (V.int ((at0 s.m s.f - 1) % 2) = V.int side))) (.bl (!decide (V.int ((at0 s.m s.f - 1) % 2) = V.int side))) (.bl (decide (V.int ((at0 s.m s.f - 1) / 2) = V.int k))), rfl, four (.bl (decide (V.int (at0 s.m s.f) = V.int 0))) (.bl (decide (V.int ((at0 s.m s.f - 1) % 2) = V.int side))) (.bl (!decide (V.int ((at0 s.m s.f - 1) % 2) = V.int side))) (.bl (decide (V.int ((at0 s.m s.f - 1) / 2) = V.int k))), ?_⟩
      obtain ⟨k1, k2, k3, k4⟩ := fits_at (.bl (decide (V.int (at0 s.m s.f) = V.int 0))) (.bl (decide (V.int ((at0 s.m s.f - 1) % 2) = V.int side))) (.bl (!decide (V.int ((at0 s.m s.f - 1) % 2) = V.int side))) (.bl (decide (V.int ((at0 s.m s.f - 1) / 2) = V.int k)))
      have hd2 : (upd (upd H p1 (.dK [])) p1 (.dK (mergeK [] (fits4 (.bl (decide (V.int (at0 s.m s.f) = V.int 0))) (.bl (decide (V.int ((at0 s.m s.f - 1) % 2) = V.int side))) (.bl (!decide (V.int ((at0 s.m s.f - 1) % 2) = V.int side))) (.bl (decide (V.int ((at0 s.m s.f - 1) / 2) = V.int k))))))) p1 = some (.dK (mergeK [] (fits4 (.bl (decide (V.int (at0 s.m s.f) = V.int 0))) (.bl (decide (V.int ((at0 s.m s.f - 1) % 2) = V.int side))) (.bl (!decide (V.int ((at0 s.m s.f - 1) % 2) = V.int side))) (.bl (decide (V.int ((at0 s.m s.f - 1) / 2) = V.int k)))))) := upd_same
      have e2 : Same H (upd (upd H p1 (.dK [])) p1 (.dK (mergeK [] (fits4 (.bl (decide (V.int (at0 s.m s.f) = V.int 0))) (.bl (decide (V.int ((at0 s.m s.f - 1) % 2) = V.int side))) (.bl (!decide (V.int ((at0 s.m s.f - 1) % 2) = V.int side))) (.bl (decide (V.int ((at0 s.m s.f - 1) / 2) = V.int k))))))) := Same.mut e1 hp1
      refine ⟨_, rfl, _, rfl, p1, _, rfl, k4 ▸ DGet.k (k := Sum.inr wAt) hd2, _, rfl, ?_⟩
      have et : (decide (V.int ((at0 s.m s.f - 1) / 2) = V.int k)) = told side (.kin k) (at0 s.m s.f) := by simp [told, sideOf, kindOf, mne] <;> exact decide_eq_decide.mpr Iff.rfl
      refine ite2 (fun cc => ?_) (fun cc => ?_)
      all_goals rw [et] at cc
      · exact ⟨_, rfl, z1, one _ _ s e2 (hu'.same e2) (by simp only [stepE]; rw [if_pos cc])⟩
      · exact ⟨z0, zero _ e2 (by simp only [stepE]; rw [if_neg cc])⟩
    · -- none
      have mz : at0 s.m s.f = 0 := mz.symm
      have dp : ¬ decide (at0 s.m s.f > 0) = true := fun z => by have := of_decide_eq_true z; omega
      refine fun p1 hp1 => ?_
      have e1 : Same H (upd H p1 (.dK [])) := Same.new hp1
      refine ⟨_, rfl, rfl, _, rfl, _, _, rfl, rfl, _, rfl, ite2 (fun z => absurd z dp) (fun _ => ?_)⟩
      refine ⟨_, rfl, _, _, rfl, rfl, _, rfl, ite2 (fun z => absurd z dp) (fun _ => ?_)⟩
      refine ⟨_, rfl, _, _, rfl, rfl, _, rfl, ite2 (fun z => absurd z dp) (fun _ => ?_)⟩
      refine ⟨upd_same, fits4 (.bl (decide (V.int (at0 s.m s.f) = V.int 0))) (.bl false) (.bl false) (.bl false), rfl, four (.bl (decide (V.int (at0 s.m s.f) = V.int 0))) (.bl false) (.bl false) (.bl false), ?_⟩
      obtain ⟨k1, k2, k3, k4⟩ := fits_at (.bl (decide (V.int (at0 s.m s.f) = V.int 0))) (.bl false) (.bl false) (.bl false)
      have hd2 : (upd (upd H p1 (.dK [])) p1 (.dK (mergeK [] (fits4 (.bl (decide (V.int (at0 s.m s.f) = V.int 0))) (.bl false) (.bl false) (.bl false))))) p1 = some (.dK (mergeK [] (fits4 (.bl (decide (V.int (at0 s.m s.f) = V.int 0))) (.bl false) (.bl false) (.bl false)))) := upd_same
      have e2 : Same H (upd (upd H p1 (.dK [])) p1 (.dK (mergeK [] (fits4 (.bl (decide (V.int (at0 s.m s.f) = V.int 0))) (.bl false) (.bl false) (.bl false))))) := Same.mut e1 hp1
      refine ⟨_, rfl, _, rfl, p1, _, rfl, k4 ▸ DGet.k (k := Sum.inr wAt) hd2, _, rfl, ?_⟩
      have et : (false) = told side (.kin k) (at0 s.m s.f) := by simp [told, sideOf, kindOf, mz] <;> exact decide_eq_decide.mpr Iff.rfl
      refine ite2 (fun cc => ?_) (fun cc => ?_)
      all_goals rw [et] at cc
      · exact ⟨_, rfl, z1, one _ _ s e2 (hu'.same e2) (by simp only [stepE]; rw [if_pos cc])⟩
      · exact ⟨z0, zero _ e2 (by simp only [stepE]; rw [if_neg cc])⟩
  | row ps => simp [Pg.leaf] at hl
  | either ps => simp [Pg.leaf] at hl
  | any p => simp [Pg.leaf] at hl
end Sk

/-! Sk: the law's spots. -/
namespace Sk
open PySem L2 PySem.Spec PyProof.Rows
variable {P : Program} {w : World} {K : PySem.W.Frag} {mg : Str → Option Value} {base : Heap}

/-- a list of spots without repeats, at each of them one of ss can end -/
structure SpL (G : GD) (E : Spot → Spot → Prop) (ss bs : List Spot) : Prop where
  nd : bs.Nodup
  from_ : ∀ b ∈ bs, ∃ s ∈ ss, E s b
theorem SpL.ok {G : GD} {E : Spot → Spot → Prop} {ss bs : List Spot} (h : SpL G E ss bs) (hs : ∀ s ∈ ss, SpotK G s) (hE : ∀ s b, SpotK G s → E s b → SpotK G b) : ∀ b ∈ bs, SpotK G b := fun b hb => let ⟨s, h1, h2⟩ := h.from_ b hb; hE s b (hs s h1) h2
theorem SpL.join {G : GD} {E : Spot → Spot → Prop} {ss fs bs : List Spot} (h : SpL G E ss fs) (hb : bs.Nodup) (hE : ∀ b ∈ bs, ∃ s ∈ ss, E s b) : SpL G E ss (fs ++ bs.filter fun b => !decide (b ∈ fs)) := by
  refine ⟨?_, fun b h' => ?_⟩
  · rw [List.nodup_append]
    refine ⟨h.nd, hb.filter _, fun a ha b hb' e => ?_⟩
    rw [← e] at hb'
    have := (List.mem_filter.mp hb').2
    simp [ha] at this
  · rcases List.mem_append.mp h' with z | z
    · exact h.from_ b z
    · exact hE b (List.mem_filter.mp z).1
theorem endsE_of {G : GD} {side : Int} {p1 : Pg} {s b : Spot} (hE : Ends G side p1 s b) : ∀ {ps : List Pg}, p1 ∈ ps → EndsE G side ps s b
  | [], h => nomatch h
  | p0 :: ps, h => by
    rcases List.mem_cons.mp h with z | z
    · subst z; exact .inl hE
    · exact .inr (endsE_of hE z)
def sp_L_spots (K : PySem.W.Frag) (h : Nat) : Sp := fun vs H Q _ => ∃ (r ls : Addr) (G : GD) (side : Int) (v : V) (p : Pg) (xs : List V) (ss : List Spot), vs = [.ref r, .int side, v, .ref ls] ∧ RulesAt K H r G ∧ GOk G ∧ PgR K H v p ∧ p.ok G ∧ p.hgt < h ∧ SqL K H ls xs ∧ Rs K H xs ss ∧ ss.Nodup ∧ (∀ s ∈ ss, SpotK G s) ∧
  ∀ l ys bs H', Same H H' → H l = none → H' l = some (.lst ys) → Rs K H' ys bs → SpL G (Ends G side p) ss bs → Q (.ref l) H'
set_option maxHeartbeats 8000000 in
theorem step_L_spots (T : Top K mg) {n h : Nat} (hn : 1 ≤ n) (Gs : FnOk P w K mg base CX0 n T.L_spots.a T.L_spots.fd P_L_spots (sp_L_spots K h)) : FnOk P w K mg base CX0 (n + 1) T.L_spots.a T.L_spots.fd P_L_spots (sp_L_spots K (h + 1)) := by
  refine T.L_spots.F.ok sc_L_spots (fun vs H Q E h => ?_) (fun cdv A outer s H vs Q E hr hh => ?_)
  · obtain ⟨_, _, _, _, _, _, _, _, rfl, _⟩ := h; rfl
  obtain ⟨g, ls, G, side, v, p, xs, ss, rfl, hg, gok, hp, pok, ph, hls, hss, snd, sok, q⟩ := hh
  have nd := sc_L_spots.nd
  have hu := hu64 hr
  have hu5 := hu65 hr
  have z0 : 0 ≤ sizeLine := by decide
  refine ⟨_, (pss_cons (ps_if (pt_cmpR op_eq (pe_ix ix_tup (pv 2) pe_int (fun _ _ => rfl)) pe_str (nomark _))
      (pss_cons (ps_set (i := 4) nd rfl (Or.inr rfl) (pe_callTy call_list_of rfl T.z_list (by decide +kernel) (pa_cons (pv 3) pa_nil)))
      (pss_cons (ps_for PassesOwn.never rfl (pi_list (pe_ix ix_tup (pv 2) pe_int (fun _ _ => rfl))) (pg_name (i := 5) nd rfl (Or.inl rfl))
        (pss_one (ps_set (i := 4) nd rfl (Or.inr rfl) (pe_call (Gs) (hr.mono (by omega)) rfl T.L_spots.m T.L_spots.k T.L_spots.b .nil pass0 (pa_cons (pv 0) (pa_cons (pv 1) (pa_cons (pv 5) (pa_cons (pv 4) pa_nil))))))))
      (pss_one (ps_ret (pv 4)))))
      pss_nil)
    (pss_cons (ps_set (i := 4) nd rfl (Or.inr rfl) (pe_lst pa_nil))
    (pss_cons (ps_if (pt_cmpR op_eq (pe_ix ix_tup (pv 2) pe_int (fun _ _ => rfl)) pe_str (nomark _))
      (pss_cons (ps_for PassesOwn.never rfl (pi_list (pe_ix ix_tup (pv 2) pe_int (fun _ _ => rfl))) (pg_name (i := 5) nd rfl (Or.inl rfl))
        (pss_one (ps_set (i := 4) nd rfl (Or.inr rfl) (pe_op op_cat (pv 4) (pe_lc (own := [("_law_spot", 8)]) (g := gName 8) rfl nd (pi_list (pe_call (Gs) (hr.mono (by omega)) rfl T.L_spots.m T.L_spots.k T.L_spots.b .nil pass0 (pa_cons (pv 0) (pa_cons (pv 1) (pa_cons (pv 5) (pa_cons (pv 3) pa_nil)))))) (blkOk_by (N := N_L_spots) (sc := defScope s_L_spots) (by decide +kernel)) (fun _ _ _ _ _ => (pg_name (i := 8) nd rfl (Or.inl rfl))) (fun _ _ _ _ _ => (pts_one (pt_cmpR (op_notInEK Spot (K := K) rfl hu5) (pv 8) (pv 4) (by rfl)))) (fun _ _ _ _ _ => (pv 8)))))))
      (pss_one (ps_ret (pv 4))))
      pss_nil)
    (pss_cons (ps_if (pt_cmpR op_eq (pe_ix ix_tup (pv 2) pe_int (fun _ _ => rfl)) pe_str (nomark _))
      (pss_cons (ps_set (i := 4) nd rfl (Or.inr rfl) (pe_callTy call_list_of rfl T.z_list (by decide +kernel) (pa_cons (pv 3) pa_nil)))
      (pss_cons (ps_set (i := 6) nd rfl (Or.inl rfl) (pe_callTy call_list_of rfl T.z_list (by decide +kernel) (pa_cons (pv 3) pa_nil)))
      (pss_cons (ps_for PassesOwn.never rfl (pi_range1 rfl T.z_range (pa_cons pe_int pa_nil)) (pg_name (i := 7) nd rfl (Or.inl rfl))
        (pss_one (ps_if (pt_cmpR (op_neL Spot hu) (pv 6) (pe_lst pa_nil) (nomark _))
          (pss_cons (ps_setLc (i := 6) (own := [("_law_spot", 8)]) (g := gName 8) rfl nd rfl rfl (sw_true rfl rfl rfl (by decide +kernel)) (pi_list (pe_call (Gs) (hr.mono (by omega)) rfl T.L_spots.m T.L_spots.k T.L_spots.b .nil pass0 (pa_cons (pv 0) (pa_cons (pv 1) (pa_cons (pe_ix ix_tup (pv 2) pe_int (fun _ _ => rfl)) (pa_cons (pv 6) pa_nil)))))) (blkOk_by (N := N_L_spots) (sc := defScope s_L_spots) (by decide +kernel)) (fun _ _ _ _ _ => (pg_name (i := 8) nd rfl (Or.inl rfl))) (fun _ _ _ _ _ => (pts_one (pt_cmpR (op_notInEK Spot (K := K) rfl hu5) (pv 8) (pv 4) (by rfl)))) (fun _ _ _ _ _ => (pv 8)))
          (pss_one (ps_set (i := 4) nd rfl (Or.inr rfl) (pe_op op_cat (pv 4) (pv 6)))))
          pss_nil)))
      (pss_one (ps_ret (pv 4))))))
      pss_nil)
    (pss_cons (ps_for PassesOwn.never rfl (pi_list (pv 3)) (pg_name (i := 8) nd rfl (Or.inl rfl))
      (pss_one (ps_set (i := 4) nd rfl (Or.inr rfl) (pe_op op_cat (pv 4) (pe_lc (own := [("_law_end", 9)]) (g := gName 9) rfl nd (pi_list (pe_call (ok_L_step T) (hr.mono (by omega)) rfl T.L_step.m T.L_step.k T.L_step.b .nil pass0 (pa_cons (pv 0) (pa_cons (pv 1) (pa_cons (pv 2) (pa_cons (pv 8) pa_nil)))))) (blkOk_by (N := N_L_spots) (sc := defScope s_L_spots) (by decide +kernel)) (fun _ _ _ _ _ => (pg_name (i := 9) nd rfl (Or.inl rfl))) (fun _ _ _ _ _ => (pts_one (pt_cmpR (op_notInEK Spot (K := K) rfl hu5) (pv 9) (pv 4) (by rfl)))) (fun _ _ _ _ _ => (pv 9)))))))
    (pss_one (ps_ret (pv 4)))))))), ?_⟩
  have few : ∀ {bs : List Spot}, bs.Nodup → (∀ b ∈ bs, SpotK G b) → bs.length ≤ 31250 := fun a b => spots_most gok a b
  rcases leaf_or p with hl | ⟨ps, rfl⟩ | ⟨ps, rfl⟩ | ⟨p, rfl⟩
  · obtain ⟨a, r, rfl, ha⟩ := hp.word
    obtain ⟨w1, w2, w3⟩ := leaf_word hl
    refine ⟨_, rfl, a, _, _, _, rfl, rfl, ha, at_0, rfl, _, rfl, ite2 (fun c => absurd (c.symm.trans w1) (by decide)) (fun _ => ?_)⟩
    refine ⟨z0, fun f0 hf0 => ?_⟩
    have e0 := Same.new (o := .lst []) hf0
    refine ⟨_, rfl, a, _, _, _, rfl, rfl, seqT e0 ha, at_0, rfl, _, rfl, ite2 (fun c => absurd (c.symm.trans w2) (by decide)) (fun _ => ?_)⟩
    refine ⟨_, rfl, a, _, _, _, rfl, rfl, seqT e0 ha, at_0, rfl, _, rfl, ite2 (fun c => absurd (c.symm.trans w3) (by decide)) (fun _ => ?_)⟩
    refine ⟨_, rfl, ls, rfl, ⟨_, e0.seq hls⟩, ?_⟩
    refine for_it (walkL (K := K) (a := ls) (xs := xs)) (fun i σ H2 => ∃ fa fxs fs x5 x6 x7 x8 x9, σ = [some (.ref g), some (.int side), some (.ref a), some (.ref ls), some (.ref fa), x5, x6, x7, x8, x9] ∧ Same H H2 ∧ H fa = none ∧ H2 fa = some (.lst fxs) ∧ Rs K H2 fxs fs ∧ SpL G (Ends G side p) ss fs)
      ⟨f0, [], [], _, _, _, _, _, rfl, e0, hf0, upd_same, .nil, List.nodup_nil, fun b h => nomatch h⟩ (fun i σ H2 _ ⟨_, _, _, _, _, _, _, _, _, e, _⟩ => e.seq hls) (fun i x σ H2 H2' hi hP hY => ?_) (fun σ H2 hP => ?_)
    · obtain ⟨fa, fxs, fs, x5, x6, x7, x8, x9, rfl, e2, hn, hfa, rfs, spl⟩ := hP
      obtain ⟨rfl, hx⟩ := hY
      obtain ⟨s1, hs1, hR⟩ := (hss.same e2).get hx
      have hsm := List.mem_of_getElem? hs1
      refine ⟨_, rfl, _, rfl, _, rfl, _, rfl, _, rfl, g, G, side, .ref a, x, p, s1, rfl, hg.same e2, gok, hp.same e2 _ _, hl, pok, hR, sok s1 hsm, fun l ys H3 e3 hl3 hr3 => ⟨l, rfl, ⟨_, SqL.of hl3⟩, fun DD hDD => ?_⟩⟩
      have hfa3 := e3 _ _ hfa
      have rfs3 := rfs.same e3
      have hst := step_len (G := G) side p s1
      have hbn : (stepE G side p s1).length ≤ 31250 := by omega
      have fsl := few spl.nd (spl.ok sok fun a b ha hE => (ends_ok gok p a b pok ha hE).1)
      have fxl := rfs.length
      refine lc_it (walkL (K := K) (a := l) (xs := ys)) (fun i H9 => ∃ acc, Same H3 H9 ∧ H9 DD = some (.lst acc) ∧ Rs K H9 acc (((stepE G side p s1).take i).filter fun b => !decide (b ∈ fs))) ⟨[], Same.new hDD, upd_same, .nil⟩ (fun i H9 _ ⟨_, e, _⟩ => SqL.of (e _ _ hl3)) (fun i y H9 H9' hi hP hY => ?_) (fun H9 hP => ?_)
      · obtain ⟨acc, e9, h9, r9⟩ := hP
        obtain ⟨rfl, hy⟩ := hY
        obtain ⟨b, hb, hyb⟩ := (hr3.same e9).get hy
        refine ⟨rfl, _, rfl, _, rfl, b, fs, fa, _, hyb, rfl, e9.seq (SqL.of hfa3), rfs3.same e9, _, rfl, ite2 (fun cc => ?_) (fun cc => ?_)⟩
        · have cc : ¬ b ∈ fs := by simpa using cc
          have hal := r9.length
          have h1 := List.length_filter_le (fun b => !decide (b ∈ fs)) ((stepE G side p s1).take i)
          have h2 : ((stepE G side p s1).take i).length ≤ 31250 := by rw [List.length_take]; have := hbn; omega
          have t9 : TK K H9' (upd H9' DD (.lst (acc ++ [y]))) := TK.wr (by rw [h9]; trivial)
          refine ⟨_, rfl, _, h9, big' (by omega), acc ++ [y], Same.mut e9 hDD, upd_same, ?_⟩
          rw [take_one hb, List.filter_append]
          have : List.filter (fun b => !decide (b ∈ fs)) [b] = [b] := by simp [cc]
          rw [this]
          exact (r9.fut t9).snoc (hyb.fut t9)
        · have cc : b ∈ fs := by
            cases z : decide (b ∈ fs) with
            | true => exact of_decide_eq_true z
            | false => rw [z] at cc; exact absurd rfl cc
          refine ⟨acc, e9, h9, ?_⟩
          rw [take_one hb, List.filter_append]
          have : List.filter (fun b => !decide (b ∈ fs)) [b] = [] := by simp [cc]
          rw [this, List.append_nil]
          exact r9
      obtain ⟨acc, e9, h9, r9⟩ := hP
      rw [hr3.length, List.take_length] at r9
      have hal := r9.length
      have hfilt := List.length_filter_le (fun b => !decide (b ∈ fs)) (stepE G side p s1)
      refine ⟨fa, DD, fxs, acc, rfl, rfl, e9 _ _ hfa3, h9, big (by omega), fun p2 hp2 => ?_⟩
      have e10 := Same.new (o := .lst (fxs ++ acc)) hp2
      refine ⟨p2, _, _, _, _, _, _, _, rfl, (e2.trans e3).trans (e9.trans e10), ((e2.trans e3).trans e9).free hp2, upd_same, ((rfs3.same e9).append r9).same e10, spl.join ?_ fun b hb => ⟨s1, hsm, (ends_leaf hl).mpr hb⟩⟩
      have : (stepE G side p s1).Nodup := by
        match hq : stepE G side p s1, hst with
        | [], _ => exact List.nodup_nil
        | [x], _ => simp
        | x :: y :: r, h => simp at h
      exact this
    · obtain ⟨fa, fxs, fs, x5, x6, x7, x8, x9, rfl, e2, hn, hfa, rfs, spl⟩ := hP
      exact ⟨_, rfl, q fa fxs fs H2 e2 hn hfa rfs spl⟩
  · cases hp with
    | one h1 h2 => simp at h2
    | @row a l vs _ ha hvs hps =>
      unfold Pg.ok at pok
      unfold Pg.hgt at ph
      refine ⟨_, rfl, a, _, _, _, rfl, rfl, ha, at_0, rfl, _, rfl, ?_⟩
      refine ite2 (fun _ => ?_) (fun c => absurd (by decide +kernel) c)
      refine ⟨_, rfl, ls, xs, rfl, .inl hls, fun f0 hf0 => ?_⟩
      have e0 := Same.new (o := .lst xs) hf0
      refine ⟨_, rfl, a, _, _, _, rfl, rfl, seqT e0 ha, at_1, l, rfl, ⟨_, e0.seq hvs⟩, ?_⟩
      refine for_it (walkL (K := K) (a := l) (xs := vs)) (fun i σ H2 => ∃ fa fxs fs x5 x6 x7 x8 x9, σ = [some (.ref g), some (.int side), some (.ref a), some (.ref ls), some (.ref fa), x5, x6, x7, x8, x9] ∧ Same H H2 ∧ H fa = none ∧ H2 fa = some (.lst fxs) ∧ Rs K H2 fxs fs ∧ SpL G (EndsR G side (ps.take i)) ss fs)
        ⟨f0, xs, ss, _, _, _, _, _, rfl, e0, hf0, upd_same, hss.same e0, snd, fun b hb => ⟨b, hb, by simp [EndsR]⟩⟩ (fun i σ H2 _ ⟨_, _, _, _, _, _, _, _, _, e, _⟩ => e.seq hvs) (fun i x σ H2 H2' hi hP hY => ?_) (fun σ H2 hP => ?_)
      · obtain ⟨fa, fxs, fs, x5, x6, x7, x8, x9, rfl, e2, hn, hfa, rfs, spl⟩ := hP
        obtain ⟨rfl, hx⟩ := hY
        obtain ⟨p1, hp1, hp2⟩ := hps.all.get' hx
        have hpm := List.mem_of_getElem? hp1
        have fok := spl.ok sok fun a b ha hE => (endsR_ok gok _ a b (oks_take pok i) ha hE).1
        refine ⟨_, rfl, _, rfl, _, rfl, _, rfl, g, fa, G, side, x, p1, fxs, fs, rfl, hg.same e2, gok, hp2.same e2 _ _, oks_mem pok p1 hpm, by have := hgts_mem hpm; omega, SqL.of hfa, rfs, spl.nd, fok, fun l2 ys bs H3 e3 hn3 hl3 hr3 sp3 => ⟨l2, ys, bs, _, _, _, _, _, rfl, e2.trans e3, e2.free hn3, hl3, hr3, sp3.nd, fun b hb => ?_⟩⟩
        obtain ⟨c, hc, hcb⟩ := sp3.from_ b hb
        obtain ⟨s1, hs1, hE⟩ := spl.from_ c hc
        exact ⟨s1, hs1, by rw [take_one hp1, endsR_snoc]; exact ⟨c, hE, hcb⟩⟩
      · obtain ⟨fa, fxs, fs, x5, x6, x7, x8, x9, rfl, e2, hn, hfa, rfs, spl⟩ := hP
        rw [hps.all.length, List.take_length] at spl
        exact ⟨_, rfl, q fa fxs fs H2 e2 hn hfa rfs ⟨spl.nd, fun b hb => let ⟨s1, h1, h2⟩ := spl.from_ b hb; ⟨s1, h1, by unfold Ends; exact h2⟩⟩⟩
  · cases hp with
    | one h1 h2 => simp at h2
    | @either a l vs _ ha hvs hps =>
      unfold Pg.ok at pok
      unfold Pg.hgt at ph
      refine ⟨_, rfl, a, _, _, _, rfl, rfl, ha, at_0, rfl, _, rfl, ?_⟩
      refine ite2 (fun c => absurd c (by decide +kernel)) (fun _ => ?_)
      refine ⟨z0, fun f0 hf0 => ?_⟩
      have e0 := Same.new (o := .lst []) hf0
      refine ⟨_, rfl, a, _, _, _, rfl, rfl, seqT e0 ha, at_0, rfl, _, rfl, ?_⟩
      refine ite2 (fun _ => ?_) (fun c => absurd (by decide +kernel) c)
      refine ⟨_, rfl, a, _, _, _, rfl, rfl, seqT e0 ha, at_1, l, rfl, ⟨_, e0.seq hvs⟩, ?_⟩
      refine for_it (walkL (K := K) (a := l) (xs := vs)) (fun i σ H2 => ∃ fa fxs fs x5 x6 x7 x8 x9, σ = [some (.ref g), some (.int side), some (.ref a), some (.ref ls), some (.ref fa), x5, x6, x7, x8, x9] ∧ Same H H2 ∧ H fa = none ∧ H2 fa = some (.lst fxs) ∧ Rs K H2 fxs fs ∧ SpL G (EndsE G side ps) ss fs)
        ⟨f0, [], [], _, _, _, _, _, rfl, e0, hf0, upd_same, .nil, List.nodup_nil, fun b hb => nomatch hb⟩ (fun i σ H2 _ ⟨_, _, _, _, _, _, _, _, _, e, _⟩ => e.seq hvs) (fun i x σ H2 H2' hi hP hY => ?_) (fun σ H2 hP => ?_)
      · obtain ⟨fa, fxs, fs, x5, x6, x7, x8, x9, rfl, e2, hn, hfa, rfs, spl⟩ := hP
        obtain ⟨rfl, hx⟩ := hY
        obtain ⟨p1, hp1, hp2⟩ := hps.all.get' hx
        have hpm := List.mem_of_getElem? hp1
        have p1k := oks_mem pok p1 hpm
        have eEm : ∀ s b, Ends G side p1 s b → EndsE G side ps s b := fun s b hE => endsE_of hE hpm
        refine ⟨_, rfl, _, rfl, _, rfl, _, rfl, _, rfl, g, ls, G, side, x, p1, xs, ss, rfl, hg.same e2, gok, hp2.same e2 _ _, p1k, by have := hgts_mem hpm; omega, e2.seq hls, hss.same e2, snd, sok, fun l2 ys bs H3 e3 hn3 hl3 hr3 sp3 => ⟨l2, rfl, ⟨_, SqL.of hl3⟩, fun DD hDD => ?_⟩⟩
        have hfa3 := e3 _ _ hfa
        have rfs3 := rfs.same e3
        have hbn := few sp3.nd (sp3.ok sok fun a b ha hE => (ends_ok gok p1 a b p1k ha hE).1)
        have fsl := few spl.nd (spl.ok sok fun a b ha hE => (endsE_ok gok ps a b pok ha hE).1)
        have fxl := rfs.length
        refine lc_it (walkL (K := K) (a := l2) (xs := ys)) (fun i H9 => ∃ acc, Same H3 H9 ∧ H9 DD = some (.lst acc) ∧ Rs K H9 acc ((bs.take i).filter fun b => !decide (b ∈ fs))) ⟨[], Same.new hDD, upd_same, .nil⟩ (fun i H9 _ ⟨_, e, _⟩ => SqL.of (e _ _ hl3)) (fun i y H9 H9' hi hP hY => ?_) (fun H9 hP => ?_)
        · obtain ⟨acc, e9, h9, r9⟩ := hP
          obtain ⟨rfl, hy⟩ := hY
          obtain ⟨b, hb, hyb⟩ := (hr3.same e9).get hy
          refine ⟨rfl, _, rfl, _, rfl, b, fs, fa, _, hyb, rfl, e9.seq (SqL.of hfa3), rfs3.same e9, _, rfl, ite2 (fun cc => ?_) (fun cc => ?_)⟩
          · have cc : ¬ b ∈ fs := by simpa using cc
            have hal := r9.length
            have h1 := List.length_filter_le (fun b => !decide (b ∈ fs)) (bs.take i)
            have h2 : (bs.take i).length ≤ 31250 := by rw [List.length_take]; have := hbn; omega
            have t9 : TK K H9' (upd H9' DD (.lst (acc ++ [y]))) := TK.wr (by rw [h9]; trivial)
            refine ⟨_, rfl, _, h9, big' (by omega), acc ++ [y], Same.mut e9 hDD, upd_same, ?_⟩
            rw [take_one hb, List.filter_append]
            have : List.filter (fun b => !decide (b ∈ fs)) [b] = [b] := by simp [cc]
            rw [this]
            exact (r9.fut t9).snoc (hyb.fut t9)
          · have cc : b ∈ fs := by
              cases z : decide (b ∈ fs) with
              | true => exact of_decide_eq_true z
              | false => rw [z] at cc; exact absurd rfl cc
            refine ⟨acc, e9, h9, ?_⟩
            rw [take_one hb, List.filter_append]
            have : List.filter (fun b => !decide (b ∈ fs)) [b] = [] := by simp [cc]
            rw [this, List.append_nil]
            exact r9
        obtain ⟨acc, e9, h9, r9⟩ := hP
        rw [hr3.length, List.take_length] at r9
        have hal := r9.length
        have hfilt := List.length_filter_le (fun b => !decide (b ∈ fs)) bs
        refine ⟨fa, DD, fxs, acc, rfl, rfl, e9 _ _ hfa3, h9, big (by omega), fun p2 hp2 => ?_⟩
        have e10 := Same.new (o := .lst (fxs ++ acc)) hp2
        exact ⟨p2, _, _, _, _, _, _, _, rfl, (e2.trans e3).trans (e9.trans e10), ((e2.trans e3).trans e9).free hp2, upd_same, ((rfs3.same e9).append r9).same e10, spl.join sp3.nd fun b hb => let ⟨s1, h1, h2⟩ := sp3.from_ b hb; ⟨s1, h1, eEm s1 b h2⟩⟩
      · obtain ⟨fa, fxs, fs, x5, x6, x7, x8, x9, rfl, e2, hn, hfa, rfs, spl⟩ := hP
        exact ⟨_, rfl, q fa fxs fs H2 e2 hn hfa rfs ⟨spl.nd, fun b hb => let ⟨s1, h1, h2⟩ := spl.from_ b hb; ⟨s1, h1, by unfold Ends; exact h2⟩⟩⟩
  · cases hp with
    | one h1 h2 => simp at h2
    | @any a v _ ha hv =>
      unfold Pg.ok at pok
      unfold Pg.hgt at ph
      refine ⟨_, rfl, a, _, _, _, rfl, rfl, ha, at_0, rfl, _, rfl, ?_⟩
      refine ite2 (fun c => absurd c (by decide +kernel)) (fun _ => ?_)
      refine ⟨z0, fun f0 hf0 => ?_⟩
      have e0 := Same.new (o := .lst []) hf0
      refine ⟨_, rfl, a, _, _, _, rfl, rfl, seqT e0 ha, at_0, rfl, _, rfl, ?_⟩
      refine ite2 (fun c => absurd c (by decide +kernel)) (fun _ => ?_)
      refine ⟨_, rfl, a, _, _, _, rfl, rfl, seqT e0 ha, at_0, rfl, _, rfl, ?_⟩
      refine ite2 (fun _ => ?_) (fun c => absurd (by decide +kernel) c)
      refine ⟨_, rfl, ls, xs, rfl, .inl (e0.seq hls), fun f1 hf1 => ?_⟩
      have e1 := e0.trans (Same.new (o := .lst xs) hf1)
      refine ⟨_, rfl, ls, xs, rfl, .inl (e1.seq hls), fun f2 hf2 => ?_⟩
      have s2 := Same.new (o := .lst xs) hf2
      have e2 := e1.trans s2
      have starok : ∀ a b, SpotK G a → Star (Ends G side p) a b → SpotK G b := fun a b ha hE => star_ok gok pok.2 ha hE
      refine ⟨400, rfl, by decide, by decide, ?_⟩
      refine for_range (lo := 0) (n := (400 : Int).toNat) (fun i σ H3 => ∃ fa fxs fs la lxs lz x5 x7 x8 x9, σ = [some (.ref g), some (.int side), some (.ref a), some (.ref ls), some (.ref fa), x5, some (.ref la), x7, x8, x9] ∧ Same H H3 ∧ H fa = none ∧ H3 fa = some (.lst fxs) ∧ Rs K H3 fxs fs ∧ SpL G (Star (Ends G side p)) ss fs ∧ H3 la = some (.lst lxs) ∧ Rs K H3 lxs lz ∧ SpL G (Star (Ends G side p)) ss lz)
        ⟨f1, xs, ss, f2, xs, ss, _, _, _, _, rfl, e2, e0.free hf1, s2 _ _ upd_same, hss.same e2, ⟨snd, fun b hb => ⟨b, hb, .refl⟩⟩, upd_same, hss.same e2, ⟨snd, fun b hb => ⟨b, hb, .refl⟩⟩⟩ (fun i σ H3 hi hP => ?_) (fun σ H3 hP => ?_)
      · obtain ⟨fa, fxs, fs, la, lxs, lz, x5, x7, x8, x9, rfl, e3, hn, hfa, rfs, spl, hla, rlz, spz⟩ := hP
        refine ⟨_, rfl, z0, fun m hm => ?_⟩
        have s4 := Same.new (o := .lst []) hm
        have e4 := e3.trans s4
        refine ⟨lz, la, m, lxs, rfl, SqL.of (s4 _ _ hla), rlz.same s4, rfl, SqL.of upd_same, _, rfl, ite2 (fun c => ?_) (fun c => ?_)⟩
        · refine ⟨_, rfl, _, rfl, _, rfl, a, _, _, _, rfl, rfl, seqT e4 ha, at_1, _, rfl, g, la, G, side, v, p, lxs, lz, rfl, hg.same e4, gok, hv.same e4 _ _, pok.2, by omega, SqL.of (s4 _ _ hla), rlz.same s4, spz.nd, spz.ok sok starok, fun l2 ys bs H5 e5 hn5 hl5 hr5 sp5 => ⟨l2, rfl, ⟨_, SqL.of hl5⟩, fun DD hDD => ?_⟩⟩
          have s5 := s4.trans e5
          have hfa5 := s5 _ _ hfa
          have rfs5 := rfs.same s5
          have from5 : ∀ b ∈ bs, ∃ s ∈ ss, Star (Ends G side p) s b := fun b hb => by
            obtain ⟨c, h1, h2⟩ := sp5.from_ b hb
            obtain ⟨s1, h3, h4⟩ := spz.from_ c h1
            exact ⟨s1, h3, .tail h4 h2⟩
          have hbn : bs.length ≤ 31250 := few sp5.nd fun b hb => let ⟨s1, h1, h2⟩ := from5 b hb; starok s1 b (sok s1 h1) h2
          have fsl := few spl.nd (spl.ok sok starok)
          have fxl := rfs.length
          refine lc_it (walkL (K := K) (a := l2) (xs := ys)) (fun i H9 => ∃ acc, Same H5 H9 ∧ H9 DD = some (.lst acc) ∧ Rs K H9 acc ((bs.take i).filter fun b => !decide (b ∈ fs))) ⟨[], Same.new hDD, upd_same, .nil⟩ (fun i H9 _ ⟨_, e, _⟩ => SqL.of (e _ _ hl5)) (fun i y H9 H9' hi hP hY => ?_) (fun H9 hP => ?_)
          · obtain ⟨acc, e9, h9, r9⟩ := hP
            obtain ⟨rfl, hy⟩ := hY
            obtain ⟨b, hb, hyb⟩ := (hr5.same e9).get hy
            refine ⟨rfl, _, rfl, _, rfl, b, fs, fa, _, hyb, rfl, e9.seq (SqL.of hfa5), rfs5.same e9, _, rfl, ite2 (fun cc => ?_) (fun cc => ?_)⟩
            · have cc : ¬ b ∈ fs := by simpa using cc
              have hal := r9.length
              have h1 := List.length_filter_le (fun b => !decide (b ∈ fs)) (bs.take i)
              have h2 : (bs.take i).length ≤ 31250 := by rw [List.length_take]; have := hbn; omega
              have t9 : TK K H9' (upd H9' DD (.lst (acc ++ [y]))) := TK.wr (by rw [h9]; trivial)
              refine ⟨_, rfl, _, h9, big' (by omega), acc ++ [y], Same.mut e9 hDD, upd_same, ?_⟩
              rw [take_one hb, List.filter_append]
              have : List.filter (fun b => !decide (b ∈ fs)) [b] = [b] := by simp [cc]
              rw [this]
              exact (r9.fut t9).snoc (hyb.fut t9)
            · have cc : b ∈ fs := by
                cases z : decide (b ∈ fs) with
                | true => exact of_decide_eq_true z
                | false => rw [z] at cc; exact absurd rfl cc
              refine ⟨acc, e9, h9, ?_⟩
              rw [take_one hb, List.filter_append]
              have : List.filter (fun b => !decide (b ∈ fs)) [b] = [] := by simp [cc]
              rw [this, List.append_nil]
              exact r9
          obtain ⟨acc, e9, h9, r9⟩ := hP
          rw [hr5.length, List.take_length] at r9
          have hal := r9.length
          have hfilt := List.length_filter_le (fun b => !decide (b ∈ fs)) bs
          refine ⟨_, rfl, _, rfl, fa, DD, fxs, acc, rfl, rfl, e9 _ _ hfa5, h9, big (by omega), fun p2 hp2 => ?_⟩
          have e10 := Same.new (o := .lst (fxs ++ acc)) hp2
          exact ⟨p2, _, _, DD, acc, _, _, _, _, _, rfl, (e3.trans s5).trans (e9.trans e10), ((e3.trans s5).trans e9).free hp2, upd_same, ((rfs5.same e9).append r9).same e10, spl.join sp5.nd from5, e10 _ _ h9, r9.same e10, sp5.nd.filter _, fun b hb => from5 b (List.mem_filter.mp hb).1⟩
        · exact ⟨fa, fxs, fs, la, lxs, lz, _, _, _, _, rfl, e4, hn, s4 _ _ hfa, rfs.same s4, spl, s4 _ _ hla, rlz.same s4, spz⟩
      · obtain ⟨fa, fxs, fs, la, lxs, lz, x5, x7, x8, x9, rfl, e3, hn, hfa, rfs, spl, hla, rlz, spz⟩ := hP
        exact ⟨_, rfl, q fa fxs fs H3 e3 hn hfa rfs ⟨spl.nd, fun b hb => let ⟨s1, h1, h2⟩ := spl.from_ b hb; ⟨s1, h1, by unfold Ends; exact h2⟩⟩⟩
theorem ok_L_spots_h (T : Top K mg) : ∀ h : Nat, FnOk P w K mg base CX0 (1 + h) T.L_spots.a T.L_spots.fd P_L_spots (sp_L_spots K h)
  | 0 => by
    have no : ∀ vs H Q E, ¬ sp_L_spots K 0 vs H Q E := fun vs H Q E ⟨_, _, _, _, _, _, _, _, _, _, _, _, _, h, _⟩ => Nat.not_lt_zero _ h
    exact ⟨fun vs H Q E h => absurd h (no vs H Q E), fun A outer s H args us vs Q E _ _ _ _ h => absurd h (no vs H Q E)⟩
  | h + 1 => step_L_spots (n := 1 + h) T (Nat.le_add_right _ _) (ok_L_spots_h T h)
theorem ok_L_spots (T : Top K mg) : FnOk P w K mg base CX0 10 T.L_spots.a T.L_spots.fd P_L_spots (sp_L_spots K 9) := ok_L_spots_h T 9
end Sk

/-! Sk: the law's moves. -/
namespace Sk
open PySem L2 PySem.Spec PyProof.Rows
variable {P : Program} {w : World} {K : PySem.W.Frag} {mg : Str → Option Value} {base : Heap}

def runOf (G : GD) (p : Psn) (st : Int) (s : Spot) : Run := ⟨mvOf G p st s, ⟨1 - p.t, behind p s⟩⟩
def IsRun (G : GD) (p : Psn) (r : Run) : Prop := ∃ (st : Int) (s : Spot), 0 ≤ st ∧ st < G.n ∧ Own p st ∧ RunsTo G p st s ∧ r = runOf G p st s
theorem isRun_few {G : GD} {p : Psn} (g : GOk G) (h : PosOk G p) {rs : List Run} (nd : rs.Nodup) (hr : ∀ r ∈ rs, IsRun G p r) : rs.length ≤ 45 := by
  obtain ⟨L, h1, h2⟩ := runs_few g h
  have z := nd_le (L := L.map fun x => runOf G p x.1 x.2) nd fun r hm => by
    obtain ⟨st, s, a, b, c, d, e⟩ := hr r hm
    exact List.mem_map.mpr ⟨(st, s), h2 st s a b c d, e.symm⟩
  rw [List.length_map] at z
  exact Nat.le_trans z h1
theorem isRun_ok {G : GD} {p : Psn} (g : GOk G) (h : PosOk G p) {r : Run} (hr : IsRun G p r) : PosOk G r.to := by
  obtain ⟨st, s, h0, hn, ho, hr, rfl⟩ := hr
  obtain ⟨q1, q2, _⟩ := prog_facts g h h0 hn ho.1
  obtain ⟨l1, l2⟩ := lift_ok h h0 hn ho.1
  obtain ⟨z, zf⟩ := ends_ok g _ _ _ q1 l1 hr.1
  have hv : 0 ≤ manOf p.t s.k ∧ manOf p.t s.k ≤ 2 * G.kd := by
    unfold manOf
    have := h.t
    have := z.k0
    have := z.k1
    omega
  refine ⟨z.men.set hv.1 hv.2, ?_, ?_⟩
  · have y := full_set (manOf p.t s.k) s.m s.f.toNat
    have := h.few
    show full (List.set _ _ _) ≤ 3
    omega
  · have := h.t
    show 1 - p.t = 0 ∨ 1 - p.t = 1
    omega
def sp_L_moves (K : PySem.W.Frag) : Sp := fun vs H Q _ => ∃ (g : Addr) (G : GD) (u : V) (p : Psn), vs = [.ref g, u] ∧ RulesAt K H g G ∧ GOk G ∧ R K H u p ∧ PosOk G p ∧
  ∀ (l : Addr) (ys : List V) (rs : List Run) (H' : Hp), Same H H' → H' l = some (.lst ys) → Rs K H' ys rs → rs.length ≤ 45 → (∀ r ∈ rs, PosOk G r.to) → Q (.ref l) H'
set_option maxHeartbeats 8000000 in
theorem ok_L_moves (T : Top K mg) : FnOk P w K mg base CX0 11 T.L_moves.a T.L_moves.fd P_L_moves (sp_L_moves K) := by
  refine T.L_moves.F.ok sc_L_moves (fun vs H Q E h => ?_) (fun cdv A outer s H vs Q E hr hh => ?_)
  · obtain ⟨_, _, _, _, rfl, _⟩ := h; rfl
  obtain ⟨g, G, u, p, rfl, hg, gok, hp, pok, q⟩ := hh
  have nd := sc_L_moves.nd
  have hu := hu64 hr
  have hu5 := hu65 hr
  have z0 : 0 ≤ sizeLine := by decide
  have z1 : 1 ≤ sizeLine := by decide
  have z2 : 2 ≤ sizeLine := by decide
  have z3 : 3 ≤ sizeLine := by decide
  have z4 : 4 ≤ sizeLine := by decide
  have small : ∀ n : Nat, n ≤ 3000 → n ≤ sizeLine := fun n hn => Nat.le_trans hn (by decide)
  refine ⟨_, (pss_cons (ps_set (i := 2) nd rfl (Or.inl rfl) (pe_ix ix_tup (pv 1) pe_int (fun _ _ => rfl)))
    (pss_cons (ps_set (i := 3) nd rfl (Or.inl rfl) (pe_ix ix_tup (pv 1) pe_int (fun _ _ => rfl)))
    (pss_cons (ps_set (i := 4) nd rfl (Or.inl rfl) (pe_lst pa_nil))
    (pss_cons (ps_for PassesOwn.never rfl (pi_range1 rfl T.z_range (pa_cons (pe_ix ix_list (pv 0) pe_int (fun _ _ => rfl)) pa_nil)) (pg_name (i := 5) nd rfl (Or.inl rfl))
      (pss_cons (ps_set (i := 6) nd rfl (Or.inl rfl) (pe_ix ix_tup (pv 3) (pv 5) (fun _ _ => rfl)))
      (pss_one (ps_if (PW.pt (pw_and (pt_cmpR op_gt (pv 6) pe_int (nomark _)) (pw_and1 (pt_cmpR op_eq (pe_op op_mod (pe_callTy call_int1 rfl T.z_int (by decide +kernel) (pa_cons (pe_op op_sub (pv 6) pe_int) pa_nil)) pe_int) (pv 2) (nomark _)))))
        (pss_cons (ps_set (i := 7) nd rfl (Or.inr rfl) (pe_op op_catU (pe_op op_catU (pe_slice sl_tupU (pv 3) po_none (po_some (pv 5))) (pe_tup (pa_cons pe_int pa_nil))) (pe_slice sl_tupU (pv 3) (po_some (pe_op op_add (pv 5) pe_int)) po_none)))
        (pss_cons (ps_set (i := 8) nd rfl (Or.inl rfl) (pe_ix ix_tup (pe_ix ix_list (pe_ix ix_list (pv 0) pe_int (fun _ _ => rfl)) (pe_op op_fdiv (pe_op op_sub (pv 6) pe_int) pe_int) (fun _ _ => rfl)) (pv 2) (fun _ _ => rfl)))
        (pss_one (ps_for PassesOwn.never rfl (pi_list (pe_call (ok_L_spots T) (hr.mono (by decide)) rfl T.L_spots.m T.L_spots.k T.L_spots.b .nil pass0 (pa_cons (pv 0) (pa_cons (pv 2) (pa_cons (pv 8) (pa_cons (pe_lst (pa_cons (pe_tup (pa_cons (pv 5) (pa_cons (pv 7) (pa_cons (pe_op op_fdiv (pe_op op_sub (pv 6) pe_int) pe_int) pa_nil)))) pa_nil)) pa_nil)))))) (pg_name (i := 9) nd rfl (Or.inr rfl))
          (pss_cons (ps_set (i := 10) nd rfl (Or.inl rfl) (pe_op op_catU (pe_op op_catU (pe_slice sl_tupU (pe_ix ix_tup (pv 9) pe_int (fun _ _ => rfl)) po_none (po_some (pe_ix ix_tup (pv 9) pe_int (fun _ _ => rfl)))) (pe_tup (pa_cons (pe_op op_add (pe_op op_add pe_int (pe_op op_mul pe_int (pe_ix ix_tup (pv 9) pe_int (fun _ _ => rfl)))) (pv 2)) pa_nil))) (pe_slice sl_tupU (pe_ix ix_tup (pv 9) pe_int (fun _ _ => rfl)) (po_some (pe_op op_add (pe_ix ix_tup (pv 9) pe_int (fun _ _ => rfl)) pe_int)) po_none)))
          (pss_one (ps_if (PW.pt (pw_and (pt_cmpR op_eq (pe_ix ix_tup (pe_ix ix_tup (pv 9) pe_int (fun _ _ => rfl)) (pe_ix ix_tup (pv 9) pe_int (fun _ _ => rfl)) (fun _ _ => rfl)) pe_int (nomark _)) (pw_and1 (pt_cmpR (op_neE (List Int) hu) (pv 10) (pv 3) (nomark _)))))
            (pss_cons (ps_set (i := 11) nd rfl (Or.inl rfl) (pe_callTy call_tuple_of rfl T.z_tuple (by decide +kernel) (pa_cons (pe_lc (own := [("_law_k", 13)]) (g := gName 13) rfl nd (pi_range1 rfl T.z_range (pa_cons (pe_ix ix_list (pv 0) pe_int (fun _ _ => rfl)) pa_nil)) (blkOk_by (N := N_L_moves) (sc := defScope s_L_moves) (by decide +kernel)) (fun _ _ _ _ _ => (pg_name (i := 13) nd rfl (Or.inl rfl))) (fun _ _ _ _ _ => (pts_one (pt_cmpR op_ne (pe_ix (ix_tupK (K := K) rfl) (pv 7) (pv 13) (fun _ _ => rfl)) (pe_ix (ix_tupK (K := K) rfl) (pe_ix (ix_tupK (K := K) rfl) (pv 9) pe_int (fun _ _ => rfl)) (pv 13) (fun _ _ => rfl)) (nomark _)))) (fun _ _ _ _ _ => (pv 13))) pa_nil)))
            (pss_cons (ps_set (i := 12) nd rfl (Or.inl rfl) (pe_tup (pa_cons (pe_tup (pa_cons (pv 5) (pa_cons (pe_ix ix_tup (pv 9) pe_int (fun _ _ => rfl)) (pa_cons (pv 11) (pa_cons (pe_ix ix_tup (pv 9) pe_int (fun _ _ => rfl)) pa_nil))))) (pa_cons (pe_tup (pa_cons (pe_op op_sub pe_int (pv 2)) (pa_cons (pv 10) pa_nil))) pa_nil))))
            (pss_one (ps_if (pt_cmpR (op_notInE Run hu5) (pv 12) (pv 4) (by rfl))
              (pss_one (ps_expr (pe_bm PySem.F.plainAttrs_list PySem.F.slot_list_append PySem.F.type_list_append mt_append (pv 4) (pa_cons (pv 12) pa_nil))))
              pss_nil))))
            pss_nil)))))))
        pss_nil))))
    (pss_one (ps_ret (pe_callB (cr_sortL Run hu) rfl T.z_sorted (by decide +kernel) (pa_cons (pv 4) pa_nil)))))))), ?_⟩
  obtain ⟨a, b, rfl, ha, hb⟩ := hp.pos
  have hl := pok.men.len
  have n5 := gok.n5
  have hg' := hg
  obtain ⟨lw, lk, lc, lp, ks, g1, g2, g4, g3⟩ := hg
  refine ⟨_, rfl, a, _, _, _, rfl, rfl, ha, at_0, _, rfl, a, _, _, _, rfl, rfl, ha, at_1, z0, fun f0 hf0 => ?_⟩
  have e0 := Same.new (o := .lst []) hf0
  refine ⟨_, rfl, g, _, _, _, rfl, rfl, e0.seq g1, at_0, (G.n : Int), rfl, by omega, by omega, ?_⟩
  refine for_range (lo := 0) (n := (G.n : Int).toNat) (fun i σ H2 => ∃ fa fxs rs x5 x6 x7 x8 x9 x10 x11 x12 x13, σ = [some (.ref g), some (.ref a), some (.int p.t), some (.ref b), some (.ref fa), x5, x6, x7, x8, x9, x10, x11, x12, x13] ∧ Same H H2 ∧ H fa = none ∧ H2 fa = some (.lst fxs) ∧ Rs K H2 fxs rs ∧ rs.Nodup ∧ ∀ r ∈ rs, IsRun G p r)
    ⟨f0, [], [], _, _, _, _, _, _, _, _, _, rfl, e0, hf0, upd_same, .nil, List.nodup_nil, fun r h => nomatch h⟩ (fun i σ H2 hi hP => ?_) (fun σ H2 hP => ?_)
  · obtain ⟨fa, fxs, rs, x5, x6, x7, x8, x9, x10, x11, x12, x13, rfl, e2, hn, hfa, hrs, rnd, rok⟩ := hP
    have hi : (i : Int) < G.n := by omega
    have la : i < p.m.length := by rw [hl]; omega
    have eat : p.m.getD i 0 = at0 p.m (0 + (i : Int)) := by
      have : (0 : Int) + (i : Int) = (i : Int) := by omega
      rw [this]; unfold at0; rw [Int.toNat_natCast]
    generalize hst : (0 : Int) + (i : Int) = st
    have s0 : 0 ≤ st := by omega
    have sn : st < G.n := by omega
    have sl : st < p.m.length := by rw [hl]; exact sn
    refine ⟨_, rfl, _, rfl, b, _, _, _, rfl, rfl, seqT e2 hb, at_map s0 sl, ?_⟩
    refine ⟨_, rfl, _, _, rfl, rfl, _, rfl, ite2 (fun c1 => ?_) (fun c1 => ?_)⟩
    · have c1 : at0 p.m st > 0 := of_decide_eq_true c1
      refine ⟨_, rfl, _, _, rfl, rfl, .inl ⟨_, rfl, _, _, rfl, rfl, (by show (0 : Int) < 2; decide), _, rfl, rfl, _, rfl, ite2 (fun c2 => ?_) (fun c2 => ?_)⟩⟩
      · have c2 : (at0 p.m st - 1) % 2 = p.t := by simpa using c2
        have own : Own p st := ⟨by omega, c2⟩
        obtain ⟨pp, _, hpp, epp⟩ := prog_ok gok pok s0 sn own.1
        obtain ⟨pk1, pk2, pk3⟩ := prog_facts gok pok s0 sn own.1
        obtain ⟨lk1, lk2⟩ := lift_ok pok s0 sn own.1
        have k0 := (kind_ok pok s0 sn own.1).1
        obtain ⟨ps, pr1, pr2⟩ := g3.progs
        obtain ⟨v, ev, va, vx, vy, rfl, hv, hx, hy⟩ := pr2.get hpp
        have hl1 : (p.m.map V.int).length = p.m.length := List.length_map _
        have l1 := cutV_length (p.m.map V.int) none (some st)
        have l2 := cutV_length (p.m.map V.int) (some (st + 1)) none
        refine ⟨_, rfl, _, rfl, _, rfl, b, _, rfl, seqT e2 hb, fun q1 H3 e3 s3 => ⟨z1, fun p1 hp1 => ?_⟩⟩
        have e4 : Same H3 (upd H3 p1 (.tup [.int 0])) := Same.new hp1
        refine ⟨q1, p1, _, _, rfl, rfl, seqT e4 s3, SqT.of upd_same, small _ (by rw [List.length_singleton]; omega), fun q2 H5 e5 s5 => ?_⟩
        have e6 := (e3.trans e4).trans e5
        refine ⟨_, rfl, _, rfl, _, _, rfl, rfl, _, rfl, b, _, rfl, seqT (e2.trans e6) hb, fun q3 H7 e7 s7 => ?_⟩
        refine ⟨q2, q3, _, _, rfl, rfl, seqT e7 s5, s7, small _ (by rw [List.length_append, List.length_singleton]; omega), fun lf H8 e8 s8 => ?_⟩
        rw [cut_set s0 sl] at s8
        have e9 := e6.trans (e7.trans e8)
        have e29 := e2.trans e9
        obtain ⟨pv, hat, hpv⟩ : ∃ pv, atI [vx, vy] p.t = some pv ∧ PgR K H pv (progAt G (at0 p.m st) p.t) := by
          rw [epp]
          rcases pok.t with z | z
          · rw [z]; exact ⟨vx, at_0, hx⟩
          · rw [z]; exact ⟨vy, at_1, hy⟩
        refine ⟨_, rfl, g, _, _, _, rfl, rfl, e29.seq g1, at_4, _, rfl, _, _, rfl, rfl, _, _, rfl, rfl, ⟨by decide, by decide⟩, lp, _, _, _, rfl, rfl, e29.seq pr1, at_vs k0 ev, _, rfl, va, _, _, _, rfl, rfl, seqT e29 hv, hat, ?_⟩
        refine ⟨_, rfl, _, rfl, _, rfl, _, rfl, _, rfl, _, rfl, _, _, rfl, rfl, _, _, rfl, rfl, ⟨by decide, by decide⟩, z3, fun t ht => ⟨z1, fun ls hls => ?_⟩⟩
        have e10 := Same.new (o := .tup [.int st, .ref lf, .int (kindOf (at0 p.m st))]) ht
        have e11 := Same.new (o := .lst [.ref t]) hls
        have e12 := e29.trans (e10.trans e11)
        refine ⟨g, ls, G, p.t, pv, _, [.ref t], [liftS p st], rfl, hg'.same e12, gok, hpv.same e12 _ _, pk1, by omega, SqL.of upd_same, .cons (R.ofSpot (p := liftS p st) (seqT e11 (SqT.of upd_same)) (seqT (e10.trans e11) s8)) .nil, by simp, fun s hs => by rw [List.mem_singleton.mp hs]; exact lk1, fun l xs bs H13 e13 hn13 hl13 hx13 sp13 => ?_⟩
        have e14 := e12.trans e13
        have sOk : ∀ s ∈ bs, SpotK G s ∧ Ends G p.t (progAt G (at0 p.m st) p.t) (liftS p st) s := fun s hs => by
          obtain ⟨s1, h1, h2⟩ := sp13.from_ s hs
          rw [List.mem_singleton.mp h1] at h2
          exact ⟨(ends_ok gok _ _ s pk1 lk1 h2).1, h2⟩
        refine ⟨l, rfl, ⟨_, SqL.of hl13⟩, ?_⟩
        have slf : SqT K H13 lf ((setM p.m st 0).map .int) := seqT e13 (seqT (e10.trans e11) s8)
        have hfa13 : H13 fa = some (.lst fxs) := e13 _ _ ((e9.trans (e10.trans e11)) _ _ hfa)
        have fl : fa ≠ l := ne_of_none ((e9.trans (e10.trans e11)) _ _ hfa) hn13
        refine for_it (walkL (K := K) (a := l) (xs := xs)) (fun j σ H2 => ∃ fxs rs x8 x9 x10 x11 x12 x13, σ = [some (.ref g), some (.ref a), some (.int p.t), some (.ref b), some (.ref fa), some (.int st), some (.int (at0 p.m st)), some (.ref lf), x8, x9, x10, x11, x12, x13] ∧ Same H H2 ∧ H2 l = some (.lst xs) ∧ Rs K H2 xs bs ∧ SqT K H2 lf ((setM p.m st 0).map .int) ∧ H2 fa = some (.lst fxs) ∧ Rs K H2 fxs rs ∧ rs.Nodup ∧ ∀ r ∈ rs, IsRun G p r)
          ⟨fxs, rs, _, _, _, _, _, _, rfl, e14, hl13, hx13, slf, hfa13, hrs.same ((e9.trans (e10.trans e11)).trans e13), rnd, rok⟩ (fun j σ H2 _ ⟨_, _, _, _, _, _, _, _, _, _, h, _⟩ => SqL.of h) (fun j x σ H2 H2' hj hP hY => ?_) (fun σ H2 hP => ?_)
        · obtain ⟨fxs, rs, x8, x9, x10, x11, x12, x13, rfl, e6, hl6, hx6, hlf6, hf6, hrs6, rnd6, rok6⟩ := hP
          obtain ⟨rfl, hx⟩ := hY
          obtain ⟨s, hs, hR⟩ := hx6.get hx
          obtain ⟨sk, sE⟩ := sOk s (List.mem_of_getElem? hs)
          obtain ⟨c, d, rfl, hc, hd⟩ := hR.spot
          have f1 : s.f < s.m.length := by rw [sk.men.len]; exact sk.f1
          have hl1' : (s.m.map V.int).length = s.m.length := List.length_map _
          have hl2' := sk.men.len
          have l1' := cutV_length (s.m.map V.int) none (some s.f)
          have l2' := cutV_length (s.m.map V.int) (some (s.f + 1)) none
          refine ⟨_, rfl, c, _, _, _, rfl, rfl, hc, at_1, _, rfl, c, _, _, _, rfl, rfl, hc, at_0, _, rfl, d, _, rfl, hd, fun q1 H3 e3 s3 => ?_⟩
          have k0 := sk.k0
          have k1 := sk.k1
          have kd2 := gok.k2
          refine ⟨_, rfl, c, _, _, _, rfl, rfl, seqT e3 hc, at_2, _, _, rfl, rfl, .inl (by omega), _, _, rfl, rfl, _, rfl, _, _, rfl, rfl, z1, fun p1 hp1 => ?_⟩
          have e4 : Same H3 (upd H3 p1 (.tup [.int (1 + 2 * s.k + p.t)])) := Same.new hp1
          refine ⟨q1, p1, _, _, rfl, rfl, seqT e4 s3, SqT.of upd_same, small _ (by rw [List.length_singleton]; omega), fun q2 H5 e5 s5 => ?_⟩
          have e34 := (e3.trans e4).trans e5
          refine ⟨_, rfl, c, _, _, _, rfl, rfl, seqT e34 hc, at_1, _, rfl, c, _, _, _, rfl, rfl, seqT e34 hc, at_0, _, _, rfl, rfl, _, rfl, d, _, rfl, seqT e34 hd, fun q3 H7 e7 s7 => ?_⟩
          refine ⟨q2, q3, _, _, rfl, rfl, seqT e7 s5, s7, small _ (by rw [List.length_append, List.length_singleton]; omega), fun bh H8 e8 s8 => ?_⟩
          rw [cut_set sk.f0 f1] at s8
          have e9 := e34.trans (e7.trans e8)
          refine ⟨_, rfl, c, _, _, _, rfl, rfl, seqT e9 hc, at_1, _, rfl, c, _, _, _, rfl, rfl, seqT e9 hc, at_0, d, _, _, _, rfl, rfl, seqT e9 hd, at_map sk.f0 f1, rfl, _, rfl, ite2 (fun c3 => ?_) (fun c3 => ?_)⟩
          · refine ⟨_, rfl, _, rfl, behind p s, p.m, R.ofInts s8, R.ofInts (seqT (e6.trans e9) hb), _, rfl, ite2 (fun c4 => ?_) (fun c4 => ?_)⟩
            · have c3 : at0 s.m s.f = 0 := by simpa using c3
              have c4 : ¬ behind p s = p.m := by simpa using c4
              have hg8 := e6.trans e9
              refine ⟨_, rfl, g, _, _, _, rfl, rfl, hg8.seq g1, at_0, (G.n : Int), rfl, by omega, by omega, fun D hD => ?_⟩
              refine lc_range (lo := 0) (n := (G.n : Int).toNat) (fun i H3 => ∃ acc, H3 = upd H8 D (.lst acc) ∧ acc = (goneTo i (setM p.m st 0) s.m).map .int) ⟨[], rfl, rfl⟩ (fun i H3 hi3 hP3 => ?_) (fun H3 hP3 => ?_)
              · obtain ⟨acc, rfl, rfl⟩ := hP3
                have hi3 : i < G.n := by omega
                have e7' := e9.trans (Same.new (o := .lst ((goneTo i (setM p.m st 0) s.m).map .int)) hD)
                have la' : i < (setM p.m st 0).length := by unfold setM; rw [List.length_set, hl]; exact hi3
                refine ⟨rfl, _, rfl, _, rfl, lf, _, _, _, rfl, rfl, seqT e7' hlf6, at_i la', _, rfl, c, _, _, _, rfl, rfl, seqT e7' hc, at_1, _, rfl, d, _, _, _, rfl, rfl, seqT e7' hd, at_i (by rw [sk.men.len]; exact hi3), rfl, _, rfl, ite2 (fun cc => ?_) (fun cc => ?_)⟩
                · have cc : ¬ (setM p.m st 0).getD i 0 = s.m.getD i 0 := by simpa using cc
                  refine ⟨_, rfl, _, upd_same, big' ?_, _, upd_upd, ?_⟩
                  · rw [List.length_map]
                    have := goneTo_len i (setM p.m st 0) s.m
                    omega
                  · rw [goneTo_succ, if_neg cc, List.map_append]
                    have e0 : (0 : Int) + (i : Int) = (i : Int) := by omega
                    rw [e0]
                    rfl
                · have cc : (setM p.m st 0).getD i 0 = s.m.getD i 0 := by simpa using cc
                  exact ⟨_, rfl, by rw [goneTo_succ, if_pos cc]⟩
              · obtain ⟨acc, rfl, rfl⟩ := hP3
                have en : (G.n : Int).toNat = G.n := Int.toNat_natCast _
                rw [en]
                have e10 := Same.new (o := .lst ((goneTo G.n (setM p.m st 0) s.m).map .int)) hD
                refine ⟨D, _, rfl, .inl ⟨SqL.of upd_same, fun tk htk => ?_⟩⟩
                have e11 := e10.trans (Same.new (o := .tup ((goneTo G.n (setM p.m st 0) s.m).map .int)) htk)
                have htk2 : SqT K (upd (upd H8 D (.lst ((goneTo G.n (setM p.m st 0) s.m).map .int))) tk (.tup ((goneTo G.n (setM p.m st 0) s.m).map .int))) tk ((goneTo G.n (setM p.m st 0) s.m).map .int) := SqT.of upd_same
                have e12 := e9.trans e11
                refine ⟨_, rfl, _, rfl, c, _, _, _, rfl, rfl, seqT e12 hc, at_0, _, rfl, _, rfl, c, _, _, _, rfl, rfl, seqT e12 hc, at_2, z4, fun t1 h1 => ?_⟩
                have e13 := Same.new (o := .tup [.int st, .int s.f, .ref tk, .int s.k]) h1
                refine ⟨_, rfl, _, _, rfl, rfl, _, rfl, z2, fun t2 h2 => ⟨z2, fun t3 h3 => ?_⟩⟩
                have e14 := Same.new (o := .tup [.int (1 - p.t), .ref bh]) h2
                have e15 := Same.new (o := .tup [.ref t1, .ref t2]) h3
                have e1t := (e13.trans e14).trans e15
                have ee := e12.trans e1t
                have Rmv := R.ofMv (p := mvOf G p st s) (seqT (e14.trans e15) (SqT.of upd_same)) (seqT e1t htk2)
                have Rto := R.ofPos (p := ⟨1 - p.t, behind p s⟩) (seqT e15 (SqT.of upd_same)) (seqT (e11.trans e1t) s8)
                have Rr := R.ofRun (p := runOf G p st s) (SqT.of upd_same) Rmv Rto
                refine ⟨_, rfl, _, rfl, runOf G p st s, rs, fa, fxs, Rr, rfl, SqL.of (ee _ _ hf6), hrs6.same ee, _, rfl, ite2 (fun c5 => ?_) (fun c5 => ?_)⟩
                · have c5 : ¬ runOf G p st s ∈ rs := by simpa using c5
                  have z45 := isRun_few gok pok rnd6 rok6
                  have zl := hrs6.length
                  have hf7 := ee _ _ hf6
                  refine ⟨_, rfl, .inl ⟨rfl, _, SqL.of hf7⟩, _, rfl, fa, fxs, _, rfl, rfl, hf7, big' (by omega), ?_⟩
                  refine ⟨fxs ++ [.ref t3], rs ++ [runOf G p st s], _, _, _, _, _, _, rfl, Same.mut (e6.trans ee) hn, ?_, ?_, ?_, upd_same, ?_, ?_, fun r hr => ?_⟩
                  · rw [upd_ne fl.symm]
                    exact ee _ _ hl6
                  · exact (hx6.same ee).fut (TK.wr (by rw [hf7]; trivial))
                  · exact TK.wr (by rw [hf7]; trivial) _ _ (seqT ee hlf6)
                  · exact ((hrs6.same ee).fut (TK.wr (by rw [hf7]; trivial))).snoc (Rr.fut (TK.wr (by rw [hf7]; trivial)))
                  · rw [List.nodup_append]
                    exact ⟨rnd6, by simp, fun x hx y hy e => by rw [List.mem_singleton.mp hy] at e; rw [e] at hx; exact c5 hx⟩
                  · rcases List.mem_append.mp hr with z | z
                    · exact rok6 r z
                    · exact ⟨st, s, s0, sn, own, ⟨sE, c3, c4⟩, List.mem_singleton.mp z⟩
                · exact ⟨fxs, rs, _, _, _, _, _, _, rfl, e6.trans ee, ee _ _ hl6, hx6.same ee, seqT ee hlf6, ee _ _ hf6, hrs6.same ee, rnd6, rok6⟩
            · exact ⟨fxs, rs, _, _, _, _, _, _, rfl, e6.trans e9, e9 _ _ hl6, hx6.same e9, seqT e9 hlf6, e9 _ _ hf6, hrs6.same e9, rnd6, rok6⟩
          · exact ⟨fxs, rs, _, _, _, _, _, _, rfl, e6.trans e9, e9 _ _ hl6, hx6.same e9, seqT e9 hlf6, e9 _ _ hf6, hrs6.same e9, rnd6, rok6⟩
        · obtain ⟨fxs, rs, x8, x9, x10, x11, x12, x13, rfl, e6, hl6, hx6, hlf6, hf6, hrs6, rnd6, rok6⟩ := hP
          exact ⟨fa, fxs, rs, _, _, _, _, _, _, _, _, _, rfl, e6, hn, hf6, hrs6, rnd6, rok6⟩
      · exact ⟨fa, fxs, rs, _, _, _, _, _, _, _, _, _, rfl, e2, hn, hfa, hrs, rnd, rok⟩
    · exact ⟨fa, fxs, rs, _, _, _, _, _, _, _, _, _, rfl, e2, hn, hfa, hrs, rnd, rok⟩
  · obtain ⟨fa, fxs, rs, x5, x6, x7, x8, x9, x10, x11, x12, x13, rfl, e2, hn, hfa, hrs, rnd, rok⟩ := hP
    exact ⟨_, rfl, fa, fxs, rs, rfl, SqL.of hfa, hrs, fun l out hl2 ho => q l out (srt rs) _ (e2.trans (Same.new hl2)) upd_same ho (by rw [srt_len]; exact isRun_few gok pok rnd rok) fun r hr => isRun_ok gok pok (rok r (srt_mem.mp hr))⟩
end Sk

/-! Sk: the law's conditions, met. -/
namespace Sk
open PySem L2 PySem.Spec PyProof.Rows
variable {P : Program} {w : World} {K : PySem.W.Frag} {mg : Str → Option Value} {base : Heap}

def sp_L_met (K : PySem.W.Frag) (h : Nat) : Sp := fun vs H Q _ => ∃ (g : Addr) (G : GD) (u v : V) (p : Psn) (c : Cond), vs = [.ref g, u, v] ∧ RulesAt K H g G ∧ GOk G ∧ R K H u p ∧ PosOk G p ∧ CoR K H v c ∧ c.ok G ∧ c.small ∧ c.hgt < h ∧ ∀ (b : Bool) H', Same H H' → Q (.bl b) H'
set_option maxHeartbeats 8000000 in
theorem step_L_met (T : Top K mg) {n h : Nat} (hn : 11 ≤ n) (Gs : FnOk P w K mg base CX0 n T.L_met.a T.L_met.fd P_L_met (sp_L_met K h)) : FnOk P w K mg base CX0 (n + 1) T.L_met.a T.L_met.fd P_L_met (sp_L_met K (h + 1)) := by
  refine T.L_met.F.ok sc_L_met (fun vs H Q E h => ?_) (fun cdv A outer s H vs Q E hr hh => ?_)
  · obtain ⟨_, _, _, _, _, _, rfl, _⟩ := h; rfl
  obtain ⟨g, G, u, v, p, c, rfl, hg, gok, hp, pok, hc, cok, csm, ch, q⟩ := hh
  have nd := sc_L_met.nd
  have hu := hu64 hr
  have hu5 := hu65 hr
  have z0 : 0 ≤ sizeLine := by decide
  have z2 : 2 ≤ sizeLine := by decide
  refine ⟨_, (pss_cons (ps_set (i := 3) nd rfl (Or.inl rfl) (pe_ix ix_tup (pv 1) pe_int (fun _ _ => rfl)))
    (pss_cons (ps_set (i := 4) nd rfl (Or.inr rfl) (pe_ix ix_tup (pv 1) pe_int (fun _ _ => rfl)))
    (pss_cons (ps_set (i := 5) nd rfl (Or.inl rfl) (pe_ix ix_tup (pv 2) pe_int (fun _ _ => rfl)))
    (pss_cons (ps_if (pt_cmpR op_eq (pv 5) pe_str (nomark _))
      (pss_one (ps_ret (pe_not (pe_call (Gs) (hr.mono (by omega)) rfl T.L_met.m T.L_met.k T.L_met.b .nil pass0 (pa_cons (pv 0) (pa_cons (pv 1) (pa_cons (pe_ix ix_tup (pv 2) pe_int (fun _ _ => rfl)) pa_nil)))))))
      pss_nil)
    (pss_cons (ps_if (pt_cmpR op_eq (pv 5) pe_str (nomark _))
      (pss_one (ps_ret (pe_and (pe_call (Gs) (hr.mono (by omega)) rfl T.L_met.m T.L_met.k T.L_met.b .nil pass0 (pa_cons (pv 0) (pa_cons (pv 1) (pa_cons (pe_ix ix_tup (pv 2) pe_int (fun _ _ => rfl)) pa_nil)))) (pe_one (pe_call (Gs) (hr.mono (by omega)) rfl T.L_met.m T.L_met.k T.L_met.b .nil pass0 (pa_cons (pv 0) (pa_cons (pv 1) (pa_cons (pe_ix ix_tup (pv 2) pe_int (fun _ _ => rfl)) pa_nil))))))))
      pss_nil)
    (pss_cons (ps_if (pt_cmpR op_eq (pv 5) pe_str (nomark _))
      (pss_one (ps_ret (pe_or (pe_call (Gs) (hr.mono (by omega)) rfl T.L_met.m T.L_met.k T.L_met.b .nil pass0 (pa_cons (pv 0) (pa_cons (pv 1) (pa_cons (pe_ix ix_tup (pv 2) pe_int (fun _ _ => rfl)) pa_nil)))) (pe_one (pe_call (Gs) (hr.mono (by omega)) rfl T.L_met.m T.L_met.k T.L_met.b .nil pass0 (pa_cons (pv 0) (pa_cons (pv 1) (pa_cons (pe_ix ix_tup (pv 2) pe_int (fun _ _ => rfl)) pa_nil))))))))
      pss_nil)
    (pss_cons (ps_if (pt_cmpR op_eq (pv 5) pe_str (nomark _))
      (pss_one (ps_ret (pe_cmpR (op_eqL Run hu) (pe_call (ok_L_moves T) (hr.mono (by omega)) rfl T.L_moves.m T.L_moves.k T.L_moves.b .nil pass0 (pa_cons (pv 0) (pa_cons (pv 1) pa_nil))) (pe_lst pa_nil) (nomark _))))
      pss_nil)
    (pss_cons (ps_if (pt_cmpR op_eq (pv 5) pe_str (nomark _))
      (pss_one (ps_ret (pe_cmpR op_le (pe_callB call_len_seq rfl T.z_len PySem.boot_len (pa_cons (pe_lc (own := [("_law_man", 7)]) (g := gName 7) rfl nd (pi_tup (pv 4)) (blkOk_by (N := N_L_met) (sc := defScope s_L_met) (by decide +kernel)) (fun _ _ _ _ _ => (pg_name (i := 7) nd rfl (Or.inl rfl))) (fun _ _ _ _ _ => (pts_one (pt_cmpR op_gt (pv 7) pe_int (nomark _)))) (fun _ _ _ _ _ => (pv 7))) pa_nil)) (pe_ix ix_tup (pv 2) pe_int (fun _ _ => rfl)) (nomark _))))
      pss_nil)
    (pss_cons (ps_set (i := 6) nd rfl (Or.inl rfl) (pv 3))
    (pss_cons (ps_if (pt_cmpR op_in_seq (pv 5) (pe_lst (pa_cons pe_str (pa_cons pe_str pa_nil))) (by rfl))
      (pss_one (ps_set (i := 6) nd rfl (Or.inl rfl) (pe_op op_sub pe_int (pv 3))))
      pss_nil)
    (pss_cons (ps_set (i := 7) nd rfl (Or.inl rfl) (pe_op op_add (pe_op op_add pe_int (pe_op op_mul pe_int (pe_ix ix_tup (pv 2) pe_int (fun _ _ => rfl)))) (pv 6)))
    (pss_cons (ps_if (pt_cmpR op_in_seq (pv 5) (pe_lst (pa_cons pe_str (pa_cons pe_str pa_nil))) (by rfl))
      (pss_one (ps_ret (pe_cmpR op_notIn_seq (pv 7) (pv 4) (by rfl))))
      pss_nil)
    (pss_one (ps_ret (pe_cmpR op_in_seq (pv 7) (pe_lc (own := [("_law_field", 8)]) (g := gName 8) (tt := tYes) rfl nd (pi_list (pe_ix ix_tup (pv 2) pe_int (fun _ _ => rfl))) (blkOk_by (N := N_L_met) (sc := defScope s_L_met) (by decide +kernel)) (fun _ _ _ _ _ => (pg_name (i := 8) nd rfl (Or.inl rfl))) (fun _ _ _ _ _ => pts_nil) (fun _ _ _ _ _ => (pe_ix (ix_tupK (K := K) rfl) (pv 4) (pv 8) (fun _ _ => rfl)))) (by rfl)))))))))))))))), ?_⟩
  obtain ⟨a, b, rfl, ha, hb⟩ := hp.pos
  have hl := pok.men.len
  have n5 := gok.n5
  refine ⟨_, rfl, a, _, _, _, rfl, rfl, ha, at_0, _, rfl, a, _, _, _, rfl, rfl, ha, at_1, ?_⟩
  cases hc with
  | @not d v c hd hv =>
    unfold Cond.ok at cok
    unfold Cond.small at csm
    unfold Cond.hgt at ch
    refine ⟨_, rfl, d, _, _, _, rfl, rfl, hd, at_0, _, rfl, rfl, _, rfl, ?_⟩
    refine ite2 (fun _ => ?_) (fun c => absurd (by decide +kernel) c)
    exact ⟨_, rfl, _, rfl, _, rfl, d, _, _, _, rfl, rfl, hd, at_1, g, G, .ref a, v, p, c, rfl, hg, gok, hp, pok, hv, cok, csm, by omega, fun b1 H1 e1 => ⟨b1, rfl, q _ _ e1⟩⟩
  | @and d v1 v2 c1 c2 hd hv1 hv2 =>
    unfold Cond.ok at cok
    unfold Cond.small at csm
    unfold Cond.hgt at ch
    refine ⟨_, rfl, d, _, _, _, rfl, rfl, hd, at_0, _, rfl, rfl, _, rfl, ?_⟩
    refine ite2 (fun c => absurd c (by decide +kernel)) (fun _ => ?_)
    refine ⟨_, rfl, rfl, _, rfl, ?_⟩
    refine ite2 (fun _ => ?_) (fun c => absurd (by decide +kernel) c)
    refine ⟨_, rfl, _, rfl, _, rfl, d, _, _, _, rfl, rfl, hd, at_1, g, G, .ref a, v1, p, c1, rfl, hg, gok, hp, pok, hv1, cok.1, csm.1, by omega, fun b1 H1 e1 => ⟨b1, rfl, ?_⟩⟩
    cases b1 with
    | true => exact ⟨_, rfl, _, rfl, _, rfl, d, _, _, _, rfl, rfl, seqT e1 hd, at_2, g, G, .ref a, v2, p, c2, rfl, hg.same e1, gok, hp.same e1, pok, hv2.same e1, cok.2, csm.2, by omega, fun b2 H2 e2 => q _ _ (e1.trans e2)⟩
    | false => exact q _ _ e1
  | @or d v1 v2 c1 c2 hd hv1 hv2 =>
    unfold Cond.ok at cok
    unfold Cond.small at csm
    unfold Cond.hgt at ch
    refine ⟨_, rfl, d, _, _, _, rfl, rfl, hd, at_0, _, rfl, rfl, _, rfl, ?_⟩
    refine ite2 (fun c => absurd c (by decide +kernel)) (fun _ => ?_)
    refine ⟨_, rfl, rfl, _, rfl, ?_⟩
    refine ite2 (fun c => absurd c (by decide +kernel)) (fun _ => ?_)
    refine ⟨_, rfl, rfl, _, rfl, ?_⟩
    refine ite2 (fun _ => ?_) (fun c => absurd (by decide +kernel) c)
    refine ⟨_, rfl, _, rfl, _, rfl, d, _, _, _, rfl, rfl, hd, at_1, g, G, .ref a, v1, p, c1, rfl, hg, gok, hp, pok, hv1, cok.1, csm.1, by omega, fun b1 H1 e1 => ⟨b1, rfl, ?_⟩⟩
    cases b1 with
    | false => exact ⟨_, rfl, _, rfl, _, rfl, d, _, _, _, rfl, rfl, seqT e1 hd, at_2, g, G, .ref a, v2, p, c2, rfl, hg.same e1, gok, hp.same e1, pok, hv2.same e1, cok.2, csm.2, by omega, fun b2 H2 e2 => q _ _ (e1.trans e2)⟩
    | true => exact q _ _ e1
  | @stuck d hd =>
    refine ⟨_, rfl, d, _, _, _, rfl, rfl, hd, at_0, _, rfl, rfl, _, rfl, ?_⟩
    refine ite2 (fun c => absurd c (by decide +kernel)) (fun _ => ?_)
    refine ⟨_, rfl, rfl, _, rfl, ?_⟩
    refine ite2 (fun c => absurd c (by decide +kernel)) (fun _ => ?_)
    refine ⟨_, rfl, rfl, _, rfl, ?_⟩
    refine ite2 (fun c => absurd c (by decide +kernel)) (fun _ => ?_)
    refine ⟨_, rfl, rfl, _, rfl, ?_⟩
    refine ite2 (fun _ => ?_) (fun c => absurd (by decide +kernel) c)
    refine ⟨_, rfl, _, rfl, g, G, .ref a, p, rfl, hg, gok, hp, pok, fun l ys rs H1 e1 hl1 hx1 _ _ => ⟨z0, fun l2 hl2 => ?_⟩⟩
    have e2 := Same.new (o := .lst []) hl2
    exact ⟨rs, l, l2, ys, rfl, SqL.of (e2 _ _ hl1), hx1.same e2, rfl, SqL.of upd_same, q _ _ (e1.trans e2)⟩
  | @few d n hd =>
    refine ⟨_, rfl, d, _, _, _, rfl, rfl, hd, at_0, _, rfl, rfl, _, rfl, ?_⟩
    refine ite2 (fun c => absurd c (by decide +kernel)) (fun _ => ?_)
    refine ⟨_, rfl, rfl, _, rfl, ?_⟩
    refine ite2 (fun c => absurd c (by decide +kernel)) (fun _ => ?_)
    refine ⟨_, rfl, rfl, _, rfl, ?_⟩
    refine ite2 (fun c => absurd c (by decide +kernel)) (fun _ => ?_)
    refine ⟨_, rfl, rfl, _, rfl, ?_⟩
    refine ite2 (fun c => absurd c (by decide +kernel)) (fun _ => ?_)
    refine ⟨_, rfl, rfl, _, rfl, ?_⟩
    refine ite2 (fun _ => ?_) (fun c => absurd (by decide +kernel) c)
    refine ⟨_, rfl, b, rfl, ⟨_, hb⟩, fun D hD => ?_⟩
    refine lc_it (walkT (K := K) (a := b) (xs := p.m.map .int)) (fun i H2 => ∃ acc, acc.length ≤ i ∧ H2 = upd H D (.lst acc)) ⟨[], Nat.zero_le _, rfl⟩ (fun i H2 _ ⟨acc, _, e⟩ => by rw [e]; exact seqT (Same.new hD) hb) (fun i x H2 H2' hi hP hY => ?_) (fun H2 hP => ?_)
    · obtain ⟨acc, hac, rfl⟩ := hP
      obtain ⟨rfl, hx⟩ := hY
      rw [List.getElem?_map] at hx
      obtain ⟨m, hm, rfl⟩ := Option.map_eq_some_iff.mp hx
      rw [List.length_map] at hi
      refine ⟨rfl, _, rfl, _, _, rfl, rfl, _, rfl, ite2 (fun cc => ?_) (fun cc => ?_)⟩
      · exact ⟨_, rfl, _, upd_same, big' (by omega), _, by rw [List.length_append, List.length_singleton]; omega, upd_upd⟩
      · exact ⟨acc, by omega, rfl⟩
    · obtain ⟨acc, hac, rfl⟩ := hP
      have e1 := Same.new (o := .lst acc) hD
      exact ⟨D, _, rfl, .inl (SqL.of upd_same), _, rfl, d, _, _, _, rfl, rfl, seqT e1 hd, at_1, _, _, rfl, rfl, q _ _ e1⟩
  | @lacks d f k hd =>
    unfold Cond.small at csm
    cases f with
    | false =>
      have hd : SqT K H d [.str wLacks, .int k] := hd
      refine ⟨_, rfl, d, _, _, _, rfl, rfl, hd, at_0, _, rfl, rfl, _, rfl, ?_⟩
      refine ite2 (fun c => absurd c (by decide +kernel)) (fun _ => ?_)
      refine ⟨_, rfl, rfl, _, rfl, ?_⟩
      refine ite2 (fun c => absurd c (by decide +kernel)) (fun _ => ?_)
      refine ⟨_, rfl, rfl, _, rfl, ?_⟩
      refine ite2 (fun c => absurd c (by decide +kernel)) (fun _ => ?_)
      refine ⟨_, rfl, rfl, _, rfl, ?_⟩
      refine ite2 (fun c => absurd c (by decide +kernel)) (fun _ => ?_)
      refine ⟨_, rfl, rfl, _, rfl, ?_⟩
      refine ite2 (fun c => absurd c (by decide +kernel)) (fun _ => ?_)
      refine ⟨_, rfl, _, rfl, z2, fun t1 ht1 => ⟨t1, _, rfl, .inl (SqL.of upd_same), rfl, rfl, _, rfl, ?_⟩⟩
      have e1 := Same.new (o := .lst [.str (Str.ofString "foelacks"), .str (Str.ofString "foeholds")]) ht1
      refine ite2 (fun c => absurd c (by decide +kernel)) (fun _ => ?_)
      refine ⟨_, rfl, d, _, _, _, rfl, rfl, seqT e1 hd, at_1, _, _, rfl, rfl, .inl (by omega), _, _, rfl, rfl, _, rfl, _, _, rfl, rfl, ?_⟩
      refine ⟨_, rfl, z2, fun t2 ht2 => ⟨t2, _, rfl, .inl (SqL.of upd_same), rfl, rfl, _, rfl, ?_⟩⟩
      have e2 := e1.trans (Same.new (o := .lst [.str (Str.ofString "lacks"), .str (Str.ofString "foelacks")]) ht2)
      refine ite2 (fun _ => ?_) (fun c => absurd (by decide +kernel) c)
      exact ⟨_, rfl, _, rfl, b, _, rfl, .inr (seqT e2 hb), rfl, flat_ints _, q _ _ e2⟩
    | true =>
      have hd : SqT K H d [.str wFoelacks, .int k] := hd
      refine ⟨_, rfl, d, _, _, _, rfl, rfl, hd, at_0, _, rfl, rfl, _, rfl, ?_⟩
      refine ite2 (fun c => absurd c (by decide +kernel)) (fun _ => ?_)
      refine ⟨_, rfl, rfl, _, rfl, ?_⟩
      refine ite2 (fun c => absurd c (by decide +kernel)) (fun _ => ?_)
      refine ⟨_, rfl, rfl, _, rfl, ?_⟩
      refine ite2 (fun c => absurd c (by decide +kernel)) (fun _ => ?_)
      refine ⟨_, rfl, rfl, _, rfl, ?_⟩
      refine ite2 (fun c => absurd c (by decide +kernel)) (fun _ => ?_)
      refine ⟨_, rfl, rfl, _, rfl, ?_⟩
      refine ite2 (fun c => absurd c (by decide +kernel)) (fun _ => ?_)
      refine ⟨_, rfl, _, rfl, z2, fun t1 ht1 => ⟨t1, _, rfl, .inl (SqL.of upd_same), rfl, rfl, _, rfl, ?_⟩⟩
      have e1 := Same.new (o := .lst [.str (Str.ofString "foelacks"), .str (Str.ofString "foeholds")]) ht1
      refine ite2 (fun _ => ?_) (fun c => absurd (by decide +kernel) c)
      refine ⟨_, rfl, _, _, rfl, rfl, ?_⟩
      refine ⟨_, rfl, d, _, _, _, rfl, rfl, seqT e1 hd, at_1, _, _, rfl, rfl, .inl (by omega), _, _, rfl, rfl, _, rfl, _, _, rfl, rfl, ?_⟩
      refine ⟨_, rfl, z2, fun t2 ht2 => ⟨t2, _, rfl, .inl (SqL.of upd_same), rfl, rfl, _, rfl, ?_⟩⟩
      have e2 := e1.trans (Same.new (o := .lst [.str (Str.ofString "lacks"), .str (Str.ofString "foelacks")]) ht2)
      refine ite2 (fun _ => ?_) (fun c => absurd (by decide +kernel) c)
      exact ⟨_, rfl, _, rfl, b, _, rfl, .inr (seqT e2 hb), rfl, flat_ints _, q _ _ e2⟩
  | @holds d l f k fs hd hl2 =>
    unfold Cond.ok at cok
    unfold Cond.small at csm
    cases f with
    | false =>
      have hd : SqT K H d [.str wHolds, .int k, .ref l] := hd
      refine ⟨_, rfl, d, _, _, _, rfl, rfl, hd, at_0, _, rfl, rfl, _, rfl, ?_⟩
      refine ite2 (fun c => absurd c (by decide +kernel)) (fun _ => ?_)
      refine ⟨_, rfl, rfl, _, rfl, ?_⟩
      refine ite2 (fun c => absurd c (by decide +kernel)) (fun _ => ?_)
      refine ⟨_, rfl, rfl, _, rfl, ?_⟩
      refine ite2 (fun c => absurd c (by decide +kernel)) (fun _ => ?_)
      refine ⟨_, rfl, rfl, _, rfl, ?_⟩
      refine ite2 (fun c => absurd c (by decide +kernel)) (fun _ => ?_)
      refine ⟨_, rfl, rfl, _, rfl, ?_⟩
      refine ite2 (fun c => absurd c (by decide +kernel)) (fun _ => ?_)
      refine ⟨_, rfl, _, rfl, z2, fun t1 ht1 => ⟨t1, _, rfl, .inl (SqL.of upd_same), rfl, rfl, _, rfl, ?_⟩⟩
      have e1 := Same.new (o := .lst [.str (Str.ofString "foelacks"), .str (Str.ofString "foeholds")]) ht1
      refine ite2 (fun c => absurd c (by decide +kernel)) (fun _ => ?_)
      refine ⟨_, rfl, d, _, _, _, rfl, rfl, seqT e1 hd, at_1, _, _, rfl, rfl, .inl (by omega), _, _, rfl, rfl, _, rfl, _, _, rfl, rfl, ?_⟩
      refine ⟨_, rfl, z2, fun t2 ht2 => ⟨t2, _, rfl, .inl (SqL.of upd_same), rfl, rfl, _, rfl, ?_⟩⟩
      have e2 := e1.trans (Same.new (o := .lst [.str (Str.ofString "lacks"), .str (Str.ofString "foelacks")]) ht2)
      refine ite2 (fun c => absurd c (by decide +kernel)) (fun _ => ?_)
      refine ⟨_, rfl, _, rfl, d, _, _, _, rfl, rfl, seqT e2 hd, at_2, l, rfl, ⟨_, e2.seq hl2⟩, fun D hD => ?_⟩
      refine lc_it (walkL (K := K) (a := l) (xs := fs.map .int)) (fun i H2 => ∃ ms : List Int, ms.length ≤ i ∧ H2 = upd _ D (.lst (ms.map .int))) ⟨[], Nat.zero_le _, rfl⟩ (fun i H2 _ ⟨ms, _, e⟩ => by rw [e]; exact (e2.trans (Same.new hD)).seq hl2) (fun i x H2 H2' hi hP hY => ?_) (fun H2 hP => ?_)
      · obtain ⟨ms, hms, rfl⟩ := hP
        obtain ⟨rfl, hx⟩ := hY
        rw [List.getElem?_map] at hx
        obtain ⟨f, hf, rfl⟩ := Option.map_eq_some_iff.mp hx
        have hfm := cok f (List.mem_of_getElem? hf)
        rw [List.length_map] at hi
        have h2 := csm.2
        have e3 := e2.trans (Same.new (o := .lst (ms.map .int)) hD)
        exact ⟨rfl, _, rfl, _, rfl, b, _, _, _, rfl, rfl, seqT e3 hb, at_map hfm.1 (by rw [hl]; exact hfm.2), _, upd_same, big' (by rw [List.length_map]; omega), ms ++ [at0 p.m f], by rw [List.length_append, List.length_singleton]; omega, by rw [upd_upd, List.map_append]; rfl⟩
      · obtain ⟨ms, hms, rfl⟩ := hP
        exact ⟨D, _, rfl, .inl (SqL.of upd_same), rfl, flat_ints _, q _ _ (e2.trans (Same.new hD))⟩
    | true =>
      have hd : SqT K H d [.str wFoeholds, .int k, .ref l] := hd
      refine ⟨_, rfl, d, _, _, _, rfl, rfl, hd, at_0, _, rfl, rfl, _, rfl, ?_⟩
      refine ite2 (fun c => absurd c (by decide +kernel)) (fun _ => ?_)
      refine ⟨_, rfl, rfl, _, rfl, ?_⟩
      refine ite2 (fun c => absurd c (by decide +kernel)) (fun _ => ?_)
      refine ⟨_, rfl, rfl, _, rfl, ?_⟩
      refine ite2 (fun c => absurd c (by decide +kernel)) (fun _ => ?_)
      refine ⟨_, rfl, rfl, _, rfl, ?_⟩
      refine ite2 (fun c => absurd c (by decide +kernel)) (fun _ => ?_)
      refine ⟨_, rfl, rfl, _, rfl, ?_⟩
      refine ite2 (fun c => absurd c (by decide +kernel)) (fun _ => ?_)
      refine ⟨_, rfl, _, rfl, z2, fun t1 ht1 => ⟨t1, _, rfl, .inl (SqL.of upd_same), rfl, rfl, _, rfl, ?_⟩⟩
      have e1 := Same.new (o := .lst [.str (Str.ofString "foelacks"), .str (Str.ofString "foeholds")]) ht1
      refine ite2 (fun _ => ?_) (fun c => absurd (by decide +kernel) c)
      refine ⟨_, rfl, _, _, rfl, rfl, ?_⟩
      refine ⟨_, rfl, d, _, _, _, rfl, rfl, seqT e1 hd, at_1, _, _, rfl, rfl, .inl (by omega), _, _, rfl, rfl, _, rfl, _, _, rfl, rfl, ?_⟩
      refine ⟨_, rfl, z2, fun t2 ht2 => ⟨t2, _, rfl, .inl (SqL.of upd_same), rfl, rfl, _, rfl, ?_⟩⟩
      have e2 := e1.trans (Same.new (o := .lst [.str (Str.ofString "lacks"), .str (Str.ofString "foelacks")]) ht2)
      refine ite2 (fun c => absurd c (by decide +kernel)) (fun _ => ?_)
      refine ⟨_, rfl, _, rfl, d, _, _, _, rfl, rfl, seqT e2 hd, at_2, l, rfl, ⟨_, e2.seq hl2⟩, fun D hD => ?_⟩
      refine lc_it (walkL (K := K) (a := l) (xs := fs.map .int)) (fun i H2 => ∃ ms : List Int, ms.length ≤ i ∧ H2 = upd _ D (.lst (ms.map .int))) ⟨[], Nat.zero_le _, rfl⟩ (fun i H2 _ ⟨ms, _, e⟩ => by rw [e]; exact (e2.trans (Same.new hD)).seq hl2) (fun i x H2 H2' hi hP hY => ?_) (fun H2 hP => ?_)
      · obtain ⟨ms, hms, rfl⟩ := hP
        obtain ⟨rfl, hx⟩ := hY
        rw [List.getElem?_map] at hx
        obtain ⟨f, hf, rfl⟩ := Option.map_eq_some_iff.mp hx
        have hfm := cok f (List.mem_of_getElem? hf)
        rw [List.length_map] at hi
        have h2 := csm.2
        have e3 := e2.trans (Same.new (o := .lst (ms.map .int)) hD)
        exact ⟨rfl, _, rfl, _, rfl, b, _, _, _, rfl, rfl, seqT e3 hb, at_map hfm.1 (by rw [hl]; exact hfm.2), _, upd_same, big' (by rw [List.length_map]; omega), ms ++ [at0 p.m f], by rw [List.length_append, List.length_singleton]; omega, by rw [upd_upd, List.map_append]; rfl⟩
      · obtain ⟨ms, hms, rfl⟩ := hP
        exact ⟨D, _, rfl, .inl (SqL.of upd_same), rfl, flat_ints _, q _ _ (e2.trans (Same.new hD))⟩
theorem ok_L_met_h (T : Top K mg) : ∀ h : Nat, FnOk P w K mg base CX0 (11 + h) T.L_met.a T.L_met.fd P_L_met (sp_L_met K h)
  | 0 => by
    have no : ∀ vs H Q E, ¬ sp_L_met K 0 vs H Q E := fun vs H Q E ⟨_, _, _, _, _, _, _, _, _, _, _, _, _, _, h, _⟩ => Nat.not_lt_zero _ h
    exact ⟨fun vs H Q E h => absurd h (no vs H Q E), fun A outer s H args us vs Q E _ _ _ _ h => absurd h (no vs H Q E)⟩
  | h + 1 => step_L_met (n := 11 + h) T (Nat.le_add_right _ _) (ok_L_met_h T h)
theorem ok_L_met (T : Top K mg) : FnOk P w K mg base CX0 20 T.L_met.a T.L_met.fd P_L_met (sp_L_met K 9) := ok_L_met_h T 9
end Sk

/-! Sk: the law's over, next. -/
namespace Sk
open PySem L2 PySem.Spec PyProof.Rows
variable {P : Program} {w : World} {K : PySem.W.Frag} {mg : Str → Option Value} {base : Heap}

def sp_L_over (K : PySem.W.Frag) : Sp := fun vs H Q _ => ∃ (g : Addr) (G : GD) (u : V) (p : Psn), vs = [.ref g, u] ∧ RulesAt K H g G ∧ GOk G ∧ ClOk G ∧ R K H u p ∧ PosOk G p ∧ (∀ H', Same H H' → Q .non H') ∧ ∀ t H', Same H H' → Q (.ref t) H'
theorem ok_L_over (T : Top K mg) : FnOk P w K mg base CX0 21 T.L_over.a T.L_over.fd P_L_over (sp_L_over K) := by
  refine T.L_over.F.ok sc_L_over (fun vs H Q E h => ?_) (fun cdv A outer s H vs Q E hr hh => ?_)
  · obtain ⟨_, _, _, _, rfl, _⟩ := h; rfl
  obtain ⟨g, G, u, p, rfl, hg, gok, clok, hp, pok, qn, q⟩ := hh
  have nd := sc_L_over.nd
  have hu := hu64 hr
  have z0 : 0 ≤ sizeLine := by decide
  have z1 : 1 ≤ sizeLine := by decide
  have z2 : 2 ≤ sizeLine := by decide
  refine ⟨_, (pss_cons (ps_for PassesOwn.never rfl (pi_list (pe_ix ix_list (pv 0) pe_int (fun _ _ => rfl))) (pg_name (i := 2) nd rfl (Or.inl rfl))
      (pss_one (ps_if (pt_val (pe_call (ok_L_met T) (hr.mono (by decide)) rfl T.L_met.m T.L_met.k T.L_met.b .nil pass0 (pa_cons (pv 0) (pa_cons (pv 1) (pa_cons (pe_ix ix_tup (pv 2) pe_int (fun _ _ => rfl)) pa_nil)))))
        (pss_cons (ps_if (pt_cmpR op_eq (pe_ix ix_tup (pv 2) pe_int (fun _ _ => rfl)) pe_str (nomark _))
          (pss_one (ps_ret (pe_tup (pa_cons pe_str pa_nil))))
          pss_nil)
        (pss_one (ps_ret (pe_tup (pa_cons (pe_ix ix_tup (pv 2) pe_int (fun _ _ => rfl)) (pa_cons pe_int pa_nil))))))
        pss_nil)))
    (pss_cons (ps_if (pt_cmpR (op_eqL Run hu) (pe_call (ok_L_moves T) (hr.mono (by decide)) rfl T.L_moves.m T.L_moves.k T.L_moves.b .nil pass0 (pa_cons (pv 0) (pa_cons (pv 1) pa_nil))) (pe_lst pa_nil) (nomark _))
      (pss_one (ps_ret (pe_tup (pa_cons pe_str (pa_cons pe_int pa_nil)))))
      pss_nil)
    (pss_one (ps_ret pe_non)))), ?_⟩
  obtain ⟨lw, lk, lc, lp, ks, g1, g2, g4, g3⟩ := id hg
  obtain ⟨cv, c1, c2⟩ := g3.clauses
  refine ⟨_, rfl, g, _, _, _, rfl, rfl, g1, at_3, lc, rfl, ⟨_, c1⟩, ?_⟩
  refine for_it (walkL (K := K) (a := lc) (xs := cv)) (fun i σ H2 => ∃ x2, σ = [some (.ref g), some u, x2] ∧ Same H H2)
    ⟨_, rfl, Same.rfl'⟩ (fun i σ H2 _ ⟨_, _, e⟩ => e.seq c1) (fun i v σ H2 H2' hi hP hY => ?_) (fun σ H2 hP => ?_)
  · obtain ⟨x2, rfl, e⟩ := hP
    obtain ⟨rfl, hx⟩ := hY
    obtain ⟨c, hc, a, cu, rfl, h1, h2⟩ := c2.get' hx
    have hok := clok.each c (List.mem_of_getElem? hc)
    refine ⟨_, rfl, _, rfl, _, rfl, a, _, _, _, rfl, rfl, seqT e h1, at_0, g, G, u, cu, p, c.1, rfl, hg.same e, gok, hp.same e, pok, h2.same e, hok.1, hok.2.1, by have := hok.2.2; omega, fun b H3 e3 => ⟨_, rfl, ?_⟩⟩
    cases b with
    | true =>
      refine iteT ?_
      refine ⟨_, rfl, a, _, _, _, rfl, rfl, seqT (e.trans e3) h1, at_1, rfl, _, rfl, ite2 (fun c => ?_) (fun c => ?_)⟩
      · exact ⟨z1, fun t ht => q t _ ((e.trans e3).trans (Same.new ht))⟩
      · exact ⟨_, rfl, a, _, _, _, rfl, rfl, seqT (e.trans e3) h1, at_1, z2, fun t ht => q t _ ((e.trans e3).trans (Same.new ht))⟩
    | false => exact iteF ⟨_, rfl, e.trans e3⟩
  · obtain ⟨x2, rfl, e⟩ := hP
    refine ⟨_, rfl, _, rfl, g, G, u, p, rfl, hg.same e, gok, hp.same e, pok, fun l ys rs H1 e1 hl1 hx1 _ _ => ⟨z0, fun l2 hl2 => ?_⟩⟩
    have e2 := Same.new (o := .lst []) hl2
    refine ⟨rs, l, l2, ys, rfl, SqL.of (e2 _ _ hl1), hx1.same e2, rfl, SqL.of upd_same, _, rfl, ite2 (fun c => ?_) (fun c => ?_)⟩
    · exact ⟨z2, fun t ht => q t _ (((e.trans e1).trans e2).trans (Same.new ht))⟩
    · exact qn _ ((e.trans e1).trans e2)
def sp_L_next (K : PySem.W.Frag) : Sp := fun vs H Q _ => ∃ (g : Addr) (G : GD) (u : V) (p : Psn), vs = [.ref g, u] ∧ RulesAt K H g G ∧ GOk G ∧ ClOk G ∧ R K H u p ∧ PosOk G p ∧
  ∀ (l : Addr) (ys : List V) (bs : List Psn) (H' : Hp), Same H H' → H' l = some (.lst ys) → Rs K H' ys bs → bs.length ≤ 45 → (∀ r ∈ bs, PosOk G r) → Q (.ref l) H'
theorem ok_L_next (T : Top K mg) : FnOk P w K mg base CX0 22 T.L_next.a T.L_next.fd P_L_next (sp_L_next K) := by
  refine T.L_next.F.ok sc_L_next (fun vs H Q E h => ?_) (fun cdv A outer s H vs Q E hr hh => ?_)
  · obtain ⟨_, _, _, _, rfl, _⟩ := h; rfl
  obtain ⟨g, G, u, p, rfl, hg, gok, clok, hp, pok, q⟩ := hh
  have nd := sc_L_next.nd
  have hu := hu64 hr
  have z0 : 0 ≤ sizeLine := by decide
  refine ⟨_, (pss_cons (ps_if (pt_cmpR op_notN (pe_call (ok_L_over T) (hr.mono (by decide)) rfl T.L_over.m T.L_over.k T.L_over.b .nil pass0 (pa_cons (pv 0) (pa_cons (pv 1) pa_nil))) pe_non (nomark _))
      (pss_one (ps_ret (pe_lst pa_nil)))
      pss_nil)
    (pss_one (ps_ret (pe_callB (cr_sortS Psn rfl hu) rfl T.z_sorted (by decide +kernel) (pa_cons (pe_callTy (cr_setL Psn rfl hu) rfl T.z_set (by decide +kernel) (pa_cons (pe_lc (own := [("_law_pair", 2)]) (g := gName 2) (tt := tYes) rfl nd (pi_list (pe_call (ok_L_moves T) (hr.mono (by decide)) rfl T.L_moves.m T.L_moves.k T.L_moves.b .nil pass0 (pa_cons (pv 0) (pa_cons (pv 1) pa_nil)))) (blkOk_by (N := N_L_next) (sc := defScope s_L_next) (by decide +kernel)) (fun _ _ _ _ _ => (pg_name (i := 2) nd rfl (Or.inl rfl))) (fun _ _ _ _ _ => pts_nil) (fun _ _ _ _ _ => (pe_ix (ix_tupK (K := K) rfl) (pv 2) pe_int (fun _ _ => rfl)))) pa_nil)) pa_nil))))), ?_⟩
  refine ⟨_, rfl, _, rfl, g, G, u, p, rfl, hg, gok, clok, hp, pok, fun H1 e1 => ⟨rfl, _, rfl, ?_⟩, fun t H1 e1 => ⟨rfl, _, rfl, ?_⟩⟩
  · refine ite2 (fun c => absurd c (by decide)) (fun _ => ?_)
    refine ⟨_, rfl, _, rfl, g, G, u, p, rfl, hg.same e1, gok, hp.same e1, pok, fun l ys rs H2 e2 hl2 hx2 z45 rok => ⟨l, rfl, ⟨_, SqL.of hl2⟩, fun D hD => ?_⟩⟩
    have e3 := e1.trans e2
    refine lc_it (walkL (K := K) (a := l) (xs := ys)) (fun i H3 => ∃ acc, Same H2 H3 ∧ H3 D = some (.lst acc) ∧ Rs K H3 acc ((rs.take i).map Run.to)) ⟨[], Same.new hD, upd_same, .nil⟩ (fun i H3 _ ⟨_, e, _⟩ => SqL.of (e _ _ hl2)) (fun i x H3 H3' hi hP hY => ?_) (fun H3 hP => ?_)
    · obtain ⟨acc, e4, hD4, hr4⟩ := hP
      obtain ⟨rfl, hx⟩ := hY
      obtain ⟨r, hr0, hR⟩ := (hx2.same e4).get hx
      obtain ⟨a, b, c, rfl, ha, hb, hc⟩ := hR.run
      have hal := hr4.length
      rw [List.length_map, List.length_take] at hal
      refine ⟨rfl, _, rfl, a, _, _, _, rfl, rfl, ha, at_1, _, hD4, big' (by omega), _, Same.mut e4 hD, upd_same, ?_⟩
      have tt := TK.wr (K := K) (o := .lst (acc ++ [.ref c])) (show NoT (H3' D) by rw [hD4]; trivial)
      rw [take_one hr0, List.map_append]
      exact (hr4.fut tt).snoc (hc.fut tt)
    · obtain ⟨acc, e4, hD4, hr4⟩ := hP
      rw [hx2.length, List.take_length] at hr4
      refine ⟨D, acc, rs.map Run.to, rfl, SqL.of hD4, hr4, by rw [List.length_map]; omega, fun s ob bs' hs hbs S => ?_⟩
      refine ⟨s, bs', rfl, S, fun l' out hl' nd' hout => ?_⟩
      refine q l' out (srt bs') _ (((e3.trans e4).trans (Same.new hs)).trans (Same.new hl')) upd_same hout ?_ fun r hr => ?_
      · rw [srt_len]
        have z := nd_le nd' fun x hx => (hbs x).mp hx
        rw [List.length_map] at z
        omega
      · obtain ⟨r0, h1, h2⟩ := List.mem_map.mp ((hbs r).mp (srt_mem.mp hr))
        rw [← h2]
        exact rok r0 h1
  · refine ite2 (fun _ => ?_) (fun c => absurd rfl c)
    exact ⟨z0, fun l hl => q l [] [] _ (e1.trans (Same.new hl)) upd_same .nil (Nat.zero_le _) fun r h => nomatch h⟩
end Sk

/-! Sk: the law's table. -/
namespace Sk
open PySem L2 PySem.Spec PyProof.Rows
variable {P : Program} {w : World} {K : PySem.W.Frag} {mg : Str → Option Value} {base : Heap}

def sp_L_table (w : World) (K : PySem.W.Frag) : Sp := fun vs H Q _ => ∃ (g la : Addr) (G : GD) (m : Nat) (xs : List V) (ps : List Psn), vs = [.ref g, .ref la, .int m] ∧ RulesAt K H g G ∧ GOk G ∧ ClOk G ∧ SqL K H la xs ∧ Rs K H xs ps ∧ (∀ p ∈ ps, PosOk G p) ∧ ps.length ≤ 10 ∧ m ≤ 60 ∧
  (∀ H', Same H H' → Q .non H') ∧ ∀ d H', Same H H' → Q (.ref d) H'
theorem ok_L_table (T : Top K mg) : FnOk P w K mg base CX0 23 T.L_table.a T.L_table.fd P_L_table (sp_L_table w K) := by
  refine T.L_table.F.ok sc_L_table (fun vs H Q E h => ?_) (fun cdv A outer s H vs Q E hr hh => ?_)
  · obtain ⟨_, _, _, _, _, _, rfl, _⟩ := h; rfl
  obtain ⟨g, la, G, m, vs', ps, rfl, hg, gok, clok, hla, hps, pok, p10, m60, qn, q⟩ := hh
  have nd := sc_L_table.nd
  have hu := hu64 hr
  have z0 : 0 ≤ sizeLine := by decide
  refine ⟨_, (pss_cons (ps_set (i := 3) nd rfl (Or.inr rfl) (pe_nnew Psn))
    (pss_cons (ps_set (i := 4) nd rfl (Or.inl rfl) (pe_callTy call_list_of rfl T.z_list (by decide +kernel) (pa_cons (pv 1) pa_nil)))
    (pss_cons (ps_for PassesOwn.never rfl (pi_range1 rfl T.z_range (pa_cons (pv 2) pa_nil)) (pg_name (i := 5) nd rfl (Or.inl rfl))
      (pss_one (ps_if (pt_cmpR (op_neL Psn hu) (pv 4) (pe_lst pa_nil) (nomark _))
        (pss_cons (ps_set (i := 6) nd rfl (Or.inl rfl) (pe_bm0 PySem.F.plainAttrs_list PySem.F.slot_list_pop PySem.F.type_list_pop mt_pop (pv 4)))
        (pss_one (ps_if (pt_cmpR (op_nNotIn Psn hu) (pv 6) (pv 3) (by rfl))
          (pss_cons (ps_asg (pe_call (ok_L_next T) (hr.mono (by decide)) rfl T.L_next.m T.L_next.k T.L_next.b .nil pass0 (pa_cons (pv 0) (pa_cons (pv 6) pa_nil))) (pg_sub (pv 3) (pv 6) (set_n Psn hu)))
          (pss_one (ps_expr (pe_bm PySem.F.plainAttrs_list PySem.F.slot_list_extend PySem.F.type_list_extend mt_extend (pv 4) (pa_cons (pe_lc (own := [("_law_other", 7)]) (g := gName 7) rfl nd (pi_list (pe_nget Psn hu (pv 3) (pv 6) (fun _ _ => rfl))) (blkOk_by (N := N_L_table) (sc := defScope s_L_table) (by decide +kernel)) (fun _ _ _ _ _ => (pg_name (i := 7) nd rfl (Or.inl rfl))) (fun _ _ _ _ _ => (pts_one (pt_cmpR (op_nNotInK Psn (K := K) (w := w) rfl rfl hu) (pv 7) (pv 3) (by rfl)))) (fun _ _ _ _ _ => (pv 7))) pa_nil)))))
          pss_nil)))
        pss_nil)))
    (pss_cons (ps_if (pt_cmpR (op_neL Psn hu) (pv 4) (pe_lst pa_nil) (nomark _))
      (pss_one (ps_ret pe_non))
      pss_nil)
    (pss_one (ps_ret (pv 3))))))), ?_⟩
  intro d hd ob0 D0
  have s1 : Same H (upd H d ob0) := Same.new hd
  refine ⟨_, rfl, la, vs', rfl, .inl (s1.seq hla), fun l hl => ?_⟩
  have s2 := s1.trans (Same.new (o := .lst vs') hl)
  have hl0 : H l = none := s1.free hl
  have dl : d ≠ l := D0.ne hl
  refine ⟨_, rfl, (m : Int), rfl, by omega, by omega, ?_⟩
  refine for_range (lo := 0) (n := (m : Int).toNat) (fun i σ H1 => ∃ kvs xs bs x5 x6 x7, σ = [some (.ref g), some (.ref la), some (.int m), some (.ref d), some (.ref l), x5, x6, x7] ∧ Same H H1 ∧ DictAt w K H1 d kvs ∧ H1 l = some (.lst xs) ∧ Rs K H1 xs bs ∧ kvs.length ≤ i ∧ bs.length ≤ 10 + 45 * i ∧ ∀ p ∈ bs, PosOk G p)
    ⟨[], vs', ps, _, _, _, rfl, s2, D0.same (Same.new hl), upd_same, hps.same s2, Nat.le_refl _, by omega, pok⟩ (fun i σ H1 hi hP => ?_) (fun σ H1 hP => ?_)
  · obtain ⟨kvs, xs, bs, x5, x6, x7, rfl, e, D, hl1, hx1, k1, k2, k3⟩ := hP
    refine ⟨_, rfl, z0, fun l2 hl2 => ?_⟩
    have e1 := Same.new (o := .lst []) hl2
    refine ⟨bs, l, l2, xs, rfl, SqL.of (e1 _ _ hl1), hx1.same e1, rfl, SqL.of upd_same, _, rfl, ite2 (fun c => ?_) (fun c => ?_)⟩
    · have c : ¬ bs = [] := by simpa using c
      have hlen := hx1.length
      have hb1 : 0 < bs.length := List.length_pos_iff.mpr c
      obtain ⟨y, hy⟩ : ∃ y, xs[xs.length - 1]? = some y := ⟨xs[xs.length - 1]'(by omega), List.getElem?_eq_getElem _⟩
      obtain ⟨b0, hb0, hyb⟩ := (hx1.same e1).get hy
      rw [hlen] at hb0
      have ebs := dl_last hb0
      have hb0k := k3 b0 (List.mem_of_getElem? hb0)
      have hln := e1 _ _ hl1
      refine ⟨_, rfl, .inl ⟨rfl, _, SqL.of hln⟩, l, xs, y, rfl, rfl, hln, hy, ?_⟩
      have t4 : TK K (upd H1 l2 (.lst [])) (upd (upd H1 l2 (.lst [])) l (.lst xs.dropLast)) := TK.wr (by rw [hln]; trivial)
      have e4 : Same H (upd (upd H1 l2 (.lst [])) l (.lst xs.dropLast)) := Same.mut (e.trans e1) hl0
      have D4 : DictAt w K (upd (upd H1 l2 (.lst [])) l (.lst xs.dropLast)) d kvs := (D.same e1).fut t4 (upd_ne dl)
      have hl4 : upd (upd H1 l2 (.lst [])) l (.lst xs.dropLast) l = some (.lst xs.dropLast) := upd_same
      have hx4 : Rs K (upd (upd H1 l2 (.lst [])) l (.lst xs.dropLast)) xs.dropLast bs.dropLast := ((hx1.same e1).dropLast).fut t4
      have hdl : bs.length = bs.dropLast.length + 1 := by rw [ebs]; simp
      have k3' : ∀ p ∈ bs.dropLast, PosOk G p := fun p hp => k3 p (dl_mem hp)
      refine ⟨_, rfl, _, rfl, d, kvs, b0, rfl, D4, hyb.fut t4, _, rfl, ite2 (fun c2 => ?_) (fun c2 => ?_)⟩
      · refine ⟨_, rfl, _, rfl, g, G, y, b0, rfl, hg.same e4, gok, clok, hyb.fut t4, hb0k, fun lq ys cs H5 e5 hl5 hx5 z45 ck => ?_⟩
        have e45 := e4.trans e5
        have D5 := D4.same e5
        refine ⟨_, rfl, _, rfl, d, kvs, b0, rfl, D5, (hyb.fut t4).same e5, big' (by omega), fun ob D6 => ?_⟩
        have t6 : TK K H5 (upd H5 d ob) := TK.wr D5.noT
        have qd : lq ≠ d := by
          obtain ⟨φ, e1⟩ := D5.some
          exact fun z => by rw [z, e1] at hl5; cases hl5
        have hlq6 : upd H5 d ob lq = some (.lst ys) := by rw [upd_ne qd]; exact hl5
        have hl6 : upd H5 d ob l = some (.lst xs.dropLast) := by rw [upd_ne dl.symm]; exact e5 _ _ hl4
        have e6 : Same H (upd H5 d ob) := Same.mut e45 hd
        have hx6 := hx5.fut t6
        have hw6 := (hx4.same e5).fut t6
        have hk6 : (putK kvs b0 (.ref lq)).length ≤ kvs.length + 1 := by
          rcases keys_putK kvs b0 (.ref lq) with ⟨h, _⟩ | ⟨h, _⟩
          · have z := congrArg List.length h
            simp [keys] at z
            omega
          · have z := congrArg List.length h
            simp [keys] at z
            omega
        refine ⟨_, rfl, .inl ⟨rfl, _, SqL.of hl6⟩, _, rfl, _, rfl, d, _, b0, _, rfl, D6, ((hyb.fut t4).same e5).fut t6, by rw [valV_putK, if_pos rfl], lq, rfl, ⟨_, SqL.of hlq6⟩, fun DD hDD => ?_⟩
        refine lc_it (walkL (K := K) (a := lq) (xs := ys)) (fun j H7 => ∃ acc as, Same (upd H5 d ob) H7 ∧ H7 DD = some (.lst acc) ∧ Rs K H7 acc as ∧ as.length ≤ j ∧ ∀ p ∈ as, PosOk G p) ⟨[], [], Same.new hDD, upd_same, .nil, Nat.le_refl _, fun p h => nomatch h⟩ (fun j H7 _ ⟨_, _, e, _⟩ => SqL.of (e _ _ hlq6)) (fun j z H7 H7' hj hP hY => ?_) (fun H7 hP => ?_)
        · obtain ⟨acc, as, e7, h7, r7, n7, p7⟩ := hP
          obtain ⟨rfl, hz⟩ := hY
          obtain ⟨r, hr, hzr⟩ := (hx6.same e7).get hz
          have hyl := hx6.length
          refine ⟨rfl, _, rfl, _, rfl, d, _, r, rfl, D6.same e7, hzr, _, rfl, ite2 (fun cc => ?_) (fun cc => ?_)⟩
          · have tt := TK.wr (K := K) (o := .lst (acc ++ [z])) (show NoT (H7' DD) by rw [h7]; trivial)
            have := r7.length
            refine ⟨_, rfl, _, h7, big' (by omega), acc ++ [z], as ++ [r], Same.mut e7 hDD, upd_same, (r7.fut tt).snoc (hzr.fut tt), by rw [List.length_append, List.length_singleton]; omega, fun p hp => ?_⟩
            rcases List.mem_append.mp hp with y | y
            · exact p7 p y
            · rw [List.mem_singleton.mp y]; exact ck r (List.mem_of_getElem? hr)
          · exact ⟨acc, as, e7, h7, r7, by omega, p7⟩
        · obtain ⟨acc, as, e7, h7, r7, n7, p7⟩ := hP
          have hyl := hx6.length
          have hal := r7.length
          have hwl := hw6.length
          have hl7 := e7 _ _ hl6
          refine ⟨l, DD, _, _, rfl, rfl, hl7, h7, big (by omega), ?_⟩
          have tt := TK.wr (K := K) (o := .lst (xs.dropLast ++ acc)) (show NoT (H7 l) by rw [hl7]; trivial)
          refine ⟨_, _, bs.dropLast ++ as, _, _, _, rfl, Same.mut (e6.trans e7) hl0, (D6.same e7).fut tt (upd_ne dl), upd_same, ((hw6.same e7).fut tt).append (r7.fut tt), by omega, by rw [List.length_append]; omega, fun p hp => ?_⟩
          rcases List.mem_append.mp hp with y | y
          · exact k3' p y
          · exact p7 p y
      · exact ⟨kvs, _, _, _, _, _, rfl, e4, D4, hl4, hx4, by omega, by omega, k3'⟩
    · exact ⟨kvs, xs, bs, _, _, _, rfl, e.trans e1, D.same e1, e1 _ _ hl1, hx1.same e1, by omega, by omega, k3⟩
  · obtain ⟨kvs, xs, bs, x5, x6, x7, rfl, e, D, hl1, hx1, k1, k2, k3⟩ := hP
    refine ⟨_, rfl, z0, fun l2 hl2 => ?_⟩
    have e1 := Same.new (o := .lst []) hl2
    refine ⟨bs, l, l2, xs, rfl, SqL.of (e1 _ _ hl1), hx1.same e1, rfl, SqL.of upd_same, _, rfl, ite2 (fun c => ?_) (fun c => ?_)⟩
    · exact qn _ (e.trans e1)
    · exact ⟨_, rfl, q _ _ (e.trans e1)⟩
end Sk

/-! Sk: the law's keeping. -/
namespace Sk
open PySem L2 PySem.Spec PyProof.Rows
variable {P : Program} {w : World} {K : PySem.W.Frag} {mg : Str → Option Value} {base : Heap}

theorem fil1 {α : Type} {f : α → Bool} {b : α} (h : f b = true) : List.filter f [b] = [b] := by simp [h]
theorem fil0 {α : Type} {f : α → Bool} {b : α} (h : ¬ f b = true) : List.filter f [b] = [] := by simp [h]
def dueF : Val → Val
  | .val true n => .val false (n - 1)
  | .val false n => .val true (n - 1)
  | .drawn => .drawn
/-- the book in the heap -/
structure BookAt (w : World) (K : PySem.W.Frag) (H : Hp) (d : Addr) (ks : List Psn) (B : Psn → Val) : Prop where
  ex : ∃ kvs, DictAt w K H d kvs ∧ keys kvs = ks ∧ ∀ q ∈ ks, ∃ v, valV kvs q = some v ∧ R K H v (B q)
theorem BookAt.same {H H' : Hp} {d : Addr} {ks : List Psn} {B : Psn → Val} (e : Same H H') (h : BookAt w K H d ks B) : BookAt w K H' d ks B := by
  obtain ⟨kvs, D, hk, hv⟩ := h.ex
  exact ⟨kvs, D.same e, hk, fun q hq => let ⟨v, h1, h2⟩ := hv q hq; ⟨v, h1, h2.same e⟩⟩
def keepF (B : Psn → Val) (p : Psn) (bs : List Psn) : List Psn := bs.filter fun b => decide (B b = dueF (B p))
def sp_L_keeping (w : World) (K : PySem.W.Frag) : Sp := fun vs H Q _ => ∃ (d fl : Addr) (u : V) (p : Psn) (ks : List Psn) (B : Psn → Val) (xs : List V) (bs : List Psn), vs = [.ref d, u, .ref fl] ∧ BookAt w K H d ks B ∧ R K H u p ∧ p ∈ ks ∧ SqL K H fl xs ∧ Rs K H xs bs ∧ (∀ b ∈ bs, b ∈ ks) ∧ bs.length ≤ 45 ∧
  ∀ l ys H', Same H H' → H' l = some (.lst ys) → Rs K H' ys (keepF B p bs) → Q (.ref l) H'
theorem ok_L_keeping (T : Top K mg) : FnOk P w K mg base CX0 1 T.L_keeping.a T.L_keeping.fd P_L_keeping (sp_L_keeping w K) := by
  refine T.L_keeping.F.ok sc_L_keeping (fun vs H Q E h => ?_) (fun cdv A outer s H vs Q E hr hh => ?_)
  · obtain ⟨_, _, _, _, _, _, _, _, rfl, _⟩ := h; rfl
  obtain ⟨d, fl, u, p, ks, B, xs, bs, rfl, hb, hp, pk, hfl, hxs, bk, b45, q⟩ := hh
  have nd := sc_L_keeping.nd
  have hu := hu64 hr
  have z1 : 1 ≤ sizeLine := by decide
  have z2 : 2 ≤ sizeLine := by decide
  refine ⟨_, (pss_cons (ps_set (i := 3) nd rfl (Or.inl rfl) (pe_nget Psn hu (pv 0) (pv 1) (fun _ _ => rfl)))
    (pss_cons (ps_set (i := 4) nd rfl (Or.inr rfl) (pe_tup (pa_cons pe_str pa_nil)))
    (pss_cons (ps_if (pt_cmpR op_eq (pe_ix ix_tup (pv 3) pe_int (fun _ _ => rfl)) pe_str (nomark _))
      (pss_one (ps_set (i := 4) nd rfl (Or.inr rfl) (pe_tup (pa_cons pe_str (pa_cons (pe_op op_sub (pe_ix ix_tup (pv 3) pe_int (fun _ _ => rfl)) pe_int) pa_nil)))))
      pss_nil)
    (pss_cons (ps_if (pt_cmpR op_eq (pe_ix ix_tup (pv 3) pe_int (fun _ _ => rfl)) pe_str (nomark _))
      (pss_one (ps_set (i := 4) nd rfl (Or.inr rfl) (pe_tup (pa_cons pe_str (pa_cons (pe_op op_sub (pe_ix ix_tup (pv 3) pe_int (fun _ _ => rfl)) pe_int) pa_nil)))))
      pss_nil)
    (pss_one (ps_ret (pe_lc (own := [("_law_other", 5)]) (g := gName 5) rfl nd (pi_list (pv 2)) (blkOk_by (N := N_L_keeping) (sc := defScope s_L_keeping) (by decide +kernel)) (fun _ _ _ _ _ => (pg_name (i := 5) nd rfl (Or.inl rfl))) (fun _ _ _ _ _ => (pts_one (pt_cmpR (op_eqEK Val (K := K) rfl hu) (pe_ngetK Psn (K := K) (w := w) rfl rfl hu (pv 0) (pv 5) (fun _ _ => rfl)) (pv 4) (nomark _)))) (fun _ _ _ _ _ => (pv 5))))))))), ?_⟩
  obtain ⟨kvs, D, hk, hv⟩ := id hb.ex
  obtain ⟨v, hv1, hv2⟩ := hv p pk
  refine ⟨_, rfl, _, rfl, d, kvs, p, v, rfl, D, hp, hv1, z1, fun t0 ht0 => ?_⟩
  have e0 := Same.new (o := .tup [.str wDrawn]) ht0
  generalize hH0 : upd H t0 (.tup [.str wDrawn]) = H0 at e0
  have r0 : R K H0 (.ref t0) Val.drawn := R.ofDrawn (SqT.of (by rw [← hH0]; exact upd_same))
  cases hV : B p with
  | drawn =>
    rw [hV] at hv2
    obtain ⟨a, rfl, ha⟩ := hv2.drawn
    refine ⟨_, rfl, a, _, _, _, rfl, rfl, seqT e0 ha, at_0, rfl, _, rfl, ?_⟩
    refine ite2 (fun c => absurd c (by decide +kernel)) (fun _ => ?_)
    refine ⟨_, rfl, a, _, _, _, rfl, rfl, seqT e0 ha, at_0, rfl, _, rfl, ?_⟩
    refine ite2 (fun c => absurd c (by decide +kernel)) (fun _ => ?_)
    have rd : R K H0 (.ref t0) (dueF (B p)) := by rw [hV]; exact r0
    refine ⟨_, rfl, fl, rfl, ⟨_, e0.seq hfl⟩, fun DD hDD => ?_⟩
    have ee := e0.trans (Same.new (o := .lst []) hDD)
    have eD := Same.new (o := .lst []) hDD
    refine lc_it (walkL (K := K) (a := fl) (xs := xs)) (fun i H9 => ∃ acc, Same H0 H9 ∧ H9 DD = some (.lst acc) ∧ Rs K H9 acc ((bs.take i).filter fun b => decide (B b = dueF (B p)))) ⟨[], eD, upd_same, .nil⟩ (fun i H9 _ ⟨_, e, _⟩ => e.seq (e0.seq hfl)) (fun i y H9 H9' hi hP hY => ?_) (fun H9 hP => ?_)
    · obtain ⟨acc, e9, h9, r9⟩ := hP
      obtain ⟨rfl, hy⟩ := hY
      have e09 := e0.trans e9
      obtain ⟨b, hb0, hyb⟩ := (hxs.same e09).get hy
      obtain ⟨vb, hb1, hb2⟩ := hv b (bk b (List.mem_of_getElem? hb0))
      have hal := r9.length
      have h1 := List.length_filter_le (fun b => decide (B b = dueF (B p))) (bs.take i)
      have h2 : (bs.take i).length ≤ 45 := by rw [List.length_take]; omega
      refine ⟨rfl, _, rfl, _, rfl, d, kvs, b, vb, rfl, D.same e09, hyb, hb1, _, rfl, B b, dueF (B p), hb2.same e09, rd.same e9, _, rfl, ite2 (fun cc => ?_) (fun cc => ?_)⟩
      · have t9 : TK K H9' (upd H9' DD (.lst (acc ++ [y]))) := TK.wr (by rw [h9]; trivial)
        refine ⟨_, rfl, _, h9, big' (by omega), acc ++ [y], Same.mut e9 hDD, upd_same, ?_⟩
        rw [take_one hb0, List.filter_append]
        have : List.filter (fun b => decide (B b = dueF (B p))) [b] = [b] := fil1 (f := fun b => decide (B b = dueF (B p))) cc
        rw [this]
        exact (r9.fut t9).snoc (hyb.fut t9)
      · refine ⟨acc, e9, h9, ?_⟩
        rw [take_one hb0, List.filter_append]
        have : List.filter (fun b => decide (B b = dueF (B p))) [b] = [] := fil0 (f := fun b => decide (B b = dueF (B p))) cc
        rw [this, List.append_nil]
        exact r9
    · obtain ⟨acc, e9, h9, r9⟩ := hP
      rw [hxs.length, List.take_length] at r9
      exact q DD acc H9 (e0.trans e9) h9 r9
  | val wn n =>
    rw [hV] at hv2
    obtain ⟨a, rfl, ha⟩ := hv2.val
    cases wn with
    | true =>
      refine ⟨_, rfl, a, _, _, _, rfl, rfl, seqT e0 ha, at_0, rfl, _, rfl, ?_⟩
      refine ite2 (fun _ => ?_) (fun c => absurd (by decide +kernel) c)
      refine ⟨_, rfl, a, _, _, _, rfl, rfl, seqT e0 ha, at_1, _, _, rfl, rfl, z2, fun t1 ht1 => ?_⟩
      have e1 := e0.trans (Same.new (o := .tup [.str wLost, .int (n - 1)]) ht1)
      generalize hH1 : upd H0 t1 (.tup [.str wLost, .int (n - 1)]) = H1 at e1
      have rd : R K H1 (.ref t1) (dueF (B p)) := by rw [hV]; exact R.ofVal (w := false) (n := n - 1) (SqT.of (by rw [← hH1]; exact upd_same))
      refine ⟨_, rfl, a, _, _, _, rfl, rfl, seqT e1 ha, at_0, rfl, _, rfl, ?_⟩
      refine ite2 (fun c => absurd c (by decide +kernel)) (fun _ => ?_)
      refine ⟨_, rfl, fl, rfl, ⟨_, e1.seq hfl⟩, fun DD hDD => ?_⟩
      have ee := e1.trans (Same.new (o := .lst []) hDD)
      have eD := Same.new (o := .lst []) hDD
      refine lc_it (walkL (K := K) (a := fl) (xs := xs)) (fun i H9 => ∃ acc, Same H1 H9 ∧ H9 DD = some (.lst acc) ∧ Rs K H9 acc ((bs.take i).filter fun b => decide (B b = dueF (B p)))) ⟨[], eD, upd_same, .nil⟩ (fun i H9 _ ⟨_, e, _⟩ => e.seq (e1.seq hfl)) (fun i y H9 H9' hi hP hY => ?_) (fun H9 hP => ?_)
      · obtain ⟨acc, e9, h9, r9⟩ := hP
        obtain ⟨rfl, hy⟩ := hY
        have e09 := e1.trans e9
        obtain ⟨b, hb0, hyb⟩ := (hxs.same e09).get hy
        obtain ⟨vb, hb1, hb2⟩ := hv b (bk b (List.mem_of_getElem? hb0))
        have hal := r9.length
        have h1 := List.length_filter_le (fun b => decide (B b = dueF (B p))) (bs.take i)
        have h2 : (bs.take i).length ≤ 45 := by rw [List.length_take]; omega
        refine ⟨rfl, _, rfl, _, rfl, d, kvs, b, vb, rfl, D.same e09, hyb, hb1, _, rfl, B b, dueF (B p), hb2.same e09, rd.same e9, _, rfl, ite2 (fun cc => ?_) (fun cc => ?_)⟩
        · have t9 : TK K H9' (upd H9' DD (.lst (acc ++ [y]))) := TK.wr (by rw [h9]; trivial)
          refine ⟨_, rfl, _, h9, big' (by omega), acc ++ [y], Same.mut e9 hDD, upd_same, ?_⟩
          rw [take_one hb0, List.filter_append]
          have : List.filter (fun b => decide (B b = dueF (B p))) [b] = [b] := fil1 (f := fun b => decide (B b = dueF (B p))) cc
          rw [this]
          exact (r9.fut t9).snoc (hyb.fut t9)
        · refine ⟨acc, e9, h9, ?_⟩
          rw [take_one hb0, List.filter_append]
          have : List.filter (fun b => decide (B b = dueF (B p))) [b] = [] := fil0 (f := fun b => decide (B b = dueF (B p))) cc
          rw [this, List.append_nil]
          exact r9
      · obtain ⟨acc, e9, h9, r9⟩ := hP
        rw [hxs.length, List.take_length] at r9
        exact q DD acc H9 (e1.trans e9) h9 r9
    | false =>
      refine ⟨_, rfl, a, _, _, _, rfl, rfl, seqT e0 ha, at_0, rfl, _, rfl, ?_⟩
      refine ite2 (fun c => absurd c (by decide +kernel)) (fun _ => ?_)
      refine ⟨_, rfl, a, _, _, _, rfl, rfl, seqT e0 ha, at_0, rfl, _, rfl, ?_⟩
      refine ite2 (fun _ => ?_) (fun c => absurd (by decide +kernel) c)
      refine ⟨_, rfl, a, _, _, _, rfl, rfl, seqT e0 ha, at_1, _, _, rfl, rfl, z2, fun t1 ht1 => ?_⟩
      have e1 := e0.trans (Same.new (o := .tup [.str wWon, .int (n - 1)]) ht1)
      generalize hH1 : upd H0 t1 (.tup [.str wWon, .int (n - 1)]) = H1 at e1
      have rd : R K H1 (.ref t1) (dueF (B p)) := by rw [hV]; exact R.ofVal (w := true) (n := n - 1) (SqT.of (by rw [← hH1]; exact upd_same))
      refine ⟨_, rfl, fl, rfl, ⟨_, e1.seq hfl⟩, fun DD hDD => ?_⟩
      have ee := e1.trans (Same.new (o := .lst []) hDD)
      have eD := Same.new (o := .lst []) hDD
      refine lc_it (walkL (K := K) (a := fl) (xs := xs)) (fun i H9 => ∃ acc, Same H1 H9 ∧ H9 DD = some (.lst acc) ∧ Rs K H9 acc ((bs.take i).filter fun b => decide (B b = dueF (B p)))) ⟨[], eD, upd_same, .nil⟩ (fun i H9 _ ⟨_, e, _⟩ => e.seq (e1.seq hfl)) (fun i y H9 H9' hi hP hY => ?_) (fun H9 hP => ?_)
      · obtain ⟨acc, e9, h9, r9⟩ := hP
        obtain ⟨rfl, hy⟩ := hY
        have e09 := e1.trans e9
        obtain ⟨b, hb0, hyb⟩ := (hxs.same e09).get hy
        obtain ⟨vb, hb1, hb2⟩ := hv b (bk b (List.mem_of_getElem? hb0))
        have hal := r9.length
        have h1 := List.length_filter_le (fun b => decide (B b = dueF (B p))) (bs.take i)
        have h2 : (bs.take i).length ≤ 45 := by rw [List.length_take]; omega
        refine ⟨rfl, _, rfl, _, rfl, d, kvs, b, vb, rfl, D.same e09, hyb, hb1, _, rfl, B b, dueF (B p), hb2.same e09, rd.same e9, _, rfl, ite2 (fun cc => ?_) (fun cc => ?_)⟩
        · have t9 : TK K H9' (upd H9' DD (.lst (acc ++ [y]))) := TK.wr (by rw [h9]; trivial)
          refine ⟨_, rfl, _, h9, big' (by omega), acc ++ [y], Same.mut e9 hDD, upd_same, ?_⟩
          rw [take_one hb0, List.filter_append]
          have : List.filter (fun b => decide (B b = dueF (B p))) [b] = [b] := fil1 (f := fun b => decide (B b = dueF (B p))) cc
          rw [this]
          exact (r9.fut t9).snoc (hyb.fut t9)
        · refine ⟨acc, e9, h9, ?_⟩
          rw [take_one hb0, List.filter_append]
          have : List.filter (fun b => decide (B b = dueF (B p))) [b] = [] := fil0 (f := fun b => decide (B b = dueF (B p))) cc
          rw [this, List.append_nil]
          exact r9
      · obtain ⟨acc, e9, h9, r9⟩ := hP
        rw [hxs.length, List.take_length] at r9
        exact q DD acc H9 (e1.trans e9) h9 r9
end Sk

/-! Sk: the law's small game. -/
namespace Sk
open PySem L2 PySem.Spec PyProof.Rows
variable {P : Program} {w : World} {K : PySem.W.Frag} {mg : Str → Option Value} {base : Heap}

def g0 : GD := ⟨2, 1, [[1, -1]], [], [(.go 0, .go 0)]⟩
theorem g0_ok : GOk g0 := by
  refine ⟨by decide, by decide, by decide, by decide, fun r h => ?_, by decide, rfl, fun p h => ?_⟩
  · rw [List.mem_singleton.mp h]
    refine ⟨rfl, fun x hx => ?_⟩
    rcases List.mem_cons.mp hx with z | z
    · subst z; exact ⟨by decide, by show (1 : Int) < 2; decide⟩
    · rw [List.mem_singleton.mp z]; exact ⟨by decide, by show (-1 : Int) < 2; decide⟩
  · rw [List.mem_singleton.mp h]
    have o : Pg.ok g0 (.go 0) := by unfold Pg.ok; exact ⟨by decide, by show (0 : Int) < 1; decide⟩
    have c : Pg.cnt (.go 0) ≤ 15 := by unfold Pg.cnt; decide
    have t : Pg.hgt (.go 0) ≤ 8 := by unfold Pg.hgt; decide
    exact ⟨⟨o, c, t⟩, ⟨o, c, t⟩⟩
theorem g0_cl : ClOk g0 := ⟨by decide, fun c h => nomatch h⟩
theorem g0_pos : PosOk g0 ⟨0, [1, 0]⟩ := by
  refine ⟨⟨rfl, fun x hx => ?_⟩, by decide, .inl rfl⟩
  have hx : x ∈ [(1 : Int), 0] := hx
  rcases List.mem_cons.mp hx with z | z
  · subst z; exact ⟨by decide, by show (1 : Int) ≤ 2; decide⟩
  · rw [List.mem_singleton.mp z]; exact ⟨by decide, by show (0 : Int) ≤ 2; decide⟩
theorem wo_get {D : Dk} {H : Hp} {a : Addr} {o : HO} (h : a ≠ D.dk) (e : H a = some o) : wo D H a = some o := by rw [wo_at h]; exact e
theorem new_at {H : Hp} {a : Addr} {o : HO} (h : H a = none) : upd H a o a = some o := upd_same
def sp_L_small (K : PySem.W.Frag) : Sp := fun vs H Q _ => ∃ (D : Dk), vs = [.ref D.dk, .int 60] ∧ Deck D H ∧
  ∀ (lm ls r : Addr) (tv : V) (G : GD) (xs : List V) (ps : List Psn) (H' : Hp), Dw D H H' → H' lm = some (.lst [.ref r, .ref ls, tv]) → RulesAt K (wo D H') r G → GOk G → ClOk G → SqL K H' ls xs → Rs K H' xs ps → ps ≠ [] → ps.length ≤ 10 → (∀ p ∈ ps, PosOk G p) → Q (.ref lm) H'
theorem ok_L_small (T : Top K mg) : FnOk P w K mg base CX0 24 T.L_small.a T.L_small.fd P_L_small (sp_L_small K) := by
  refine T.L_small.F.ok sc_L_small (fun vs H Q E h => ?_) (fun cdv A outer s H vs Q E hr hh => ?_)
  · obtain ⟨_, rfl, _⟩ := h; rfl
  obtain ⟨D, rfl, dk, q⟩ := hh
  have nd := sc_L_small.nd
  have hu := hu64 hr
  have z0 : 0 ≤ sizeLine := by decide
  have z1 : 1 ≤ sizeLine := by decide
  have z2 : 2 ≤ sizeLine := by decide
  have z3 : 3 ≤ sizeLine := by decide
  have z5 : 5 ≤ sizeLine := by decide
  refine ⟨_, (pss_cons (ps_for PassesOwn.never rfl (pi_range1 rfl T.z_range (pa_cons pe_int pa_nil)) (pg_name (i := 2) nd rfl (Or.inl rfl))
      (pss_cons (ps_set (i := 3) nd rfl (Or.inr rfl) (pe_call (ok_L_rules T) (hr.mono (by decide)) rfl T.L_rules.m T.L_rules.k T.L_rules.b .nil pass0 (pa_cons (pv 0) pa_nil)))
      (pss_cons (ps_setLc (i := 4) (own := [("_law_k", 6)]) (g := gName 6) (tt := tYes) rfl nd rfl rfl (sw_true rfl rfl rfl (by decide +kernel)) (pi_range1 rfl T.z_range (pa_cons (pe_op op_add pe_int (pe_call (ok_L_draw T) (hr.mono (by decide)) rfl T.L_draw.m T.L_draw.k T.L_draw.b .nil pass0 (pa_cons (pv 0) (pa_cons pe_int pa_nil)))) pa_nil)) (blkOk_by (N := N_L_small) (sc := defScope s_L_small) (by decide +kernel)) (fun _ _ _ _ _ => (pg_name (i := 6) nd rfl (Or.inl rfl))) (fun _ _ _ _ _ => pts_nil) (fun _ _ _ _ _ => (pe_call (ok_L_position T) (hr.mono (by decide)) rfl T.L_position.m T.L_position.k T.L_position.b .nil pass0 (pa_cons (pv 0) (pa_cons (pv 3) (pa_cons pe_int pa_nil))))))
      (pss_cons (ps_set (i := 5) nd rfl (Or.inl rfl) (pe_call (ok_L_table T) (hr.mono (by decide)) rfl T.L_table.m T.L_table.k T.L_table.b .nil pass0 (pa_cons (pv 3) (pa_cons (pv 4) (pa_cons (pv 1) pa_nil)))))
      (pss_one (ps_if (pt_cmpR op_notN (pv 5) pe_non (nomark _))
        (pss_one (ps_ret (pe_lst (pa_cons (pv 3) (pa_cons (pv 4) (pa_cons (pv 5) pa_nil))))))
        pss_nil))))))
    (pss_cons (ps_set (i := 3) nd rfl (Or.inr rfl) (pe_lst (pa_cons pe_int (pa_cons (pe_lst (pa_cons (pe_tup (pa_cons pe_str (pa_cons (pe_lst (pa_cons pe_int (pa_cons (pe_un un_neg pe_int) pa_nil))) pa_nil))) pa_nil)) (pa_cons (pe_lst (pa_cons pe_str pa_nil)) (pa_cons (pe_lst pa_nil) (pa_cons (pe_lst (pa_cons (pe_tup (pa_cons (pe_tup (pa_cons pe_str (pa_cons pe_int pa_nil))) (pa_cons (pe_tup (pa_cons pe_str (pa_cons pe_int pa_nil))) pa_nil))) pa_nil)) pa_nil)))))))
    (pss_one (ps_ret (pe_lst (pa_cons (pv 3) (pa_cons (pe_lst (pa_cons (pe_tup (pa_cons pe_int (pa_cons (pe_tup (pa_cons pe_int (pa_cons pe_int pa_nil))) pa_nil))) pa_nil)) (pa_cons (pe_call (ok_L_table T) (hr.mono (by decide)) rfl T.L_table.m T.L_table.k T.L_table.b .nil pass0 (pa_cons (pv 3) (pa_cons (pe_lst (pa_cons (pe_tup (pa_cons pe_int (pa_cons (pe_tup (pa_cons pe_int (pa_cons pe_int pa_nil))) pa_nil))) pa_nil)) (pa_cons pe_int pa_nil)))) pa_nil)))))))), ?_⟩
  refine ⟨6, rfl, by decide, by decide, ?_⟩
  refine for_range (lo := 0) (n := (6 : Int).toNat) (fun i σ H1 => ∃ x2 x3 x4 x5 x6, σ = [some (.ref D.dk), some (.int 60), x2, x3, x4, x5, x6] ∧ Dw D H H1)
    ⟨_, _, _, _, _, rfl, Dw.rfl' dk⟩ (fun i σ H1 hi hP => ?_) (fun σ H1 hP => ?_)
  · obtain ⟨x2, x3, x4, x5, x6, rfl, c1⟩ := hP
    refine ⟨_, rfl, D, rfl, c1.dk, fun r G H2 w2 hR gok clok => ?_⟩
    have c2 := c1.trans w2
    refine ⟨_, rfl, D, 2, rfl, c2.dk, by decide, by decide, fun m H3 m0 m1 w3 => ⟨_, _, rfl, rfl, 1 + m, rfl, by omega, by omega, fun DD hDD => ?_⟩⟩
    have c3 := c2.trans w3
    have hDk := c3.dk.new hDD
    refine lc_range (lo := 0) (n := (1 + m).toNat) (fun j H5 => ∃ acc ps, Dw D H3 H5 ∧ H5 DD = some (.lst acc) ∧ Rs K H5 acc ps ∧ ps.length = j ∧ ∀ p ∈ ps, PosOk G p) ⟨[], [], Dw.new c3.dk hDD, upd_same, .nil, rfl, fun p h => nomatch h⟩ (fun j H5 hj hP => ?_) (fun H5 hP => ?_)
    · obtain ⟨acc, ps, w5, h5, r5, l5, p5⟩ := hP
      have hal := r5.length
      refine ⟨rfl, _, rfl, _, rfl, D, r, G, rfl, w5.dk, hR.same (w3.trans w5).same, gok, fun v p H6 w6 rv pk => ?_⟩
      have h6 := w6.at_ hDk h5
      have tt := TK.wr (K := K) (o := .lst (acc ++ [v])) (show NoT (H6 DD) by rw [h6]; trivial)
      refine ⟨_, h6, big' (by omega), acc ++ [v], ps ++ [p], (w5.trans w6).mut c3.dk hDD, upd_same, ((r5.fut (Dw.tk w5.dk w6)).fut tt).snoc (rv.fut tt), by rw [List.length_append, List.length_singleton]; omega, fun p' hp => ?_⟩
      rcases List.mem_append.mp hp with y | y
      · exact p5 p' y
      · rw [List.mem_singleton.mp y]; exact pk
    · obtain ⟨acc, ps, w5, h5, r5, l5, p5⟩ := hP
      have c5 := c3.trans w5
      have hR5 := hR.same (w3.trans w5).same
      have pne : ps ≠ [] := fun e => by rw [e] at l5; simp at l5; omega
      refine ⟨_, rfl, _, rfl, _, rfl, r, DD, G, 60, acc, ps, rfl, hR5.same wo_sub, gok, clok, SqL.of h5, r5, p5, by omega, by decide, fun H7 e7 => ?_, fun td H7 e7 => ?_⟩
      · refine ⟨_, rfl, rfl, _, rfl, ite2 (fun c => absurd c (by decide)) (fun _ => ?_)⟩
        exact ⟨_, _, _, _, _, rfl, c5.trans (Dw.of_same c5.dk e7)⟩
      · refine ⟨_, rfl, rfl, _, rfl, ite2 (fun _ => ?_) (fun c => absurd rfl c)⟩
        refine ⟨_, rfl, _, rfl, _, rfl, z3, fun lm hlm => ?_⟩
        have e8 := Same.new (o := .lst [.ref r, .ref DD, .ref td]) hlm
        have c8 := c5.trans (Dw.of_same c5.dk (e7.trans e8))
        exact q lm DD r _ G acc ps _ c8 upd_same (hR5.same (Dw.of_same c5.dk (e7.trans e8)).same) gok clok (SqL.of (e8 _ _ (e7 _ _ h5))) ((r5.same e7).same e8) pne (by omega) p5
  · obtain ⟨x2, x3, x4, x5, x6, rfl, c1⟩ := hP
    refine ⟨_, rfl, z2, fun l1 h1 => ⟨z2, fun t1 h2 => ⟨z1, fun l2 h3 => ⟨z1, fun l3 h4 => ⟨z0, fun l4 h5 => ⟨z2, fun t2 h6 => ⟨z2, fun t3 h7 => ⟨z2, fun t4 h8 => ⟨z1, fun l5 h9 => ⟨z5, fun r h10 => ?_⟩⟩⟩⟩⟩⟩⟩⟩⟩⟩
    have d0 := c1.dk
    have s1 := Same.new (o := .lst [.int 1, .int (-1)]) h1
    have n1 := d0.new h1
    have d1 := (Dw.of_same d0 s1).dk
    have s2 := Same.new (o := .tup [.str (Str.ofString "east"), .ref l1]) h2
    have n2 := d1.new h2
    have d2 := (Dw.of_same d1 s2).dk
    have s3 := Same.new (o := .lst [.ref t1]) h3
    have n3 := d2.new h3
    have d3 := (Dw.of_same d2 s3).dk
    have s4 := Same.new (o := .lst [.str (Str.ofString "man")]) h4
    have n4 := d3.new h4
    have d4 := (Dw.of_same d3 s4).dk
    have s5 := Same.new (o := .lst []) h5
    have n5 := d4.new h5
    have d5 := (Dw.of_same d4 s5).dk
    have s6 := Same.new (o := .tup [.str wGo, .int 0]) h6
    have n6 := d5.new h6
    have d6 := (Dw.of_same d5 s6).dk
    have s7 := Same.new (o := .tup [.str wGo, .int 0]) h7
    have n7 := d6.new h7
    have d7 := (Dw.of_same d6 s7).dk
    have s8 := Same.new (o := .tup [.ref t2, .ref t3]) h8
    have n8 := d7.new h8
    have d8 := (Dw.of_same d7 s8).dk
    have s9 := Same.new (o := .lst [.ref t4]) h9
    have n9 := d8.new h9
    have d9 := (Dw.of_same d8 s9).dk
    have s10 := Same.new (o := .lst [.int 2, .ref l2, .ref l3, .ref l4, .ref l5]) h10
    have n10 := d9.new h10
    have d10 := (Dw.of_same d9 s10).dk
    have f1 := wo_get n1 (((((((((s2.trans s3).trans s4).trans s5).trans s6).trans s7).trans s8).trans s9).trans s10) _ _ upd_same)
    have f2 := wo_get n2 ((((((((s3.trans s4).trans s5).trans s6).trans s7).trans s8).trans s9).trans s10) _ _ upd_same)
    have f3 := wo_get n3 (((((((s4.trans s5).trans s6).trans s7).trans s8).trans s9).trans s10) _ _ upd_same)
    have f4 := wo_get n4 ((((((s5.trans s6).trans s7).trans s8).trans s9).trans s10) _ _ upd_same)
    have f5 := wo_get n5 (((((s6.trans s7).trans s8).trans s9).trans s10) _ _ upd_same)
    have f6 := wo_get n6 ((((s7.trans s8).trans s9).trans s10) _ _ upd_same)
    have f7 := wo_get n7 (((s8.trans s9).trans s10) _ _ upd_same)
    have f8 := wo_get n8 ((s9.trans s10) _ _ upd_same)
    have f9 := wo_get n9 (s10 _ _ upd_same)
    have f10 := wo_get n10 (new_at (o := .lst [.int 2, .ref l2, .ref l3, .ref l4, .ref l5]) h10)
    have s0 := (((((((((s1.trans s2).trans s3).trans s4).trans s5).trans s6).trans s7).trans s8).trans s9).trans s10)
    have c2 := c1.trans (Dw.of_same c1.dk s0)
    have hR : RulesAt K (wo D _) r g0 := ⟨l2, l3, l4, l5, [.str (Str.ofString "man")], SqL.of f10, SqL.of f4, rfl, ⟨[.ref t1], SqL.of f3, .cons ⟨t1, l1, _, rfl, SqT.of f2, SqL.of f1⟩ .nil⟩, ⟨[], SqL.of f5, .nil⟩, ⟨[.ref t4], SqL.of f9, .cons ⟨t4, .ref t2, .ref t3, rfl, SqT.of f8, .go (SqT.of f6), .go (SqT.of f7)⟩ .nil⟩⟩
    clear f1 f2 f3 f4 f5 f6 f7 f8 f9 f10
    refine ⟨_, rfl, z2, fun t5 h11 => ⟨z2, fun t6 h12 => ⟨z1, fun l6 h13 => ?_⟩⟩⟩
    have s11 := Same.new (o := .tup [.int 1, .int 0]) h11
    have s12 := Same.new (o := .tup [.int 0, .ref t5]) h12
    have s13 := Same.new (o := .lst [.ref t6]) h13
    refine ⟨_, rfl, z2, fun t7 h14 => ⟨z2, fun t8 h15 => ⟨z1, fun l7 h16 => ?_⟩⟩⟩
    have s14 := Same.new (o := .tup [.int 1, .int 0]) h14
    have s15 := Same.new (o := .tup [.int 0, .ref t7]) h15
    have s16 := Same.new (o := .lst [.ref t8]) h16
    have s1b := ((s11.trans s12).trans s13)
    have s1c := ((s14.trans s15).trans s16)
    have s1d := s1b.trans s1c
    have c3 := Dw.of_same c2.dk s1d
    have R8 := R.ofPos (K := K) (p := ⟨0, [1, 0]⟩) (a := t8) (b := t7) (seqT s16 (SqT.of upd_same)) (seqT (s15.trans s16) (SqT.of upd_same))
    have R6 := R.ofPos (K := K) (p := ⟨0, [1, 0]⟩) (a := t6) (b := t5) (seqT s13 (SqT.of upd_same)) (seqT (s12.trans s13) (SqT.of upd_same))
    have one : ∀ p ∈ [(⟨0, [1, 0]⟩ : Psn)], PosOk g0 p := fun p hp => by rw [List.mem_singleton.mp hp]; exact g0_pos
    refine ⟨r, l7, g0, 9, [.ref t8], [⟨0, [1, 0]⟩], rfl, (hR.same c3.same).same wo_sub, g0_ok, g0_cl, SqL.of upd_same, .cons R8 .nil, one, by simp, by decide, fun H7 e7 => ⟨z3, fun lm hlm => ?_⟩, fun td H7 e7 => ⟨z3, fun lm hlm => ?_⟩⟩
    · have e8 := Same.new (o := .lst [.ref r, .ref l6, .non]) hlm
      have c8 := Dw.of_same c2.dk ((s1d.trans e7).trans e8)
      exact q lm l6 r .non g0 [.ref t6] _ _ (c2.trans c8) upd_same (hR.same c8.same) g0_ok g0_cl (SqL.of (((s1c.trans e7).trans e8) _ _ upd_same)) (.cons (R6.same ((s1c.trans e7).trans e8)) .nil) (by simp) (by simp) one
    · have e8 := Same.new (o := .lst [.ref r, .ref l6, (.ref td)]) hlm
      have c8 := Dw.of_same c2.dk ((s1d.trans e7).trans e8)
      exact q lm l6 r (.ref td) g0 [.ref t6] _ _ (c2.trans c8) upd_same (hR.same c8.same) g0_ok g0_cl (SqL.of (((s1c.trans e7).trans e8) _ _ upd_same)) (.cons (R6.same ((s1c.trans e7).trans e8)) .nil) (by simp) (by simp) one
end Sk

/-! Sk: a game does not lie in the deck. -/
namespace Sk
open PySem L2 PySem.Spec PyProof.Rows
variable {P : Program} {w : World} {K : PySem.W.Frag} {mg : Str → Option Value} {base : Heap}
section
variable {D : Dk} {H : Hp} {G : GD}
/-- what no deck holds -/
def NoDk (xs : List V) : Prop := ∀ (s : Addr) (i : Int) r, xs ≠ .ref s :: .int i :: r
theorem Deck.tkw (d : Deck D H) : TK K H (wo D H) := fun b xs h => by
  obtain ⟨ys, e⟩ := d.some
  rcases h with (h | ⟨u, h⟩) | h
  · exact .inl (.inl (wo_get (fun z => by rw [z, e] at h; cases h) h))
  · exact .inl (.inr ⟨u, wo_get (fun z => by rw [z, e] at h; cases h) h⟩)
  · exact .inr h
theorem Deck.seqw (d : Deck D H) {b : Addr} {xs : List V} (h : SqL K H b xs) (hn : NoDk xs) : SqL K (wo D H) b xs := by
  obtain ⟨i, j, k, e, _⟩ := d.at_
  rcases h with (h | ⟨u, h⟩) | h
  · refine .inl (.inl (wo_get (fun z => ?_) h))
    rw [z, e] at h
    injection h with h
    injection h with h
    exact hn _ _ _ h.symm
  · exact .inl (.inr ⟨u, wo_get (fun z => by rw [z, e] at h; cases h) h⟩)
  · exact .inr h
theorem noDk_ints (ns : List Int) : NoDk (ns.map V.int) := fun s i r e => by
  cases ns with
  | nil => cases e
  | cons n ns => cases e
theorem noDk_pgs {vs : List V} {ps : List Pg} (h : PgRs K H vs ps) : NoDk vs := fun s i r e => by
  subst e
  cases h with
  | cons h1 h2 =>
    cases h2 with
    | cons h3 h4 => cases h3
theorem noDk_all {α : Type} {E : V → α → Prop} (hE : ∀ i x, ¬ E (.int i) x) {vs : List V} {bs : List α} (h : All2 E vs bs) : NoDk vs := fun s i r e => by
  subst e
  cases h with
  | cons h1 h2 =>
    cases h2 with
    | cons h3 h4 => exact hE _ _ h3
mutual
theorem Deck.pgw (a : Deck D H) : ∀ (q : Pg) (v : V), PgR K H v q → PgR K (wo D H) v q
  | .go _, _, h => by
    cases h with
    | one h1 h2 => simp at h2
    | go h => exact .go (a.tkw _ _ h)
  | .empty, _, h => by cases h with | one h1 h2 => exact .one (a.tkw _ _ h1) h2
  | .own, _, h => by cases h with | one h1 h2 => exact .one (a.tkw _ _ h1) h2
  | .foe, _, h => by cases h with | one h1 h2 => exact .one (a.tkw _ _ h1) h2
  | .take, _, h => by cases h with | one h1 h2 => exact .one (a.tkw _ _ h1) h2
  | .rest, _, h => by cases h with | one h1 h2 => exact .one (a.tkw _ _ h1) h2
  | .kin _, _, h => by
    cases h with
    | one h1 h2 => simp at h2
    | kin h => exact .kin (a.tkw _ _ h)
  | .lay _, _, h => by
    cases h with
    | one h1 h2 => simp at h2
    | lay h => exact .lay (a.tkw _ _ h)
  | .row ps, _, h => by
    cases h with
    | one h1 h2 => simp at h2
    | row h1 h2 h3 => exact .row (a.tkw _ _ h1) (a.seqw h2 (noDk_pgs h3)) (Deck.pgsw a ps _ h3)
  | .either ps, _, h => by
    cases h with
    | one h1 h2 => simp at h2
    | either h1 h2 h3 => exact .either (a.tkw _ _ h1) (a.seqw h2 (noDk_pgs h3)) (Deck.pgsw a ps _ h3)
  | .any p, _, h => by
    cases h with
    | one h1 h2 => simp at h2
    | any h1 h2 => exact .any (a.tkw _ _ h1) (Deck.pgw a p _ h2)
theorem Deck.pgsw (a : Deck D H) : ∀ (ps : List Pg) (vs : List V), PgRs K H vs ps → PgRs K (wo D H) vs ps
  | [], _, h => by cases h; exact .nil
  | q :: ps, _, h => by
    cases h with
    | cons h1 h2 => exact .cons (Deck.pgw a q _ h1) (Deck.pgsw a ps _ h2)
end
theorem Deck.cow (a : Deck D H) {v : V} {c : Cond} (h : CoR K H v c) : CoR K (wo D H) v c := by
  induction h with
  | lacks h => exact .lacks (a.tkw _ _ h)
  | holds h1 h2 => exact .holds (a.tkw _ _ h1) (a.seqw h2 (noDk_ints _))
  | stuck h => exact .stuck (a.tkw _ _ h)
  | few h => exact .few (a.tkw _ _ h)
  | not h1 _ ih => exact .not (a.tkw _ _ h1) ih
  | and h1 _ _ ih1 ih2 => exact .and (a.tkw _ _ h1) ih1 ih2
  | or h1 _ _ ih1 ih2 => exact .or (a.tkw _ _ h1) ih1 ih2
theorem Deck.wayw (a : Deck D H) {v : V} {r : List Int} (h : WayR K H v r) : WayR K (wo D H) v r := let ⟨b, l, x, e1, h1, h2⟩ := h; ⟨b, l, x, e1, a.tkw _ _ h1, a.seqw h2 (noDk_ints _)⟩
theorem Deck.clw (a : Deck D H) {v : V} {r : Cond × Res} (h : ClR K H v r) : ClR K (wo D H) v r := let ⟨b, x, e1, h1, h2⟩ := h; ⟨b, x, e1, a.tkw _ _ h1, a.cow h2⟩
theorem Deck.ppw (a : Deck D H) {v : V} {r : Pg × Pg} (h : PpR K H v r) : PpR K (wo D H) v r := let ⟨b, x, y, e1, h1, h2, h3⟩ := h; ⟨b, x, y, e1, a.tkw _ _ h1, a.pgw _ _ h2, a.pgw _ _ h3⟩
theorem Deck.game (a : Deck D H) {CG CB g : Addr} (h : GameAt K H CG CB g G) : GameAt K (wo D H) CG CB g G := by
  obtain ⟨b, lk, lc, lp, lw, dx, dy, g1, g2, ⟨⟨wv, w1, w2⟩, ⟨cv, c1, c2⟩, ⟨pv, p1, p2⟩⟩⟩ := h
  obtain ⟨ys, e⟩ := a.some
  refine ⟨b, lk, lc, lp, lw, dx, dy, wo_get (fun z => by rw [z, e] at g1; cases g1) g1, wo_get (fun z => by rw [z, e] at g2; cases g2) g2, ⟨⟨wv, a.seqw w1 (noDk_all ?_ w2), w2.mono fun _ _ z => a.wayw z⟩, ⟨cv, a.seqw c1 (noDk_all ?_ c2), c2.mono fun _ _ z => a.clw z⟩, ⟨pv, a.seqw p1 (noDk_all ?_ p2), p2.mono fun _ _ z => a.ppw z⟩⟩⟩
  · rintro i x ⟨_, _, _, h, _⟩; cases h
  · rintro i x ⟨_, _, h, _⟩; cases h
  · rintro i x ⟨_, _, _, h, _⟩; cases h
theorem BookAt.on {H' : Hp} (a : Dw D H H') (d : Deck D H) {b : Addr} {ks : List Psn} {B : Psn → Val} (h : BookAt w K H b ks B) : BookAt w K H' b ks B := by
  obtain ⟨kvs, DD, hk, hv⟩ := h.ex
  obtain ⟨φ, e1⟩ := DD.some
  obtain ⟨ys, e⟩ := d.some
  have ne : b ≠ D.dk := fun z => by rw [z, e] at e1; cases e1
  exact ⟨kvs, DD.fut (Dw.tk d a) ((a.at_ ne e1).trans e1.symm), hk, fun q hq => let ⟨v, h1, h2⟩ := hv q hq; ⟨v, h1, h2.fut (Dw.tk d a)⟩⟩
end
end Sk

/-! Sk: the law's play. -/
namespace Sk
open PySem L2 PySem.Spec PyProof.Rows
variable {P : Program} {w : World} {K : PySem.W.Frag} {mg : Str → Option Value} {base : Heap}

def keeps (kp : Int) (q : Psn) : Prop := kp = 2 ∨ q.t = kp
/-- what a play keeps true -/
structure Inv0 (G : GD) (B : Psn → Val) (ks : List Psn) (kp : Int) (I : Nat → Psn → Prop) : Prop where
  kept : ∀ i q r, I i q → q ∈ ks → ovF G q = none → keeps kp q → r ∈ nxF G q → B r = dueF (B q) → I (i + 1) r
  free : ∀ i q r, I i q → q ∈ ks → ovF G q = none → ¬ keeps kp q → r ∈ nxF G q → I (i + 1) r
theorem keep_some {G : GD} {B : Psn → Val} {ks : List Psn} (b : Book G ks B) {q : Psn} (hq : q ∈ ks) (ho : ovF G q = none) : keepF B q (nxF G q) ≠ [] := by
  intro e
  have no : ∀ r ∈ nxF G q, ¬ B r = dueF (B q) := fun r hr h => by
    have z : r ∈ keepF B q (nxF G q) := List.mem_filter.mpr ⟨hr, decide_eq_true h⟩
    rw [e] at z
    cases z
  cases hv : B q with
  | drawn =>
    obtain ⟨_, r, hr, h⟩ := b.drawn q hq hv ho
    exact no r hr (by rw [hv]; exact h)
  | val wn n =>
    cases wn with
    | true =>
      obtain ⟨_, r, hr, h⟩ := b.won q hq n hv ho
      exact no r hr (by rw [hv]; exact h)
    | false =>
      obtain ⟨_, _, r, hr, h⟩ := b.lost q hq n hv ho
      exact no r hr (by rw [hv]; exact h)
theorem noDk_rs {H : Hp} {vs : List V} {bs : List Psn} (h : Rs K H vs bs) : NoDk vs := fun s i r e => by
  subst e
  obtain ⟨b, _, hb⟩ := h.get (i := 1) (v := .int i) rfl
  obtain ⟨_, _, h, _⟩ := hb.pos
  cases h
def sp_L_played (w : World) (K : PySem.W.Frag) (T : Top K mg) : Sp := fun vs H Q _ => ∃ (D : Dk) (g d : Addr) (u : V) (kp : Int) (G : GD) (ks : List Psn) (B : Psn → Val) (p : Psn) (I : Nat → Psn → Prop), vs = [.ref D.dk, .ref g, .ref d, u, .int kp] ∧ Deck D H ∧ GameAt K (wo D H) T.c_Game T.c_Board g G ∧ GOk G ∧ ClOk G ∧ TabOk1 G ks ∧ Book G ks B ∧ BookAt w K H d ks B ∧ R K H u p ∧ p ∈ ks ∧ I 0 p ∧ Inv0 G B ks kp I ∧
  ∀ (l : Addr) (v : V) (i : Nat) (q : Psn) (H' : Hp), Dw D H H' → H' l = some (.lst [.int i, v]) → R K H' v q → q ∈ ks → I i q → i ≤ 24 → (ovF G q = none → i = 24) → Q (.ref l) H'
theorem ok_L_played (T : Top K mg) : FnOk P w K mg base CX0 37 T.L_played.a T.L_played.fd P_L_played (sp_L_played w K T) := by
  refine T.L_played.F.ok sc_L_played (fun vs H Q E h => ?_) (fun cdv A outer s H vs Q E hr hh => ?_)
  · obtain ⟨_, _, _, _, _, _, _, _, _, _, rfl, _⟩ := h; rfl
  obtain ⟨D, g, d, u, kp, G, ks, B, p, I, rfl, dk, hg, gok, clok, tab, bk, hb, hp, pk, i0, iv, q⟩ := hh
  have nd := sc_L_played.nd
  have hu := hu64 hr
  have z0 : 0 ≤ sizeLine := by decide
  have z2 : 2 ≤ sizeLine := by decide
  refine ⟨_, (pss_cons (ps_set (i := 5) nd rfl (Or.inl rfl) pe_int)
    (pss_cons (ps_for PassesOwn.never rfl (pi_range1 rfl T.z_range (pa_cons pe_int pa_nil)) (pg_name (i := 6) nd rfl (Or.inl rfl))
      (pss_cons (ps_if (pt_cmpR op_notN (pe_call (ok_over_value T) (hr.mono (by decide)) rfl T.over_value.m T.over_value.k T.over_value.b .nil pass0 (pa_cons (pv 1) (pa_cons (pv 3) pa_nil))) pe_non (nomark _))
        (pss_one (ps_ret (pe_lst (pa_cons (pv 5) (pa_cons (pv 3) pa_nil)))))
        pss_nil)
      (pss_cons (ps_set (i := 7) nd rfl (Or.inl rfl) (pe_call (ok_next_positions T) (hr.mono (by decide)) rfl T.next_positions.m T.next_positions.k T.next_positions.b .nil pass0 (pa_cons (pv 1) (pa_cons (pv 3) pa_nil))))
      (pss_cons (ps_set (i := 8) nd rfl (Or.inl rfl) (pv 7))
      (pss_cons (ps_if (PW.pt (pw_or (pt_cmpR op_eq (pv 4) pe_int (nomark _)) (pw_or1 (pt_cmpR op_eq (pe_ix ix_tup (pv 3) pe_int (fun _ _ => rfl)) (pv 4) (nomark _)))))
        (pss_cons (ps_set (i := 8) nd rfl (Or.inl rfl) (pe_call (ok_L_keeping T) (hr.mono (by decide)) rfl T.L_keeping.m T.L_keeping.k T.L_keeping.b .nil pass0 (pa_cons (pv 2) (pa_cons (pv 3) (pa_cons (pv 7) pa_nil)))))
        (pss_one (ps_if (pt_cmpR (op_eqL Psn hu) (pv 8) (pe_lst pa_nil) (nomark _))
          (pss_one (ps_ret pe_non))
          pss_nil)))
        pss_nil)
      (pss_cons (ps_set (i := 3) nd rfl (Or.inl rfl) (pe_ix ix_list (pv 8) (pe_call (ok_L_draw T) (hr.mono (by decide)) rfl T.L_draw.m T.L_draw.k T.L_draw.b .nil pass0 (pa_cons (pv 0) (pa_cons (pe_callB call_len_seq rfl T.z_len PySem.boot_len (pa_cons (pv 8) pa_nil)) pa_nil))) (fun _ _ => rfl)))
      (pss_one (ps_set (i := 5) nd rfl (Or.inl rfl) (pe_op op_add (pv 5) pe_int)))))))))
    (pss_one (ps_ret (pe_lst (pa_cons (pv 5) (pa_cons (pv 3) pa_nil))))))), ?_⟩
  refine ⟨24, rfl, by decide, by decide, ?_⟩
  refine for_range (lo := 0) (n := (24 : Int).toNat) (fun i σ H1 => ∃ v x6 x7 x8 c, σ = [some (.ref D.dk), some (.ref g), some (.ref d), some v, some (.int kp), some (.int (i : Nat)), x6, x7, x8] ∧ Dw D H H1 ∧ R K H1 v c ∧ c ∈ ks ∧ I i c)
    ⟨u, _, _, _, p, rfl, Dw.rfl' dk, hp, pk, i0⟩ (fun i σ H1 hi hP => ?_) (fun σ H1 hP => ?_)
  · obtain ⟨v, x6, x7, x8, c, rfl, c1, rv, ck, iC⟩ := hP
    have hi : i < 24 := hi
    have g1 := GameAt.same (c1.same.trans wo_sub) hg
    have cok := tab.ok c ck
    refine ⟨_, rfl, _, rfl, g, G, v, c, rfl, g1, gok, clok, rv, cok, fun ov H2 e2 hov => ?_⟩
    cases ho : ovF G c with
    | some x =>
      rw [ho] at hov
      obtain ⟨a, rfl⟩ : ∃ a, ov = .ref a := by
        cases x with
        | drawn => obtain ⟨a, h, _⟩ := R.drawn hov; exact ⟨a, h⟩
        | val wn n => obtain ⟨a, h, _⟩ := R.val hov; exact ⟨a, h⟩
      refine ⟨rfl, _, rfl, ite2 (fun _ => ?_) (fun c => absurd rfl c)⟩
      exact ⟨_, rfl, _, rfl, z2, fun l hl => q l v i c _ (c1.trans (Dw.of_same c1.dk (e2.trans (Same.new hl)))) upd_same ((rv.same e2).same (Same.new hl)) ck iC (by omega) fun h => by rw [ho] at h; cases h⟩
    | none =>
      rw [ho] at hov
      subst hov
      refine ⟨rfl, _, rfl, ite2 (fun c => absurd c (by decide)) (fun _ => ?_)⟩
      refine ⟨_, rfl, _, rfl, g, G, v, c, rfl, g1.same e2, gok, clok, rv.same e2, cok, fun lf xs bs H3 e3 n3 hl3 hx3 nd3 k3 => ?_⟩
      rw [(nxF_is nd3 k3).symm] at hx3
      have e23 := e2.trans e3
      have nf := nxF_facts gok cok
      have hb3 := (hb.on c1 dk).same e23
      have rv3 := rv.same e23
      have c3 := c1.trans (Dw.of_same c1.dk e23)
      obtain ⟨pa, pb, rfl, hpa, hpb⟩ := rv3.pos
      refine ⟨_, rfl, _, rfl, rfl, _, rfl, ite2 (fun c2 => ?_) (fun c2 => ?_)⟩
      · have c2 : kp = 2 := by simpa using c2
        refine ⟨_, rfl, _, rfl, _, rfl, d, lf, .ref pa, c, ks, B, xs, nxF G c, rfl, hb3, rv3, ck, SqL.of hl3, hx3, tab.cl c ck, nf.2.1, fun l2 ys H4 e4 hl4 hx4 => ?_⟩
        refine ⟨_, rfl, z0, fun l5 hl5 => ?_⟩
        have e5 := Same.new (o := .lst []) hl5
        have kne := keep_some bk ck ho
        refine ⟨keepF B c (nxF G c), l2, l5, ys, rfl, SqL.of (e5 _ _ hl4), hx4.same e5, rfl, SqL.of upd_same, _, rfl, ite2 (fun cc => absurd (of_decide_eq_true cc) kne) (fun _ => ?_)⟩
        have c5 := c1.trans (Dw.of_same c1.dk (e23.trans (e4.trans e5)))
        have hl45 := e5 _ _ hl4
        have hx45 := hx4.same e5
        obtain ⟨hpos, hlen⟩ : 0 < ys.length ∧ ys.length ≤ 45 := ⟨by rw [hx45.length]; exact List.length_pos_iff.mpr kne, by rw [hx45.length]; exact Nat.le_trans (List.length_filter_le _ _) nf.2.1⟩
        refine ⟨_, rfl, _, rfl, _, rfl, l2, ys, rfl, .inl (SqL.of hl45), D, (ys.length : Int), rfl, (c5).dk, by omega, by omega, fun j H6 j0 j1 w6 => ?_⟩
        have ld : l2 ≠ D.dk := fun z => by
          obtain ⟨i9, j9, k9, e9, _⟩ := (c5).dk.at_
          have e8 := hl45
          rw [z, e9] at e8
          injection e8 with e8
          injection e8 with e8
          exact noDk_rs hx45 _ _ _ e8.symm
        have hl6 := w6.at_ ld hl45
        have hj : j.toNat < ys.length := by omega
        obtain ⟨r, hr0, hR⟩ := (hx45).get (List.getElem?_eq_getElem hj)
        have hrm := List.mem_of_getElem? hr0
        refine ⟨l2, _, _, _, rfl, rfl, SqL.of hl6, at_vs j0 (List.getElem?_eq_getElem hj), _, rfl, _, _, rfl, rfl, ?_⟩
        exact ⟨_, _, _, _, r, rfl, (c5).trans w6, hR.fut (Dw.tk (c5).dk w6), tab.cl c ck r (List.mem_filter.mp hrm).1, iv.kept i c r iC ck ho (.inl c2) (List.mem_filter.mp hrm).1 (of_decide_eq_true (List.mem_filter.mp hrm).2)⟩
      · have c2 : ¬ kp = 2 := by simpa using c2
        refine ⟨_, rfl, pa, _, _, _, rfl, rfl, hpa, at_0, _, rfl, rfl, _, rfl, ite2 (fun c4 => ?_) (fun c4 => ?_)⟩
        · have c4 : c.t = kp := by simpa using c4
          refine ⟨_, rfl, _, rfl, _, rfl, d, lf, .ref pa, c, ks, B, xs, nxF G c, rfl, hb3, rv3, ck, SqL.of hl3, hx3, tab.cl c ck, nf.2.1, fun l2 ys H4 e4 hl4 hx4 => ?_⟩
          refine ⟨_, rfl, z0, fun l5 hl5 => ?_⟩
          have e5 := Same.new (o := .lst []) hl5
          have kne := keep_some bk ck ho
          refine ⟨keepF B c (nxF G c), l2, l5, ys, rfl, SqL.of (e5 _ _ hl4), hx4.same e5, rfl, SqL.of upd_same, _, rfl, ite2 (fun cc => absurd (of_decide_eq_true cc) kne) (fun _ => ?_)⟩
          have c5 := c1.trans (Dw.of_same c1.dk (e23.trans (e4.trans e5)))
          have hl45 := e5 _ _ hl4
          have hx45 := hx4.same e5
          obtain ⟨hpos, hlen⟩ : 0 < ys.length ∧ ys.length ≤ 45 := ⟨by rw [hx45.length]; exact List.length_pos_iff.mpr kne, by rw [hx45.length]; exact Nat.le_trans (List.length_filter_le _ _) nf.2.1⟩
          refine ⟨_, rfl, _, rfl, _, rfl, l2, ys, rfl, .inl (SqL.of hl45), D, (ys.length : Int), rfl, (c5).dk, by omega, by omega, fun j H6 j0 j1 w6 => ?_⟩
          have ld : l2 ≠ D.dk := fun z => by
            obtain ⟨i9, j9, k9, e9, _⟩ := (c5).dk.at_
            have e8 := hl45
            rw [z, e9] at e8
            injection e8 with e8
            injection e8 with e8
            exact noDk_rs hx45 _ _ _ e8.symm
          have hl6 := w6.at_ ld hl45
          have hj : j.toNat < ys.length := by omega
          obtain ⟨r, hr0, hR⟩ := (hx45).get (List.getElem?_eq_getElem hj)
          have hrm := List.mem_of_getElem? hr0
          refine ⟨l2, _, _, _, rfl, rfl, SqL.of hl6, at_vs j0 (List.getElem?_eq_getElem hj), _, rfl, _, _, rfl, rfl, ?_⟩
          exact ⟨_, _, _, _, r, rfl, (c5).trans w6, hR.fut (Dw.tk (c5).dk w6), tab.cl c ck r (List.mem_filter.mp hrm).1, iv.kept i c r iC ck ho (.inr c4) (List.mem_filter.mp hrm).1 (of_decide_eq_true (List.mem_filter.mp hrm).2)⟩
        · have c4 : ¬ c.t = kp := by simpa using c4
          have nne := nxF_some gok cok ho
          obtain ⟨hpos, hlen⟩ : 0 < xs.length ∧ xs.length ≤ 45 := ⟨by rw [hx3.length]; exact List.length_pos_iff.mpr nne, by rw [hx3.length]; exact nf.2.1⟩
          refine ⟨_, rfl, _, rfl, _, rfl, lf, xs, rfl, .inl (SqL.of hl3), D, (xs.length : Int), rfl, (c3).dk, by omega, by omega, fun j H6 j0 j1 w6 => ?_⟩
          have ld : lf ≠ D.dk := fun z => by
            obtain ⟨i9, j9, k9, e9, _⟩ := (c3).dk.at_
            have e8 := hl3
            rw [z, e9] at e8
            injection e8 with e8
            injection e8 with e8
            exact noDk_rs hx3 _ _ _ e8.symm
          have hl6 := w6.at_ ld hl3
          have hj : j.toNat < xs.length := by omega
          obtain ⟨r, hr0, hR⟩ := (hx3).get (List.getElem?_eq_getElem hj)
          have hrm := List.mem_of_getElem? hr0
          refine ⟨lf, _, _, _, rfl, rfl, SqL.of hl6, at_vs j0 (List.getElem?_eq_getElem hj), _, rfl, _, _, rfl, rfl, ?_⟩
          exact ⟨_, _, _, _, r, rfl, (c3).trans w6, hR.fut (Dw.tk (c3).dk w6), tab.cl c ck r hrm, iv.free i c r iC ck ho (fun z => z.elim c2 c4) hrm⟩
  · obtain ⟨v, x6, x7, x8, c, rfl, c1, rv, ck, iC⟩ := hP
    exact ⟨_, rfl, _, rfl, z2, fun l hl => q l v 24 c _ (c1.trans (Dw.new c1.dk hl)) upd_same (rv.same (Same.new hl)) ck iC (Nat.le_refl _) fun _ => rfl⟩
end Sk

/-! Sk: what a play keeps, in plain Lean. -/
namespace Sk
open PySem L2 PySem.Spec PyProof.Rows
variable {G : GD} {B : Psn → Val} {ks : List Psn}

theorem inv_true (kp : Int) : Inv0 G B ks kp fun _ _ => True := ⟨fun _ _ _ _ _ _ _ _ _ => trivial, fun _ _ _ _ _ _ _ _ => trivial⟩
/-- both keep to the book: the rank falls by one a move -/
theorem inv_both (b : Book G ks B) (k : Int) : Inv0 G B ks 2 fun i q => ∃ wn, B q = .val wn (k - i) := by
  refine ⟨fun i q r h hq ho _ hr he => ?_, fun i q r _ _ _ hn _ => absurd (.inl rfl) hn⟩
  obtain ⟨wn, h⟩ := h
  rw [h] at he
  have e : k - (i : Int) - 1 = k - ((i + 1 : Nat) : Int) := by omega
  cases wn with
  | true => exact ⟨false, by rw [he, ← e]; rfl⟩
  | false => exact ⟨true, by rw [he, ← e]; rfl⟩
theorem end_both (b : Book G ks B) {k : Int} (hk : k ≤ 24) {i : Nat} {q : Psn} (hq : q ∈ ks) (h : ∃ wn, B q = .val wn (k - i)) (hi : ovF G q = none → i = 24) : (i : Int) = k := by
  obtain ⟨wn, h⟩ := h
  cases ho : ovF G q with
  | some v =>
    have e := b.over q hq v ho
    rw [h] at e
    rcases ovF_kind ho with z | z | z <;> subst z <;> injection e <;> omega
  | none =>
    have i24 := hi ho
    cases wn with
    | true => have := (b.won q hq _ h ho).1; omega
    | false => have := (b.lost q hq _ h ho).1; omega
/-- the side that keeps has won -/
def Iwon (B : Psn → Val) (sd k : Int) (i : Nat) (q : Psn) : Prop := (q.t = sd → ∃ n, B q = .val true n ∧ n + i ≤ k) ∧ (¬ q.t = sd → ∃ n, B q = .val false n ∧ n + i ≤ k)
theorem inv_won (g : GOk G) (tab : TabOk1 G ks) (b : Book G ks B) {sd : Int} (s01 : sd = 0 ∨ sd = 1) (k : Int) : Inv0 G B ks sd (Iwon B sd k) := by
  have turn : ∀ q r, q ∈ ks → r ∈ nxF G q → (q.t = 0 ∨ q.t = 1) ∧ r.t = 1 - q.t := fun q r hq hr => ⟨(tab.ok q hq).t, (nxF_ok g (tab.ok q hq) hr).2⟩
  refine ⟨fun i q r h hq ho hk hr he => ?_, fun i q r h hq ho hk hr => ?_⟩
  · have hk : q.t = sd := hk.elim (fun z => by omega) id
    obtain ⟨n, h1, h2⟩ := h.1 hk
    obtain ⟨t1, t2⟩ := turn q r hq hr
    rw [h1] at he
    exact ⟨fun z => by omega, fun _ => ⟨n - 1, he, by omega⟩⟩
  · have hk : ¬ q.t = sd := fun z => hk (.inr z)
    obtain ⟨n, h1, h2⟩ := h.2 hk
    obtain ⟨t1, t2⟩ := turn q r hq hr
    obtain ⟨m, h3, h4⟩ := (b.lost q hq n h1 ho).2.1 r hr
    exact ⟨fun _ => ⟨m, h3, by omega⟩, fun z => by omega⟩
theorem end_won (b : Book G ks B) {sd k : Int} (hk : k < 24) {i : Nat} {q : Psn} (hq : q ∈ ks) (h : Iwon B sd k i q) (hi : ovF G q = none → i = 24) : (i : Int) ≤ k ∧ ovF G q = some (.val (decide (q.t = sd)) 0) := by
  by_cases c : q.t = sd
  · obtain ⟨n, h1, h2⟩ := h.1 c
    have n0 := b.nn q hq true n h1
    refine ⟨by omega, ?_⟩
    cases ho : ovF G q with
    | some v =>
      have e := b.over q hq v ho
      rw [h1] at e
      rcases ovF_kind ho with z | z | z <;> subst z
      · cases e
      · simp [c]
      · cases e
    | none =>
      have i24 := hi ho
      have := (b.won q hq _ h1 ho).1
      omega
  · obtain ⟨n, h1, h2⟩ := h.2 c
    have n0 := b.nn q hq false n h1
    refine ⟨by omega, ?_⟩
    cases ho : ovF G q with
    | some v =>
      have e := b.over q hq v ho
      rw [h1] at e
      rcases ovF_kind ho with z | z | z <;> subst z
      · cases e
      · cases e
      · simp [c]
    | none =>
      have i24 := hi ho
      have := (b.lost q hq _ h1 ho).1
      omega
/-- the side that keeps has not lost -/
def Idrawn (B : Psn → Val) (sd : Int) (i : Nat) (q : Psn) : Prop := (q.t = sd → ∀ n, ¬ B q = .val false n) ∧ (¬ q.t = sd → ∀ n, ¬ B q = .val true n)
theorem inv_drawn (g : GOk G) (tab : TabOk1 G ks) (b : Book G ks B) {sd : Int} (s01 : sd = 0 ∨ sd = 1) : Inv0 G B ks sd (Idrawn B sd) := by
  have turn : ∀ q r, q ∈ ks → r ∈ nxF G q → (q.t = 0 ∨ q.t = 1) ∧ r.t = 1 - q.t := fun q r hq hr => ⟨(tab.ok q hq).t, (nxF_ok g (tab.ok q hq) hr).2⟩
  refine ⟨fun i q r h hq ho hk hr he => ?_, fun i q r h hq ho hk hr => ?_⟩
  · have hk : q.t = sd := hk.elim (fun z => by omega) id
    have h1 := h.1 hk
    obtain ⟨t1, t2⟩ := turn q r hq hr
    refine ⟨fun z => by omega, fun _ n e => ?_⟩
    rw [e] at he
    cases hv : B q with
    | drawn => rw [hv] at he; cases he
    | val wn m =>
      cases wn with
      | true => rw [hv] at he; cases he
      | false => exact h1 m hv
  · have hk : ¬ q.t = sd := fun z => hk (.inr z)
    have h1 := h.2 hk
    obtain ⟨t1, t2⟩ := turn q r hq hr
    refine ⟨fun _ n e => ?_, fun z => by omega⟩
    cases hv : B q with
    | drawn => exact (b.drawn q hq hv ho).1 r hr n e
    | val wn m =>
      cases wn with
      | true => exact h1 m hv
      | false =>
        obtain ⟨m', h3, _⟩ := (b.lost q hq m hv ho).2.1 r hr
        rw [h3] at e
        cases e
theorem end_drawn (b : Book G ks B) {sd : Int} {i : Nat} {q : Psn} (hq : q ∈ ks) (h : Idrawn B sd i q) {v : Val} (ho : ovF G q = some v) : ¬ v = .val (decide (¬ q.t = sd)) 0 := by
  intro e
  have z := b.over q hq v ho
  rw [e] at z
  by_cases c : q.t = sd
  · exact h.1 c 0 (by rw [z]; simp [c])
  · exact h.2 c 0 (by rw [z]; simp [c])
end Sk

/-! Sk: the law. -/
namespace Sk
open PySem L2 PySem.Spec PyProof.Rows
variable {P : Program} {w : World} {K : PySem.W.Frag} {mg : Str → Option Value} {base : Heap}

theorem Inv0.all {G : GD} {B : Psn → Val} {ks : List Psn} {kp : Int} {α : Type} {C : α → Prop} {I : α → Nat → Psn → Prop} (h : ∀ x, Inv0 G B ks kp (I x)) : Inv0 G B ks kp (fun i q => ∀ x, C x → I x i q) :=
  ⟨fun i q r hI a b c d e x hx => (h x).kept i q r (hI x hx) a b c d e, fun i q r hI a b c d x hx => (h x).free i q r (hI x hx) a b c d⟩
theorem Inv0.and {G : GD} {B : Psn → Val} {ks : List Psn} {kp : Int} {I J : Nat → Psn → Prop} (h : Inv0 G B ks kp I) (k : Inv0 G B ks kp J) : Inv0 G B ks kp (fun i q => I i q ∧ J i q) :=
  ⟨fun i q r hI a b c d e => ⟨h.kept i q r hI.1 a b c d e, k.kept i q r hI.2 a b c d e⟩, fun i q r hI a b c d => ⟨h.free i q r hI.1 a b c d, k.free i q r hI.2 a b c d⟩⟩
def sp_law (K : PySem.W.Frag) : Sp := fun vs H Q _ => ∃ (a : Addr) (ns : List Int), vs = [.ref a] ∧ SqL K H a (ns.map .int) ∧ ∀ H', Q (.bl true) H'
set_option maxHeartbeats 16000000 in
theorem ok_law (T : Top K mg) : FnOk P w K mg base CX0 39 T.law.a T.law.fd P_law (sp_law K) := by
  refine T.law.F.ok sc_law (fun vs H Q E h => ?_) (fun cdv A outer s H vs Q E hr hh => ?_)
  · obtain ⟨_, _, rfl, _⟩ := h; rfl
  obtain ⟨a, ns, rfl, ha, q⟩ := hh
  have nd := sc_law.nd
  have hu := hu64 hr
  have z0 : 0 ≤ sizeLine := by decide
  have z2 : 2 ≤ sizeLine := by decide
  refine ⟨_, (pss_cons (ps_set (i := 1) nd rfl (Or.inl rfl) (pe_call (ok_L_deck T) (hr.mono (by decide)) rfl T.L_deck.m T.L_deck.k T.L_deck.b .nil pass0 (pa_cons (pv 0) pa_nil)))
    (pss_cons (ps_set (i := 2) nd rfl (Or.inl rfl) (pe_call (ok_L_small T) (hr.mono (by decide)) rfl T.L_small.m T.L_small.k T.L_small.b .nil pass0 (pa_cons (pv 1) (pa_cons pe_int pa_nil))))
    (pss_cons (ps_set (i := 3) nd rfl (Or.inl rfl) (pe_call (ok_L_game T) (hr.mono (by decide)) rfl T.L_game.m T.L_game.k T.L_game.b .nil pass0 (pa_cons (pe_ix ix_list (pv 2) pe_int (fun _ _ => rfl)) pa_nil)))
    (pss_cons (ps_set (i := 4) nd rfl (Or.inl rfl) (pe_call (ok_solve T) (hr.mono (by decide)) rfl T.solve.m T.solve.k T.solve.b .nil pass0 (pa_cons (pv 3) (pa_cons (pe_callTy call_list_of rfl T.z_list (by decide +kernel) (pa_cons (pe_ix ix_list (pv 2) pe_int (fun _ _ => rfl)) pa_nil)) pa_nil))))
    (pss_cons (ps_set (i := 5) nd rfl (Or.inl rfl) (pe_callB (cr_sortL Psn hu) rfl T.z_sorted (by decide +kernel) (pa_cons (pe_callTy (cr_listD Psn rfl) rfl T.z_list (by decide +kernel) (pa_cons (pv 4) pa_nil)) pa_nil)))
    (pss_cons (ps_for PassesOwn.never rfl (pi_range1 rfl T.z_range (pa_cons pe_int pa_nil)) (pg_name (i := 6) nd rfl (Or.inl rfl))
      (pss_cons (ps_set (i := 7) nd rfl (Or.inl rfl) (pe_ix ix_list (pv 5) (pe_call (ok_L_draw T) (hr.mono (by decide)) rfl T.L_draw.m T.L_draw.k T.L_draw.b .nil pass0 (pa_cons (pv 1) (pa_cons (pe_callB call_len_seq rfl T.z_len PySem.boot_len (pa_cons (pv 5) pa_nil)) pa_nil))) (fun _ _ => rfl)))
      (pss_cons (ps_set (i := 8) nd rfl (Or.inl rfl) (pe_nget Psn hu (pv 4) (pv 7) (fun _ _ => rfl)))
      (pss_cons (ps_set (i := 9) nd rfl (Or.inl rfl) (pe_ix ix_tup (pv 7) pe_int (fun _ _ => rfl)))
      (pss_cons (ps_set (i := 10) nd rfl (Or.inl rfl) (pe_call (ok_L_played T) (hr.mono (by decide)) rfl T.L_played.m T.L_played.k T.L_played.b .nil pass0 (pa_cons (pv 1) (pa_cons (pv 3) (pa_cons (pv 4) (pa_cons (pv 7) (pa_cons pe_int pa_nil)))))))
      (pss_cons (ps_if (PW.pt (pw_or (pt_cmpR op_isN (pv 10) pe_non (nomark _)) (pw_or1 (PW.pt (pw_and (pt_cmpR op_ne (pe_ix ix_tup (pv 8) pe_int (fun _ _ => rfl)) pe_str (nomark _)) (pw_and (pt_cmpR op_le (pe_ix ix_tup (pv 8) pe_int (fun _ _ => rfl)) pe_int (nomark _)) (pw_and1 (pt_cmpR op_ne (pe_ix ix_list (pv 10) pe_int (fun _ _ => rfl)) (pe_ix ix_tup (pv 8) pe_int (fun _ _ => rfl)) (nomark _)))))))))
        (pss_one (ps_ret pe_bl))
        pss_nil)
      (pss_cons (ps_set (i := 11) nd rfl (Or.inl rfl) (pe_call (ok_L_played T) (hr.mono (by decide)) rfl T.L_played.m T.L_played.k T.L_played.b .nil pass0 (pa_cons (pv 1) (pa_cons (pv 3) (pa_cons (pv 4) (pa_cons (pv 7) (pa_cons (pv 9) pa_nil)))))))
      (pss_cons (ps_set (i := 12) nd rfl (Or.inl rfl) (pe_call (ok_over_value T) (hr.mono (by decide)) rfl T.over_value.m T.over_value.k T.over_value.b .nil pass0 (pa_cons (pv 3) (pa_cons (pe_ix ix_list (pv 11) pe_int (fun _ _ => rfl)) pa_nil))))
      (pss_cons (ps_if (PW.pt (pw_and (pt_cmpR op_eq (pe_ix ix_tup (pv 8) pe_int (fun _ _ => rfl)) pe_str (nomark _)) (pw_and1 (pt_cmpR op_lt (pe_ix ix_tup (pv 8) pe_int (fun _ _ => rfl)) pe_int (nomark _)))))
        (pss_one (ps_if (PW.pt (pw_or (pt_cmpR op_isN (pv 12) pe_non (nomark _)) (pw_or (pt_cmpR op_gt (pe_ix ix_list (pv 11) pe_int (fun _ _ => rfl)) (pe_ix ix_tup (pv 8) pe_int (fun _ _ => rfl)) (nomark _)) (pw_or1 (pt_cmpR (op_neE Val hu) (pv 12) (pe_ix ix_list (pe_lst (pa_cons (pe_tup (pa_cons pe_str (pa_cons pe_int pa_nil))) (pa_cons (pe_tup (pa_cons pe_str (pa_cons pe_int pa_nil))) pa_nil))) (pe_callTy call_int1 rfl T.z_int (by decide +kernel) (pa_cons (pe_cmpR op_ne (pe_ix ix_tup (pe_ix ix_list (pv 11) pe_int (fun _ _ => rfl)) pe_int (fun _ _ => rfl)) (pv 9) (nomark _)) pa_nil)) (fun _ _ => rfl)) (nomark _))))))
          (pss_one (ps_ret pe_bl))
          pss_nil))
        pss_nil)
      (pss_one (ps_if (PW.pt (pw_and (pt_cmpR op_eq (pe_ix ix_tup (pv 8) pe_int (fun _ _ => rfl)) pe_str (nomark _)) (pw_and1 (pt_cmpR op_notN (pv 12) pe_non (nomark _)))))
        (pss_one (ps_if (pt_cmpR (op_eqE Val hu) (pv 12) (pe_ix ix_list (pe_lst (pa_cons (pe_tup (pa_cons pe_str (pa_cons pe_int pa_nil))) (pa_cons (pe_tup (pa_cons pe_str (pa_cons pe_int pa_nil))) pa_nil))) (pe_callTy call_int1 rfl T.z_int (by decide +kernel) (pa_cons (pe_cmpR op_ne (pe_ix ix_tup (pe_ix ix_list (pv 11) pe_int (fun _ _ => rfl)) pe_int (fun _ _ => rfl)) (pv 9) (nomark _)) pa_nil)) (fun _ _ => rfl)) (nomark _))
          (pss_one (ps_ret pe_bl))
          pss_nil))
        pss_nil)))))))))))
    (pss_one (ps_ret pe_bl)))))))), ?_⟩
  refine ⟨_, rfl, a, ns, rfl, ha, fun H1 D e1 dk => ?_⟩
  refine ⟨_, rfl, D, rfl, dk, fun lm ls r tv G xs ps H2 w2 hlm hR gok clok hls hps pne p10 pok => ?_⟩
  refine ⟨_, rfl, lm, _, _, _, rfl, rfl, SqL.of hlm, at_0, r, G, rfl, hR.same wo_sub, by have := gok.few; omega, fun g H3 e3 hg => ?_⟩
  have w3 := Dw.of_same w2.dk e3
  refine ⟨_, rfl, _, rfl, lm, _, _, _, rfl, rfl, SqL.of (e3 _ _ hlm), at_1, ls, xs, rfl, .inl (e3.seq hls), fun l4 hl4 => ?_⟩
  have e4 := Same.new (o := .lst xs) hl4
  have w4 := w3.trans (Dw.of_same w3.dk e4)
  refine ⟨g, l4, G, xs, ps, rfl, hg.same e4, gok, clok, SqL.of upd_same, (hps.same e3).same e4, pok, fun H5 d kvs B e5 DD tab bk sub val => ?_⟩
  have w5 := w4.trans (Dw.of_same w4.dk e5)
  have g5 : GameAt K (wo D H5) T.c_Game T.c_Board g G := Deck.game w5.dk ((hg.same e4).same e5)
  have hb5 : BookAt w K H5 d (keys kvs) B := ⟨kvs, DD, rfl, val⟩
  refine ⟨_, rfl, d, kvs, rfl, DD, fun l6 out hl6 hout => ⟨l6, out, keys kvs, rfl, SqL.of upd_same, hout, fun rl out2 hrl hout2 => ?_⟩⟩
  have e6 := (Same.new (o := .lst out) hl6).trans (Same.new (o := .lst out2) hrl)
  have w6 := Dw.of_same w5.dk e6
  have hb6 := hb5.same e6
  have hrl6 : upd (upd H5 l6 (.lst out)) rl (.lst out2) rl = some (.lst out2) := upd_same
  generalize upd (upd H5 l6 (.lst out)) rl (.lst out2) = H6 at e6 w6 hb6 hrl6 hout2
  have g6 := GameAt.same w6.same g5
  have rld : rl ≠ D.dk := fun z => by
    obtain ⟨i9, j9, k9, e9, _⟩ := w6.dk.at_
    rw [z, e9] at hrl6
    injection hrl6 with e8
    injection e8 with e8
    exact noDk_rs hout2 _ _ _ e8.symm
  have kn : 0 < out2.length ∧ out2.length ≤ 6250 := by
    rw [hout2.length, srt_len]
    obtain ⟨p0, hp0⟩ := List.exists_mem_of_ne_nil _ pne
    refine ⟨List.length_pos_of_mem (sub p0 hp0), Nat.le_trans (nd_le DD.nd fun x hx => mem_univ gok (tab.ok x hx)) (univ_len gok)⟩
  refine ⟨5, rfl, by decide, by decide, ?_⟩
  refine for_range (lo := 0) (n := (5 : Int).toNat) (fun i σ H7 => ∃ x6 x7 x8 x9 x10 x11 x12, σ = [some (.ref a), some (.ref D.dk), some (.ref lm), some (.ref g), some (.ref d), some (.ref rl), x6, x7, x8, x9, x10, x11, x12] ∧ Dw D H6 H7)
    ⟨_, _, _, _, _, _, _, rfl, Dw.rfl' w6.dk⟩ (fun i σ H7 hi hP => ?_) (fun σ H7 hP => ?_)
  · obtain ⟨x6, x7, x8, x9, x10, x11, x12, rfl, c7⟩ := hP
    have dk7 := c7.dk
    have hrl7 := c7.at_ rld hrl6
    have hout7 := hout2.fut (Dw.tk w6.dk c7)
    refine ⟨_, rfl, _, rfl, _, rfl, rl, out2, rfl, .inl (SqL.of hrl7), D, (out2.length : Int), rfl, dk7, by omega, by omega, fun j H8 j0 j1 w8 => ?_⟩
    have c8 := c7.trans w8
    have hj : j.toNat < out2.length := by omega
    have hout8 := hout7.fut (Dw.tk dk7 w8)
    obtain ⟨p, hp0, hR⟩ := hout8.get (List.getElem?_eq_getElem hj)
    have pk : p ∈ keys kvs := srt_mem.mp (List.mem_of_getElem? hp0)
    have hb8 := (hb6.on c8 w6.dk)
    have g8 := GameAt.same c8.same g6
    obtain ⟨pa, pb, hpe, hpa, hpb⟩ := hR.pos
    obtain ⟨kvs8, D8, hk8, hv8⟩ := id hb8.ex
    obtain ⟨va, hva1, hva2⟩ := hv8 p pk
    refine ⟨rl, _, _, _, rfl, rfl, SqL.of (w8.at_ rld hrl7), at_vs j0 (List.getElem?_eq_getElem hj), ?_⟩
    rw [hpe] at hR ⊢
    refine ⟨_, rfl, _, rfl, d, kvs8, p, va, rfl, D8, hR, hva1, _, rfl, pa, _, _, _, rfl, rfl, hpa, at_0, ?_⟩
    have cok := tab.ok p pk
    refine ⟨_, rfl, _, rfl, _, rfl, _, rfl, D, g, d, .ref pa, 2, G, keys kvs, B, p, fun i q => ∀ x : Bool × Int, B p = .val x.1 x.2 → ∃ wn, B q = .val wn (x.2 - i), rfl, c8.dk, g8, gok, clok, tab, bk, hb8, hR, pk, fun x hx => ⟨x.1, by rw [hx]; simp⟩, Inv0.all fun x => inv_both bk x.2, fun l9 v9 i9 q9 H9 w9 hl9 rv9 qk9 I9 i924 hi9 => ?_⟩
    have c9 := c8.trans w9
    have hva9 := hva2.fut (Dw.tk c8.dk w9)
    refine ⟨_, rfl, rfl, _, rfl, ite2 (fun c => nomatch (of_decide_eq_true c : V.ref l9 = V.non)) (fun _ => ?_)⟩
    cases hv : B p with
    | drawn =>
      rw [hv] at hva9
      obtain ⟨av, rfl, hav⟩ := R.drawn hva9
      refine ⟨_, rfl, av, _, _, _, rfl, rfl, hav, at_0, rfl, _, rfl, ite2 (fun c => absurd c (by decide +kernel)) (fun _ => ?_)⟩
      have g9 := GameAt.same w9.same g8
      have hb9 := hb8.on w9 c8.dk
      have hR9 := hR.fut (Dw.tk c8.dk w9)
      refine ⟨_, rfl, _, rfl, _, rfl, _, rfl, _, rfl, D, g, d, .ref pa, p.t, G, keys kvs, B, p, fun i q => (∀ k : Int, B p = .val true k → Iwon B p.t k i q) ∧ (∀ _ : Unit, B p = .drawn → Idrawn B p.t i q), rfl, c9.dk, g9, gok, clok, tab, bk, hb9, hR9, pk, ⟨fun k hk => ⟨fun _ => ⟨k, hk, by omega⟩, fun z => absurd rfl z⟩, fun _ hk => ⟨fun _ n e => (by rw [hk] at e; cases e), fun z => absurd rfl z⟩⟩, Inv0.and (Inv0.all fun k => inv_won gok tab bk cok.t k) (Inv0.all fun _ => inv_drawn gok tab bk cok.t), fun l10 v10 i10 q10 H10 w10 hl10 rv10 qk10 I10 i1024 hi10 => ?_⟩
      have c10 := c9.trans w10
      have g10 := GameAt.same w10.same g9
      have hav10 := Dw.tk c9.dk w10 _ _ hav
      refine ⟨_, rfl, _, rfl, l10, _, _, _, rfl, rfl, SqL.of hl10, at_1, g, G, v10, q10, rfl, GameAt.same wo_sub g10, gok, clok, rv10, tab.ok q10 qk10, fun ov H11 e11 hov => ?_⟩
      have hav11 := seqT e11 hav10
      have e11t := SqL.of (K := K) (e11 _ _ hl10)
      have rv11 := rv10.same e11
      have c11 := c10.trans (Dw.of_same c10.dk e11)
      refine ⟨_, rfl, av, _, _, _, rfl, rfl, hav11, at_0, rfl, _, rfl, ?_⟩
      refine ite2 (fun c => absurd c (by decide +kernel)) (fun _ => ?_)
      refine ⟨_, rfl, av, _, _, _, rfl, rfl, hav11, at_0, rfl, _, rfl, ?_⟩
      refine ite2 (fun _ => ?_) (fun c => absurd (by decide +kernel) c)
      cases ho : ovF G q10 with
      | none =>
        rw [ho] at hov
        subst hov
        refine ⟨_, rfl, rfl, _, rfl, ite2 (fun c => absurd c (by decide)) (fun _ => ?_)⟩
        exact ⟨_, _, _, _, _, _, _, rfl, c11⟩
      | some x =>
        rw [ho] at hov
        obtain ⟨oa, rfl⟩ : ∃ oa, ov = .ref oa := by
          cases x with
          | drawn => obtain ⟨a, h, _⟩ := R.drawn hov; exact ⟨a, h⟩
          | val wn n => obtain ⟨a, h, _⟩ := R.val hov; exact ⟨a, h⟩
        refine ⟨_, rfl, rfl, _, rfl, ite2 (fun _ => ?_) (fun c => absurd rfl c)⟩
        obtain ⟨qa, qb, rfl, hqa, hqb⟩ := rv11.pos
        refine ⟨_, rfl, z2, fun t1 ht1 => ⟨z2, fun t2 ht2 => ⟨z2, fun l3 hl3 => ?_⟩⟩⟩
        have s12 := (Same.new (o := .tup [.str wLost, .int 0]) ht1).trans (Same.new (o := .tup [.str wWon, .int 0]) ht2)
        have s3 := Same.new (o := .lst [.ref t1, .ref t2]) hl3
        have s123 := s12.trans s3
        have hl10' := s123.seq e11t
        have hqa' := seqT s123 hqa
        refine ⟨_, rfl, l10, _, _, _, rfl, rfl, hl10', at_1, qa, _, _, _, rfl, rfl, hqa', at_0, _, rfl, rfl, ?_⟩
        have hd := end_drawn bk qk10 (I10.2 () hv) ho
        have hov3 := hov.same s123
        obtain ⟨ta, hat, hta⟩ : ∃ ta, atI [V.ref t1, V.ref t2] (if (!decide (V.int q10.t = V.int p.t)) = true then 1 else 0) = some (.ref ta) ∧ R K _ (.ref ta) (Val.val (decide (¬ q10.t = p.t)) 0) := by
          by_cases c : q10.t = p.t
          · refine ⟨t1, by simp [c]; exact at_0, ?_⟩
            simp only [c, not_true, decide_false]
            exact R.ofVal (w := false) (seqT ((Same.new ht2).trans s3) (SqT.of upd_same))
          · refine ⟨t2, by simp [c]; exact at_1, ?_⟩
            simp only [c, not_false_eq_true, decide_true]
            exact R.ofVal (w := true) (seqT s3 (SqT.of upd_same))
        refine .inr ⟨_, rfl, l3, _, _, _, rfl, rfl, SqL.of upd_same, hat, x, _, hov3, hta, _, rfl, ite2 (fun cc => absurd (of_decide_eq_true cc) hd) (fun _ => ?_)⟩
        exact ⟨_, _, _, _, _, _, _, rfl, c11.trans (Dw.of_same c11.dk s123)⟩
    | val wn k =>
      rw [hv] at hva9
      obtain ⟨av, rfl, hav⟩ := R.val hva9
      have hk9 : k ≤ 24 → (i9 : Int) = k := fun z => end_both bk z qk9 (I9 (wn, k) hv) hi9
      cases wn with
      | true =>
        refine ⟨_, rfl, av, _, _, _, rfl, rfl, hav, at_0, rfl, _, rfl, ite2 (fun _ => ?_) (fun c => absurd (by decide +kernel) c)⟩
        refine ⟨_, rfl, av, _, _, _, rfl, rfl, hav, at_1, _, _, rfl, rfl, _, rfl, ite2 (fun ck => ?_) (fun ck => ?_)⟩
        · have ck : k ≤ 24 := of_decide_eq_true ck
          have hk9 := hk9 ck
          refine ⟨_, rfl, l9, _, _, _, rfl, rfl, SqL.of hl9, at_0, _, rfl, av, _, _, _, rfl, rfl, hav, at_1, rfl, _, rfl, ite2 (fun cc => absurd (congrArg V.int hk9) (by simpa using cc)) (fun _ => ?_)⟩
          have g9 := GameAt.same w9.same g8
          have hb9 := hb8.on w9 c8.dk
          have hR9 := hR.fut (Dw.tk c8.dk w9)
          refine ⟨_, rfl, _, rfl, _, rfl, _, rfl, _, rfl, D, g, d, .ref pa, p.t, G, keys kvs, B, p, fun i q => (∀ k : Int, B p = .val true k → Iwon B p.t k i q) ∧ (∀ _ : Unit, B p = .drawn → Idrawn B p.t i q), rfl, c9.dk, g9, gok, clok, tab, bk, hb9, hR9, pk, ⟨fun k hk => ⟨fun _ => ⟨k, hk, by omega⟩, fun z => absurd rfl z⟩, fun _ hk => ⟨fun _ n e => (by rw [hk] at e; cases e), fun z => absurd rfl z⟩⟩, Inv0.and (Inv0.all fun k => inv_won gok tab bk cok.t k) (Inv0.all fun _ => inv_drawn gok tab bk cok.t), fun l10 v10 i10 q10 H10 w10 hl10 rv10 qk10 I10 i1024 hi10 => ?_⟩
          have c10 := c9.trans w10
          have g10 := GameAt.same w10.same g9
          have hav10 := Dw.tk c9.dk w10 _ _ hav
          refine ⟨_, rfl, _, rfl, l10, _, _, _, rfl, rfl, SqL.of hl10, at_1, g, G, v10, q10, rfl, GameAt.same wo_sub g10, gok, clok, rv10, tab.ok q10 qk10, fun ov H11 e11 hov => ?_⟩
          have hav11 := seqT e11 hav10
          have e11t := SqL.of (K := K) (e11 _ _ hl10)
          have rv11 := rv10.same e11
          have c11 := c10.trans (Dw.of_same c10.dk e11)
          refine ⟨_, rfl, av, _, _, _, rfl, rfl, hav11, at_0, rfl, _, rfl, ?_⟩
          refine ite2 (fun _ => ?_) (fun c => absurd (by decide +kernel) c)
          refine ⟨_, rfl, av, _, _, _, rfl, rfl, hav11, at_1, _, _, rfl, rfl, _, rfl, ite2 (fun ck => ?_) (fun ck => ?_)⟩
          · have ck : k < 24 := of_decide_eq_true ck
            obtain ⟨hle, ho⟩ := end_won bk ck qk10 (I10.1 k hv) hi10
            rw [ho] at hov
            obtain ⟨oa, rfl, _⟩ := R.val hov
            refine ⟨_, rfl, rfl, _, rfl, ite2 (fun c => nomatch (of_decide_eq_true c : V.ref oa = V.non)) (fun _ => ?_)⟩
            refine ⟨_, rfl, l10, _, _, _, rfl, rfl, e11t, at_0, _, rfl, av, _, _, _, rfl, rfl, hav11, at_1, _, _, rfl, rfl, _, rfl, ite2 (fun cc => absurd (of_decide_eq_true cc : k < (i10 : Int)) (by omega)) (fun _ => ?_)⟩
            obtain ⟨qa, qb, rfl, hqa, hqb⟩ := rv11.pos
            refine ⟨_, rfl, z2, fun t1 ht1 => ⟨z2, fun t2 ht2 => ⟨z2, fun l3 hl3 => ?_⟩⟩⟩
            have s12 := (Same.new (o := .tup [.str wWon, .int 0]) ht1).trans (Same.new (o := .tup [.str wLost, .int 0]) ht2)
            have s3 := Same.new (o := .lst [.ref t1, .ref t2]) hl3
            have s123 := s12.trans s3
            have hl10' := s123.seq e11t
            have hqa' := seqT s123 hqa
            have hav12 := seqT s123 hav11
            refine ⟨_, rfl, l10, _, _, _, rfl, rfl, hl10', at_1, qa, _, _, _, rfl, rfl, hqa', at_0, _, rfl, rfl, ?_⟩
            have hov3 := hov.same s123
            obtain ⟨ta, hat, hta⟩ : ∃ ta, atI [V.ref t1, V.ref t2] (if (!decide (V.int q10.t = V.int p.t)) = true then 1 else 0) = some (.ref ta) ∧ R K _ (.ref ta) (Val.val (decide (q10.t = p.t)) 0) := by
              by_cases c : q10.t = p.t
              · refine ⟨t1, by simp [c]; exact at_0, ?_⟩
                simp only [c, decide_true]
                exact R.ofVal (w := true) (seqT ((Same.new ht2).trans s3) (SqT.of upd_same))
              · refine ⟨t2, by simp [c]; exact at_1, ?_⟩
                simp only [c, decide_false]
                exact R.ofVal (w := false) (seqT s3 (SqT.of upd_same))
            refine .inr ⟨_, rfl, l3, _, _, _, rfl, rfl, SqL.of upd_same, hat, _, _, hov3, hta, _, rfl, ite2 (fun cc => absurd cc (by simp)) (fun _ => ?_)⟩
            refine ⟨_, rfl, av, _, _, _, rfl, rfl, hav12, at_0, rfl, _, rfl, ?_⟩
            refine ite2 (fun c => absurd c (by decide +kernel)) (fun _ => ?_)
            exact ⟨_, _, _, _, _, _, _, rfl, c11.trans (Dw.of_same c11.dk s123)⟩
          · refine ⟨_, rfl, av, _, _, _, rfl, rfl, hav11, at_0, rfl, _, rfl, ?_⟩
            refine ite2 (fun c => absurd c (by decide +kernel)) (fun _ => ?_)
            exact ⟨_, _, _, _, _, _, _, rfl, c11⟩
        · skip
          have g9 := GameAt.same w9.same g8
          have hb9 := hb8.on w9 c8.dk
          have hR9 := hR.fut (Dw.tk c8.dk w9)
          refine ⟨_, rfl, _, rfl, _, rfl, _, rfl, _, rfl, D, g, d, .ref pa, p.t, G, keys kvs, B, p, fun i q => (∀ k : Int, B p = .val true k → Iwon B p.t k i q) ∧ (∀ _ : Unit, B p = .drawn → Idrawn B p.t i q), rfl, c9.dk, g9, gok, clok, tab, bk, hb9, hR9, pk, ⟨fun k hk => ⟨fun _ => ⟨k, hk, by omega⟩, fun z => absurd rfl z⟩, fun _ hk => ⟨fun _ n e => (by rw [hk] at e; cases e), fun z => absurd rfl z⟩⟩, Inv0.and (Inv0.all fun k => inv_won gok tab bk cok.t k) (Inv0.all fun _ => inv_drawn gok tab bk cok.t), fun l10 v10 i10 q10 H10 w10 hl10 rv10 qk10 I10 i1024 hi10 => ?_⟩
          have c10 := c9.trans w10
          have g10 := GameAt.same w10.same g9
          have hav10 := Dw.tk c9.dk w10 _ _ hav
          refine ⟨_, rfl, _, rfl, l10, _, _, _, rfl, rfl, SqL.of hl10, at_1, g, G, v10, q10, rfl, GameAt.same wo_sub g10, gok, clok, rv10, tab.ok q10 qk10, fun ov H11 e11 hov => ?_⟩
          have hav11 := seqT e11 hav10
          have e11t := SqL.of (K := K) (e11 _ _ hl10)
          have rv11 := rv10.same e11
          have c11 := c10.trans (Dw.of_same c10.dk e11)
          refine ⟨_, rfl, av, _, _, _, rfl, rfl, hav11, at_0, rfl, _, rfl, ?_⟩
          refine ite2 (fun _ => ?_) (fun c => absurd (by decide +kernel) c)
          refine ⟨_, rfl, av, _, _, _, rfl, rfl, hav11, at_1, _, _, rfl, rfl, _, rfl, ite2 (fun ck => ?_) (fun ck => ?_)⟩
          · have ck : k < 24 := of_decide_eq_true ck
            obtain ⟨hle, ho⟩ := end_won bk ck qk10 (I10.1 k hv) hi10
            rw [ho] at hov
            obtain ⟨oa, rfl, _⟩ := R.val hov
            refine ⟨_, rfl, rfl, _, rfl, ite2 (fun c => nomatch (of_decide_eq_true c : V.ref oa = V.non)) (fun _ => ?_)⟩
            refine ⟨_, rfl, l10, _, _, _, rfl, rfl, e11t, at_0, _, rfl, av, _, _, _, rfl, rfl, hav11, at_1, _, _, rfl, rfl, _, rfl, ite2 (fun cc => absurd (of_decide_eq_true cc : k < (i10 : Int)) (by omega)) (fun _ => ?_)⟩
            obtain ⟨qa, qb, rfl, hqa, hqb⟩ := rv11.pos
            refine ⟨_, rfl, z2, fun t1 ht1 => ⟨z2, fun t2 ht2 => ⟨z2, fun l3 hl3 => ?_⟩⟩⟩
            have s12 := (Same.new (o := .tup [.str wWon, .int 0]) ht1).trans (Same.new (o := .tup [.str wLost, .int 0]) ht2)
            have s3 := Same.new (o := .lst [.ref t1, .ref t2]) hl3
            have s123 := s12.trans s3
            have hl10' := s123.seq e11t
            have hqa' := seqT s123 hqa
            have hav12 := seqT s123 hav11
            refine ⟨_, rfl, l10, _, _, _, rfl, rfl, hl10', at_1, qa, _, _, _, rfl, rfl, hqa', at_0, _, rfl, rfl, ?_⟩
            have hov3 := hov.same s123
            obtain ⟨ta, hat, hta⟩ : ∃ ta, atI [V.ref t1, V.ref t2] (if (!decide (V.int q10.t = V.int p.t)) = true then 1 else 0) = some (.ref ta) ∧ R K _ (.ref ta) (Val.val (decide (q10.t = p.t)) 0) := by
              by_cases c : q10.t = p.t
              · refine ⟨t1, by simp [c]; exact at_0, ?_⟩
                simp only [c, decide_true]
                exact R.ofVal (w := true) (seqT ((Same.new ht2).trans s3) (SqT.of upd_same))
              · refine ⟨t2, by simp [c]; exact at_1, ?_⟩
                simp only [c, decide_false]
                exact R.ofVal (w := false) (seqT s3 (SqT.of upd_same))
            refine .inr ⟨_, rfl, l3, _, _, _, rfl, rfl, SqL.of upd_same, hat, _, _, hov3, hta, _, rfl, ite2 (fun cc => absurd cc (by simp)) (fun _ => ?_)⟩
            refine ⟨_, rfl, av, _, _, _, rfl, rfl, hav12, at_0, rfl, _, rfl, ?_⟩
            refine ite2 (fun c => absurd c (by decide +kernel)) (fun _ => ?_)
            exact ⟨_, _, _, _, _, _, _, rfl, c11.trans (Dw.of_same c11.dk s123)⟩
          · refine ⟨_, rfl, av, _, _, _, rfl, rfl, hav11, at_0, rfl, _, rfl, ?_⟩
            refine ite2 (fun c => absurd c (by decide +kernel)) (fun _ => ?_)
            exact ⟨_, _, _, _, _, _, _, rfl, c11⟩
      | false =>
        refine ⟨_, rfl, av, _, _, _, rfl, rfl, hav, at_0, rfl, _, rfl, ite2 (fun _ => ?_) (fun c => absurd (by decide +kernel) c)⟩
        refine ⟨_, rfl, av, _, _, _, rfl, rfl, hav, at_1, _, _, rfl, rfl, _, rfl, ite2 (fun ck => ?_) (fun ck => ?_)⟩
        · have ck : k ≤ 24 := of_decide_eq_true ck
          have hk9 := hk9 ck
          refine ⟨_, rfl, l9, _, _, _, rfl, rfl, SqL.of hl9, at_0, _, rfl, av, _, _, _, rfl, rfl, hav, at_1, rfl, _, rfl, ite2 (fun cc => absurd (congrArg V.int hk9) (by simpa using cc)) (fun _ => ?_)⟩
          have g9 := GameAt.same w9.same g8
          have hb9 := hb8.on w9 c8.dk
          have hR9 := hR.fut (Dw.tk c8.dk w9)
          refine ⟨_, rfl, _, rfl, _, rfl, _, rfl, _, rfl, D, g, d, .ref pa, p.t, G, keys kvs, B, p, fun i q => (∀ k : Int, B p = .val true k → Iwon B p.t k i q) ∧ (∀ _ : Unit, B p = .drawn → Idrawn B p.t i q), rfl, c9.dk, g9, gok, clok, tab, bk, hb9, hR9, pk, ⟨fun k hk => ⟨fun _ => ⟨k, hk, by omega⟩, fun z => absurd rfl z⟩, fun _ hk => ⟨fun _ n e => (by rw [hk] at e; cases e), fun z => absurd rfl z⟩⟩, Inv0.and (Inv0.all fun k => inv_won gok tab bk cok.t k) (Inv0.all fun _ => inv_drawn gok tab bk cok.t), fun l10 v10 i10 q10 H10 w10 hl10 rv10 qk10 I10 i1024 hi10 => ?_⟩
          have c10 := c9.trans w10
          have g10 := GameAt.same w10.same g9
          have hav10 := Dw.tk c9.dk w10 _ _ hav
          refine ⟨_, rfl, _, rfl, l10, _, _, _, rfl, rfl, SqL.of hl10, at_1, g, G, v10, q10, rfl, GameAt.same wo_sub g10, gok, clok, rv10, tab.ok q10 qk10, fun ov H11 e11 hov => ?_⟩
          have hav11 := seqT e11 hav10
          have e11t := SqL.of (K := K) (e11 _ _ hl10)
          have rv11 := rv10.same e11
          have c11 := c10.trans (Dw.of_same c10.dk e11)
          refine ⟨_, rfl, av, _, _, _, rfl, rfl, hav11, at_0, rfl, _, rfl, ?_⟩
          refine ite2 (fun c => absurd c (by decide +kernel)) (fun _ => ?_)
          refine ⟨_, rfl, av, _, _, _, rfl, rfl, hav11, at_0, rfl, _, rfl, ?_⟩
          refine ite2 (fun c => absurd c (by decide +kernel)) (fun _ => ?_)
          exact ⟨_, _, _, _, _, _, _, rfl, c11⟩
        · skip
          have g9 := GameAt.same w9.same g8
          have hb9 := hb8.on w9 c8.dk
          have hR9 := hR.fut (Dw.tk c8.dk w9)
          refine ⟨_, rfl, _, rfl, _, rfl, _, rfl, _, rfl, D, g, d, .ref pa, p.t, G, keys kvs, B, p, fun i q => (∀ k : Int, B p = .val true k → Iwon B p.t k i q) ∧ (∀ _ : Unit, B p = .drawn → Idrawn B p.t i q), rfl, c9.dk, g9, gok, clok, tab, bk, hb9, hR9, pk, ⟨fun k hk => ⟨fun _ => ⟨k, hk, by omega⟩, fun z => absurd rfl z⟩, fun _ hk => ⟨fun _ n e => (by rw [hk] at e; cases e), fun z => absurd rfl z⟩⟩, Inv0.and (Inv0.all fun k => inv_won gok tab bk cok.t k) (Inv0.all fun _ => inv_drawn gok tab bk cok.t), fun l10 v10 i10 q10 H10 w10 hl10 rv10 qk10 I10 i1024 hi10 => ?_⟩
          have c10 := c9.trans w10
          have g10 := GameAt.same w10.same g9
          have hav10 := Dw.tk c9.dk w10 _ _ hav
          refine ⟨_, rfl, _, rfl, l10, _, _, _, rfl, rfl, SqL.of hl10, at_1, g, G, v10, q10, rfl, GameAt.same wo_sub g10, gok, clok, rv10, tab.ok q10 qk10, fun ov H11 e11 hov => ?_⟩
          have hav11 := seqT e11 hav10
          have e11t := SqL.of (K := K) (e11 _ _ hl10)
          have rv11 := rv10.same e11
          have c11 := c10.trans (Dw.of_same c10.dk e11)
          refine ⟨_, rfl, av, _, _, _, rfl, rfl, hav11, at_0, rfl, _, rfl, ?_⟩
          refine ite2 (fun c => absurd c (by decide +kernel)) (fun _ => ?_)
          refine ⟨_, rfl, av, _, _, _, rfl, rfl, hav11, at_0, rfl, _, rfl, ?_⟩
          refine ite2 (fun c => absurd c (by decide +kernel)) (fun _ => ?_)
          exact ⟨_, _, _, _, _, _, _, rfl, c11⟩
  · obtain ⟨x6, x7, x8, x9, x10, x11, x12, rfl, c7⟩ := hP
    exact q H7
end Sk

/-! Sk: the facts of the top, gathered. -/
namespace Sk
open PySem L2 PySem.Spec PyProof.Rows

section
variable {K : PySem.W.Frag} {mg : Str → Option Value} {h : Heap}
abbrev BdOk (n q : Str) (st : Stmt) (ps : List Str) : Prop := ∀ (kV doc pm : Value) (an : Option Addr) (cdv ct : Value) (us : List Value), us.length = ps.length → bindArgs (PySem.W.fnOf n q (defArgs st) (defBody st) (defScope st) .none kV doc pm an cdv ct) ⟨us, []⟩ = pure (ps.zip us)
theorem d1_mk (X : K.In h) (G : h.Ns mainGlobals mg) {n : Str} {st : Stmt} {ps : List Str} (b : BdOk n n st ps) {f : Addr} {od an : Option Addr} {sl : Array (Option Value)} {oc kV dc pm cd ct : Value}
    (a : PySem.W.nsIn K mainGlobals n = some (some (.ref f))) (l : K.lookup f = some ⟨oc, od, .func (PySem.W.fnOf n n (defArgs st) (defBody st) (defScope st) .none kV dc pm an cd ct), sl⟩)
    (c : PySem.W.codeIn K cd n = true) (k : PySem.W.keepIn K (.ref f) = true) : Nonempty (D1 K mg n st ps) :=
  ⟨⟨f, _, fun_mk l c k, (fun_mk l c k).binds b, PySem.W.mg_of X G a, k⟩⟩
theorem m1_mk {C : Addr} {n q : Str} {st : Stmt} {ps : List Str} (b : BdOk n q st ps) {f : Addr} {od an : Option Addr} {sl : Array (Option Value)} {oc kV dc pm cd ct : Value}
    (a : PySem.W.findIn K (.ref C) n = some (some (.ref f))) (i : PySem.W.isFn K (.ref f) = true) (l : K.lookup f = some ⟨oc, od, .func (PySem.W.fnOf n q (defArgs st) (defBody st) (defScope st) .none kV dc pm an cd ct), sl⟩)
    (c : PySem.W.codeIn K cd q = true) (k : PySem.W.keepIn K (.ref f) = true) : Nonempty (M1 K C n q st ps) :=
  ⟨⟨f, _, fun_mk l c k, (fun_mk l c k).binds b, ⟨a, i, k⟩⟩⟩
/-- a class with its first method -/
structure C2 (K : PySem.W.Frag) (mg : Str → Option Value) (n q : Str) (st : Stmt) (ps : List Str) (C : Addr) where
  f : Addr
  fd : FuncData
  F : Fun K "__init__" q st f fd
  b : Binds K fd ps []
  c : C1 K mg n f C
theorem c2_mk (X : K.In h) (G : h.Ns mainGlobals mg) {n q : Str} {st : Stmt} {ps : List Str} (b : BdOk "__init__" q st ps) {C f : Addr} {od an : Option Addr} {sl : Array (Option Value)} {oc kV dc pm cd ct : Value}
    (aC : PySem.W.nsIn K mainGlobals n = some (some (.ref C)))
    (a : PySem.W.findIn K (.ref C) "__init__" = some (some (.ref f))) (i : PySem.W.isFn K (.ref f) = true) (l : K.lookup f = some ⟨oc, od, .func (PySem.W.fnOf "__init__" q (defArgs st) (defBody st) (defScope st) .none kV dc pm an cd ct), sl⟩)
    (c : PySem.W.codeIn K cd q = true) (k : PySem.W.keepIn K (.ref f) = true)
    (pg : PySem.W.plainGet K C Str.empty = true) (hd : PySem.W.hasDictIn K C = true) (po : PySem.W.plainOver K C = true) (sa : PySem.W.findIn K (.ref C) "__setattr__" = some (some (.builtin "object.__setattr__"))) (mk : PySem.W.makesIn K C = true) (kc : PySem.W.keepIn K (.ref C) = true) : Nonempty (C2 K mg n q st ps C) :=
  ⟨⟨f, _, fun_mk l c k, (fun_mk l c k).binds b, ⟨⟨pg, hd, po, sa⟩, PySem.W.mg_of X G aC, ⟨mk, a, i, kc⟩⟩⟩⟩
structure ConD (K : PySem.W.Frag) (mg : Str → Option Value) where
  a : Addr
  g : mg "DRAWN" = some (.ref a)
  t : ∀ H, SqT K H a [.str wDrawn]
theorem drawn_mk (X : K.In h) (G : h.Ns mainGlobals mg) {a : Addr} {od : Option Addr} {sl : Array (Option Value)} {n : Nat} {t : Tok}
    (g : PySem.W.nsIn K mainGlobals "DRAWN" = some (some (.ref a))) (l : K.lookup a = some ⟨.type "tuple", od, .seq #[.str "drawn" t] n, sl⟩) : Nonempty (ConD K mg) :=
  ⟨⟨a, PySem.W.mg_of X G g, fun H => .inr ⟨_, #[.str "drawn" t], n, l, rfl, rfl, (show 1 ≤ sizeLine by decide), .cons ⟨t, rfl⟩ .nil⟩⟩⟩
theorem most_mk (X : K.In h) (G : h.Ns mainGlobals mg) {t : Tok} (g : PySem.W.nsIn K mainGlobals "MOST_POSITIONS" = some (some (.int 20000 t))) : ∃ u, mg "MOST_POSITIONS" = some u ∧ RelV (.int 20000) u := ⟨_, PySem.W.mg_of X G g, ⟨t, rfl⟩⟩
theorem facts {P : Program} {w : World} {fa : Addr} (hfa : mg "law" = some (.ref fa)) (T : Nonempty (Top K mg)) :
    ∃ fd : FuncData, (∀ (s : Shared) (u : Value), BindsTo s fd ⟨[u], []⟩ [("_law_script", u)]) ∧ ∀ base : Heap, K.In base → base.Ns mainGlobals mg → FnOk P w K mg base CX0 39 fa fd ["_law_script"] (sp_law K) := by
  obtain ⟨T⟩ := T
  have e := hfa.symm.trans T.law.m
  injection e with e
  injection e with e
  subst e
  refine ⟨T.law.fd, fun s u => ?_, fun base _ _ => ok_law T⟩
  obtain ⟨⟨oc, od, kV, doc, pm, an, cdv, ct, osl, e, _, _⟩, _⟩ := T.law.F
  rw [e]
  exact .of_eq rfl
theorem law_end {l : PySem.W.OpenLaw} {q : Program} {loose : List Str} {XP : (Str → Option Value) → Heap → Prop} {YP : World → Heap → Prop} {d : DefRec} {K : Params → PySem.W.Frag} (hn : l.most = some 63) (hdf : d.params.defaults = [])
    (hY : ∀ (w : World) (h : Heap), YP w h → (K w.params).In h) (hd : d.name = "law")
    (F : ∀ (w : World) (mg : Str → Option Value) (h : Heap), (K w.params).In h → h.Ns mainGlobals mg → Nonempty (Top (K w.params) mg)) :
    PySem.W.WalkO q loose XP YP l.row.toRowW d [] (fun f vs => PySem.call f vs) :=
  L2.walk_of (n := 63) (k := 39) (x := "_law_script") (CX := fun _ => CX0) (sp := fun w => sp_law (K w.params)) hn (by decide) hdf ⟨rfl, by decide, by decide⟩ hY
    (fun w mg fa h X G hmg => facts (hd ▸ hmg) (F w mg h X G)) (fun _ _ a ns _ _ hS => ⟨a, ns, rfl, hS, fun _ => rfl⟩) fun _ _ _ _ _ z => z

theorem bd_man_of : BdOk "man_of" "man_of" s_man_of P_man_of := fun _ _ _ _ _ _ us hl => match us, hl with | [_, _], _ => rfl
theorem bd_side_of : BdOk "side_of" "side_of" s_side_of P_side_of := fun _ _ _ _ _ _ us hl => match us, hl with | [_], _ => rfl
theorem bd_kind_of : BdOk "kind_of" "kind_of" s_kind_of P_kind_of := fun _ _ _ _ _ _ us hl => match us, hl with | [_], _ => rfl
theorem bd_with_man : BdOk "with_man" "with_man" s_with_man P_with_man := fun _ _ _ _ _ _ us hl => match us, hl with | [_, _, _], _ => rfl
theorem bd_is_as_told : BdOk "is_as_told" "is_as_told" s_is_as_told P_is_as_told := fun _ _ _ _ _ _ us hl => match us, hl with | [_, _, _], _ => rfl
theorem bd_step_ends : BdOk "step_ends" "step_ends" s_step_ends P_step_ends := fun _ _ _ _ _ _ us hl => match us, hl with | [_, _, _, _], _ => rfl
theorem bd_row_ends : BdOk "row_ends" "row_ends" s_row_ends P_row_ends := fun _ _ _ _ _ _ us hl => match us, hl with | [_, _, _, _], _ => rfl
theorem bd_any_ends : BdOk "any_ends" "any_ends" s_any_ends P_any_ends := fun _ _ _ _ _ _ us hl => match us, hl with | [_, _, _, _], _ => rfl
theorem bd_program_ends : BdOk "program_ends" "program_ends" s_program_ends P_program_ends := fun _ _ _ _ _ _ us hl => match us, hl with | [_, _, _, _], _ => rfl
theorem bd_spots : BdOk "spots" "spots" s_spots P_spots := fun _ _ _ _ _ _ us hl => match us, hl with | [_, _, _, _], _ => rfl
theorem bd_program_of : BdOk "program_of" "program_of" s_program_of P_program_of := fun _ _ _ _ _ _ us hl => match us, hl with | [_, _], _ => rfl
theorem bd_man_runs : BdOk "man_runs" "man_runs" s_man_runs P_man_runs := fun _ _ _ _ _ _ us hl => match us, hl with | [_, _, _], _ => rfl
theorem bd_runs : BdOk "runs" "runs" s_runs P_runs := fun _ _ _ _ _ _ us hl => match us, hl with | [_, _], _ => rfl
theorem bd_moves : BdOk "moves" "moves" s_moves P_moves := fun _ _ _ _ _ _ us hl => match us, hl with | [_, _], _ => rfl
theorem bd_after : BdOk "after" "after" s_after P_after := fun _ _ _ _ _ _ us hl => match us, hl with | [_, _, _], _ => rfl
theorem bd_has_man : BdOk "has_man" "has_man" s_has_man P_has_man := fun _ _ _ _ _ _ us hl => match us, hl with | [_, _, _], _ => rfl
theorem bd_holds : BdOk "holds" "holds" s_holds P_holds := fun _ _ _ _ _ _ us hl => match us, hl with | [_, _, _], _ => rfl
theorem bd_end_ : BdOk "end" "end" s_end_ P_end_ := fun _ _ _ _ _ _ us hl => match us, hl with | [_, _], _ => rfl
theorem bd_over_value : BdOk "over_value" "over_value" s_over_value P_over_value := fun _ _ _ _ _ _ us hl => match us, hl with | [_, _], _ => rfl
theorem bd_next_positions : BdOk "next_positions" "next_positions" s_next_positions P_next_positions := fun _ _ _ _ _ _ us hl => match us, hl with | [_, _], _ => rfl
theorem bd_followers : BdOk "followers" "followers" s_followers P_followers := fun _ _ _ _ _ _ us hl => match us, hl with | [_, _], _ => rfl
theorem bd_backwards : BdOk "backwards" "backwards" s_backwards P_backwards := fun _ _ _ _ _ _ us hl => match us, hl with | [_, _], _ => rfl
theorem bd_Solver_init : BdOk "__init__" "Solver.__init__" s_Solver_init P_Solver_init := fun _ _ _ _ _ _ us hl => match us, hl with | [_, _, _], _ => rfl
theorem bd_Solver_valued : BdOk "valued" "Solver.valued" s_Solver_valued P_Solver_valued := fun _ _ _ _ _ _ us hl => match us, hl with | [_, _, _, _], _ => rfl
theorem bd_Solver_turn : BdOk "turn" "Solver.turn" s_Solver_turn P_Solver_turn := fun _ _ _ _ _ _ us hl => match us, hl with | [_, _, _], _ => rfl
theorem bd_Solver_solve : BdOk "solve" "Solver.solve" s_Solver_solve P_Solver_solve := fun _ _ _ _ _ _ us hl => match us, hl with | [_], _ => rfl
theorem bd_values_of : BdOk "values_of" "values_of" s_values_of P_values_of := fun _ _ _ _ _ _ us hl => match us, hl with | [_, _, _], _ => rfl
theorem bd_solve : BdOk "solve" "solve" s_solve P_solve := fun _ _ _ _ _ _ us hl => match us, hl with | [_, _], _ => rfl
theorem bd_Board_init : BdOk "__init__" "Board.__init__" s_Board_init P_Board_init := fun _ _ _ _ _ _ us hl => match us, hl with | [_, _, _], _ => rfl
theorem bd_Game_init : BdOk "__init__" "Game.__init__" s_Game_init P_Game_init := fun _ _ _ _ _ _ us hl => match us, hl with | [_, _, _, _, _], _ => rfl
theorem bd_L_deck : BdOk "_law_deck" "_law_deck" s_L_deck P_L_deck := fun _ _ _ _ _ _ us hl => match us, hl with | [_], _ => rfl
theorem bd_L_draw : BdOk "_law_draw" "_law_draw" s_L_draw P_L_draw := fun _ _ _ _ _ _ us hl => match us, hl with | [_, _], _ => rfl
theorem bd_L_ways : BdOk "_law_ways" "_law_ways" s_L_ways P_L_ways := fun _ _ _ _ _ _ us hl => match us, hl with | [_, _], _ => rfl
theorem bd_L_program : BdOk "_law_program" "_law_program" s_L_program P_L_program := fun _ _ _ _ _ _ us hl => match us, hl with | [_, _, _, _], _ => rfl
theorem bd_L_condition : BdOk "_law_condition" "_law_condition" s_L_condition P_L_condition := fun _ _ _ _ _ _ us hl => match us, hl with | [_, _, _, _], _ => rfl
theorem bd_L_rules : BdOk "_law_rules" "_law_rules" s_L_rules P_L_rules := fun _ _ _ _ _ _ us hl => match us, hl with | [_], _ => rfl
theorem bd_L_game : BdOk "_law_game" "_law_game" s_L_game P_L_game := fun _ _ _ _ _ _ us hl => match us, hl with | [_], _ => rfl
theorem bd_L_position : BdOk "_law_position" "_law_position" s_L_position P_L_position := fun _ _ _ _ _ _ us hl => match us, hl with | [_, _, _], _ => rfl
theorem bd_L_step : BdOk "_law_step" "_law_step" s_L_step P_L_step := fun _ _ _ _ _ _ us hl => match us, hl with | [_, _, _, _], _ => rfl
theorem bd_L_spots : BdOk "_law_spots" "_law_spots" s_L_spots P_L_spots := fun _ _ _ _ _ _ us hl => match us, hl with | [_, _, _, _], _ => rfl
theorem bd_L_moves : BdOk "_law_moves" "_law_moves" s_L_moves P_L_moves := fun _ _ _ _ _ _ us hl => match us, hl with | [_, _], _ => rfl
theorem bd_L_met : BdOk "_law_met" "_law_met" s_L_met P_L_met := fun _ _ _ _ _ _ us hl => match us, hl with | [_, _, _], _ => rfl
theorem bd_L_over : BdOk "_law_over" "_law_over" s_L_over P_L_over := fun _ _ _ _ _ _ us hl => match us, hl with | [_, _], _ => rfl
theorem bd_L_next : BdOk "_law_next" "_law_next" s_L_next P_L_next := fun _ _ _ _ _ _ us hl => match us, hl with | [_, _], _ => rfl
theorem bd_L_table : BdOk "_law_table" "_law_table" s_L_table P_L_table := fun _ _ _ _ _ _ us hl => match us, hl with | [_, _, _], _ => rfl
theorem bd_L_small : BdOk "_law_small" "_law_small" s_L_small P_L_small := fun _ _ _ _ _ _ us hl => match us, hl with | [_, _], _ => rfl
theorem bd_L_keeping : BdOk "_law_keeping" "_law_keeping" s_L_keeping P_L_keeping := fun _ _ _ _ _ _ us hl => match us, hl with | [_, _, _], _ => rfl
theorem bd_L_played : BdOk "_law_played" "_law_played" s_L_played P_L_played := fun _ _ _ _ _ _ us hl => match us, hl with | [_, _, _, _, _], _ => rfl
theorem bd_law : BdOk "law" "law" s_law P_law := fun _ _ _ _ _ _ us hl => match us, hl with | [_], _ => rfl
theorem top_mk (X : K.In h) (G : h.Ns mainGlobals mg) {cS cB cG : Addr}
    (h_man_of : Nonempty (D1 K mg "man_of" s_man_of P_man_of))
    (h_side_of : Nonempty (D1 K mg "side_of" s_side_of P_side_of))
    (h_kind_of : Nonempty (D1 K mg "kind_of" s_kind_of P_kind_of))
    (h_with_man : Nonempty (D1 K mg "with_man" s_with_man P_with_man))
    (h_is_as_told : Nonempty (D1 K mg "is_as_told" s_is_as_told P_is_as_told))
    (h_step_ends : Nonempty (D1 K mg "step_ends" s_step_ends P_step_ends))
    (h_row_ends : Nonempty (D1 K mg "row_ends" s_row_ends P_row_ends))
    (h_any_ends : Nonempty (D1 K mg "any_ends" s_any_ends P_any_ends))
    (h_program_ends : Nonempty (D1 K mg "program_ends" s_program_ends P_program_ends))
    (h_spots : Nonempty (D1 K mg "spots" s_spots P_spots))
    (h_program_of : Nonempty (D1 K mg "program_of" s_program_of P_program_of))
    (h_man_runs : Nonempty (D1 K mg "man_runs" s_man_runs P_man_runs))
    (h_runs : Nonempty (D1 K mg "runs" s_runs P_runs))
    (h_moves : Nonempty (D1 K mg "moves" s_moves P_moves))
    (h_after : Nonempty (D1 K mg "after" s_after P_after))
    (h_has_man : Nonempty (D1 K mg "has_man" s_has_man P_has_man))
    (h_holds : Nonempty (D1 K mg "holds" s_holds P_holds))
    (h_end_ : Nonempty (D1 K mg "end" s_end_ P_end_))
    (h_over_value : Nonempty (D1 K mg "over_value" s_over_value P_over_value))
    (h_next_positions : Nonempty (D1 K mg "next_positions" s_next_positions P_next_positions))
    (h_followers : Nonempty (D1 K mg "followers" s_followers P_followers))
    (h_backwards : Nonempty (D1 K mg "backwards" s_backwards P_backwards))
    (h_values_of : Nonempty (D1 K mg "values_of" s_values_of P_values_of))
    (h_solve : Nonempty (D1 K mg "solve" s_solve P_solve))
    (h_L_deck : Nonempty (D1 K mg "_law_deck" s_L_deck P_L_deck))
    (h_L_draw : Nonempty (D1 K mg "_law_draw" s_L_draw P_L_draw))
    (h_L_ways : Nonempty (D1 K mg "_law_ways" s_L_ways P_L_ways))
    (h_L_program : Nonempty (D1 K mg "_law_program" s_L_program P_L_program))
    (h_L_condition : Nonempty (D1 K mg "_law_condition" s_L_condition P_L_condition))
    (h_L_rules : Nonempty (D1 K mg "_law_rules" s_L_rules P_L_rules))
    (h_L_game : Nonempty (D1 K mg "_law_game" s_L_game P_L_game))
    (h_L_position : Nonempty (D1 K mg "_law_position" s_L_position P_L_position))
    (h_L_step : Nonempty (D1 K mg "_law_step" s_L_step P_L_step))
    (h_L_spots : Nonempty (D1 K mg "_law_spots" s_L_spots P_L_spots))
    (h_L_moves : Nonempty (D1 K mg "_law_moves" s_L_moves P_L_moves))
    (h_L_met : Nonempty (D1 K mg "_law_met" s_L_met P_L_met))
    (h_L_over : Nonempty (D1 K mg "_law_over" s_L_over P_L_over))
    (h_L_next : Nonempty (D1 K mg "_law_next" s_L_next P_L_next))
    (h_L_table : Nonempty (D1 K mg "_law_table" s_L_table P_L_table))
    (h_L_small : Nonempty (D1 K mg "_law_small" s_L_small P_L_small))
    (h_L_keeping : Nonempty (D1 K mg "_law_keeping" s_L_keeping P_L_keeping))
    (h_L_played : Nonempty (D1 K mg "_law_played" s_L_played P_L_played))
    (h_law : Nonempty (D1 K mg "law" s_law P_law))
    (h_Solver : Nonempty (C2 K mg "Solver" "Solver.__init__" s_Solver_init P_Solver_init cS))
    (h_Board : Nonempty (C2 K mg "Board" "Board.__init__" s_Board_init P_Board_init cB))
    (h_Game : Nonempty (C2 K mg "Game" "Game.__init__" s_Game_init P_Game_init cG))
    (h_Solver_valued : Nonempty (M1 K cS "valued" "Solver.valued" s_Solver_valued P_Solver_valued))
    (h_Solver_turn : Nonempty (M1 K cS "turn" "Solver.turn" s_Solver_turn P_Solver_turn))
    (h_Solver_solve : Nonempty (M1 K cS "solve" "Solver.solve" s_Solver_solve P_Solver_solve))
    (n_Solver_table : PySem.W.findIn K (.ref cS) "table" = some none)
    (n_Solver_book : PySem.W.findIn K (.ref cS) "book" = some none)
    (n_Solver_before : PySem.W.findIn K (.ref cS) "before" = some none)
    (n_Solver_unsettled : PySem.W.findIn K (.ref cS) "unsettled" = some none)
    (n_Board_size : PySem.W.findIn K (.ref cB) "size" = some none)
    (n_Board_ways : PySem.W.findIn K (.ref cB) "ways" = some none)
    (n_Game_board : PySem.W.findIn K (.ref cG) "board" = some none)
    (n_Game_kinds : PySem.W.findIn K (.ref cG) "kinds" = some none)
    (n_Game_clauses : PySem.W.findIn K (.ref cG) "clauses" = some none)
    (n_Game_programs : PySem.W.findIn K (.ref cG) "programs" = some none)
    (z_len : PySem.W.nsIn K mainGlobals "len" = some none)
    (z_sorted : PySem.W.nsIn K mainGlobals "sorted" = some none)
    (z_range : PySem.W.nsIn K mainGlobals "range" = some none)
    (z_any : PySem.W.nsIn K mainGlobals "any" = some none)
    (z_tuple : PySem.W.nsIn K mainGlobals "tuple" = some none)
    (z_list : PySem.W.nsIn K mainGlobals "list" = some none)
    (z_int : PySem.W.nsIn K mainGlobals "int" = some none)
    (z_set : PySem.W.nsIn K mainGlobals "set" = some none)
    (z_enumerate : PySem.W.nsIn K mainGlobals "enumerate" = some none)
    (h_MOST : ∃ u, mg "MOST_POSITIONS" = some u ∧ RelV (.int 20000) u) (h_DRAWN : Nonempty (ConD K mg)) : Nonempty (Top K mg) := by
  obtain ⟨t_man_of⟩ := h_man_of
  obtain ⟨t_side_of⟩ := h_side_of
  obtain ⟨t_kind_of⟩ := h_kind_of
  obtain ⟨t_with_man⟩ := h_with_man
  obtain ⟨t_is_as_told⟩ := h_is_as_told
  obtain ⟨t_step_ends⟩ := h_step_ends
  obtain ⟨t_row_ends⟩ := h_row_ends
  obtain ⟨t_any_ends⟩ := h_any_ends
  obtain ⟨t_program_ends⟩ := h_program_ends
  obtain ⟨t_spots⟩ := h_spots
  obtain ⟨t_program_of⟩ := h_program_of
  obtain ⟨t_man_runs⟩ := h_man_runs
  obtain ⟨t_runs⟩ := h_runs
  obtain ⟨t_moves⟩ := h_moves
  obtain ⟨t_after⟩ := h_after
  obtain ⟨t_has_man⟩ := h_has_man
  obtain ⟨t_holds⟩ := h_holds
  obtain ⟨t_end_⟩ := h_end_
  obtain ⟨t_over_value⟩ := h_over_value
  obtain ⟨t_next_positions⟩ := h_next_positions
  obtain ⟨t_followers⟩ := h_followers
  obtain ⟨t_backwards⟩ := h_backwards
  obtain ⟨t_Solver_valued⟩ := h_Solver_valued
  obtain ⟨t_Solver_turn⟩ := h_Solver_turn
  obtain ⟨t_Solver_solve⟩ := h_Solver_solve
  obtain ⟨t_values_of⟩ := h_values_of
  obtain ⟨t_solve⟩ := h_solve
  obtain ⟨t_L_deck⟩ := h_L_deck
  obtain ⟨t_L_draw⟩ := h_L_draw
  obtain ⟨t_L_ways⟩ := h_L_ways
  obtain ⟨t_L_program⟩ := h_L_program
  obtain ⟨t_L_condition⟩ := h_L_condition
  obtain ⟨t_L_rules⟩ := h_L_rules
  obtain ⟨t_L_game⟩ := h_L_game
  obtain ⟨t_L_position⟩ := h_L_position
  obtain ⟨t_L_step⟩ := h_L_step
  obtain ⟨t_L_spots⟩ := h_L_spots
  obtain ⟨t_L_moves⟩ := h_L_moves
  obtain ⟨t_L_met⟩ := h_L_met
  obtain ⟨t_L_over⟩ := h_L_over
  obtain ⟨t_L_next⟩ := h_L_next
  obtain ⟨t_L_table⟩ := h_L_table
  obtain ⟨t_L_small⟩ := h_L_small
  obtain ⟨t_L_keeping⟩ := h_L_keeping
  obtain ⟨t_L_played⟩ := h_L_played
  obtain ⟨t_law⟩ := h_law
  obtain ⟨t_Solver⟩ := h_Solver
  obtain ⟨t_Board⟩ := h_Board
  obtain ⟨t_Game⟩ := h_Game
  obtain ⟨t_DRAWN⟩ := h_DRAWN
  obtain ⟨uM, gM, rM⟩ := h_MOST
  exact ⟨{
    man_of := t_man_of
    side_of := t_side_of
    kind_of := t_kind_of
    with_man := t_with_man
    is_as_told := t_is_as_told
    step_ends := t_step_ends
    row_ends := t_row_ends
    any_ends := t_any_ends
    program_ends := t_program_ends
    spots := t_spots
    program_of := t_program_of
    man_runs := t_man_runs
    runs := t_runs
    moves := t_moves
    after := t_after
    has_man := t_has_man
    holds := t_holds
    end_ := t_end_
    over_value := t_over_value
    next_positions := t_next_positions
    followers := t_followers
    backwards := t_backwards
    values_of := t_values_of
    solve := t_solve
    L_deck := t_L_deck
    L_draw := t_L_draw
    L_ways := t_L_ways
    L_program := t_L_program
    L_condition := t_L_condition
    L_rules := t_L_rules
    L_game := t_L_game
    L_position := t_L_position
    L_step := t_L_step
    L_spots := t_L_spots
    L_moves := t_L_moves
    L_met := t_L_met
    L_over := t_L_over
    L_next := t_L_next
    L_table := t_L_table
    L_small := t_L_small
    L_keeping := t_L_keeping
    L_played := t_L_played
    law := t_law
    c_Solver := cS
    c_Board := cB
    c_Game := cG
    Solver_init_a := t_Solver.f
    Solver_init_fd := t_Solver.fd
    Solver_init_F := t_Solver.F
    Solver_init_b := t_Solver.b
    Solver := t_Solver.c
    n_Solver_table := n_Solver_table
    n_Solver_book := n_Solver_book
    n_Solver_before := n_Solver_before
    n_Solver_unsettled := n_Solver_unsettled
    Board_init_a := t_Board.f
    Board_init_fd := t_Board.fd
    Board_init_F := t_Board.F
    Board_init_b := t_Board.b
    Board := t_Board.c
    n_Board_size := n_Board_size
    n_Board_ways := n_Board_ways
    Game_init_a := t_Game.f
    Game_init_fd := t_Game.fd
    Game_init_F := t_Game.F
    Game_init_b := t_Game.b
    Game := t_Game.c
    n_Game_board := n_Game_board
    n_Game_kinds := n_Game_kinds
    n_Game_clauses := n_Game_clauses
    n_Game_programs := n_Game_programs
    Solver_valued := t_Solver_valued
    Solver_turn := t_Solver_turn
    Solver_solve := t_Solver_solve
    z_len := PySem.W.mg_none_of X G z_len
    z_sorted := PySem.W.mg_none_of X G z_sorted
    z_range := PySem.W.mg_none_of X G z_range
    z_any := PySem.W.mg_none_of X G z_any
    z_tuple := PySem.W.mg_none_of X G z_tuple
    z_list := PySem.W.mg_none_of X G z_list
    z_int := PySem.W.mg_none_of X G z_int
    z_set := PySem.W.mg_none_of X G z_set
    z_enumerate := PySem.W.mg_none_of X G z_enumerate
    u_MOST := uM
    g_MOST := gM
    r_MOST := rM
    a_DRAWN := t_DRAWN.a
    g_DRAWN := t_DRAWN.g
    t_DRAWN := t_DRAWN.t }⟩
end
end Sk

open PySem PySem.W PyProof.Rows
set_option maxRecDepth 100000 in
set_option maxHeartbeats 0 in
theorem PySem.Challenge.cw_skewer_k33_whole_values_by_play_holds : PySem.Challenge.rw_skewer_k33_whole_values_by_play.Holds := by
  w_on; o_law; k_head; (case hw => w_witness2)
  k_fill
  refine Sk.law_end (l := PySem.Challenge.rw_skewer_k33_whole_values_by_play) rfl rfl (fun w h Y => PySem.W.kIn_of Y) rfl ?F
  case F =>
    intro w mg h KX G
    refine' Sk.top_mk KX G ?h_man_of ?h_side_of ?h_kind_of ?h_with_man ?h_is_as_told ?h_step_ends ?h_row_ends ?h_any_ends ?h_program_ends ?h_spots ?h_program_of ?h_man_runs ?h_runs ?h_moves ?h_after ?h_has_man ?h_holds ?h_end_ ?h_over_value ?h_next_positions ?h_followers ?h_backwards ?h_values_of ?h_solve ?h_L_deck ?h_L_draw ?h_L_ways ?h_L_program ?h_L_condition ?h_L_rules ?h_L_game ?h_L_position ?h_L_step ?h_L_spots ?h_L_moves ?h_L_met ?h_L_over ?h_L_next ?h_L_table ?h_L_small ?h_L_keeping ?h_L_played ?h_law ?h_Solver ?h_Board ?h_Game ?h_Solver_valued ?h_Solver_turn ?h_Solver_solve ?n_Solver_table ?n_Solver_book ?n_Solver_before ?n_Solver_unsettled ?n_Board_size ?n_Board_ways ?n_Game_board ?n_Game_kinds ?n_Game_clauses ?n_Game_programs ?z_len ?z_sorted ?z_range ?z_any ?z_tuple ?z_list ?z_int ?z_set ?z_enumerate ?h_MOST ?h_DRAWN
    case h_Solver => refine' Sk.c2_mk KX G Sk.bd_Solver_init ?aC ?a ?i ?l ?c ?k ?pg ?hd ?po ?sa ?mk ?kc; (case aC => k_is); (case a => k_is); (case i => k_is); (case l => k_is); (case c => k_is); (case k => k_is); (case pg => k_is); (case hd => k_is); (case po => k_is); (case sa => k_is); (case mk => k_is); (case kc => k_is)
    case h_Board => refine' Sk.c2_mk KX G Sk.bd_Board_init ?aC ?a ?i ?l ?c ?k ?pg ?hd ?po ?sa ?mk ?kc; (case aC => k_is); (case a => k_is); (case i => k_is); (case l => k_is); (case c => k_is); (case k => k_is); (case pg => k_is); (case hd => k_is); (case po => k_is); (case sa => k_is); (case mk => k_is); (case kc => k_is)
    case h_Game => refine' Sk.c2_mk KX G Sk.bd_Game_init ?aC ?a ?i ?l ?c ?k ?pg ?hd ?po ?sa ?mk ?kc; (case aC => k_is); (case a => k_is); (case i => k_is); (case l => k_is); (case c => k_is); (case k => k_is); (case pg => k_is); (case hd => k_is); (case po => k_is); (case sa => k_is); (case mk => k_is); (case kc => k_is)
    case h_man_of => refine' Sk.d1_mk KX G Sk.bd_man_of ?a ?l ?c ?k; (case a => k_is); (case l => k_is); (case c => k_is); (case k => k_is)
    case h_side_of => refine' Sk.d1_mk KX G Sk.bd_side_of ?a ?l ?c ?k; (case a => k_is); (case l => k_is); (case c => k_is); (case k => k_is)
    case h_kind_of => refine' Sk.d1_mk KX G Sk.bd_kind_of ?a ?l ?c ?k; (case a => k_is); (case l => k_is); (case c => k_is); (case k => k_is)
    case h_with_man => refine' Sk.d1_mk KX G Sk.bd_with_man ?a ?l ?c ?k; (case a => k_is); (case l => k_is); (case c => k_is); (case k => k_is)
    case h_is_as_told => refine' Sk.d1_mk KX G Sk.bd_is_as_told ?a ?l ?c ?k; (case a => k_is); (case l => k_is); (case c => k_is); (case k => k_is)
    case h_step_ends => refine' Sk.d1_mk KX G Sk.bd_step_ends ?a ?l ?c ?k; (case a => k_is); (case l => k_is); (case c => k_is); (case k => k_is)
    case h_row_ends => refine' Sk.d1_mk KX G Sk.bd_row_ends ?a ?l ?c ?k; (case a => k_is); (case l => k_is); (case c => k_is); (case k => k_is)
    case h_any_ends => refine' Sk.d1_mk KX G Sk.bd_any_ends ?a ?l ?c ?k; (case a => k_is); (case l => k_is); (case c => k_is); (case k => k_is)
    case h_program_ends => refine' Sk.d1_mk KX G Sk.bd_program_ends ?a ?l ?c ?k; (case a => k_is); (case l => k_is); (case c => k_is); (case k => k_is)
    case h_spots => refine' Sk.d1_mk KX G Sk.bd_spots ?a ?l ?c ?k; (case a => k_is); (case l => k_is); (case c => k_is); (case k => k_is)
    case h_program_of => refine' Sk.d1_mk KX G Sk.bd_program_of ?a ?l ?c ?k; (case a => k_is); (case l => k_is); (case c => k_is); (case k => k_is)
    case h_man_runs => refine' Sk.d1_mk KX G Sk.bd_man_runs ?a ?l ?c ?k; (case a => k_is); (case l => k_is); (case c => k_is); (case k => k_is)
    case h_runs => refine' Sk.d1_mk KX G Sk.bd_runs ?a ?l ?c ?k; (case a => k_is); (case l => k_is); (case c => k_is); (case k => k_is)
    case h_moves => refine' Sk.d1_mk KX G Sk.bd_moves ?a ?l ?c ?k; (case a => k_is); (case l => k_is); (case c => k_is); (case k => k_is)
    case h_after => refine' Sk.d1_mk KX G Sk.bd_after ?a ?l ?c ?k; (case a => k_is); (case l => k_is); (case c => k_is); (case k => k_is)
    case h_has_man => refine' Sk.d1_mk KX G Sk.bd_has_man ?a ?l ?c ?k; (case a => k_is); (case l => k_is); (case c => k_is); (case k => k_is)
    case h_holds => refine' Sk.d1_mk KX G Sk.bd_holds ?a ?l ?c ?k; (case a => k_is); (case l => k_is); (case c => k_is); (case k => k_is)
    case h_end_ => refine' Sk.d1_mk KX G Sk.bd_end_ ?a ?l ?c ?k; (case a => k_is); (case l => k_is); (case c => k_is); (case k => k_is)
    case h_over_value => refine' Sk.d1_mk KX G Sk.bd_over_value ?a ?l ?c ?k; (case a => k_is); (case l => k_is); (case c => k_is); (case k => k_is)
    case h_next_positions => refine' Sk.d1_mk KX G Sk.bd_next_positions ?a ?l ?c ?k; (case a => k_is); (case l => k_is); (case c => k_is); (case k => k_is)
    case h_followers => refine' Sk.d1_mk KX G Sk.bd_followers ?a ?l ?c ?k; (case a => k_is); (case l => k_is); (case c => k_is); (case k => k_is)
    case h_backwards => refine' Sk.d1_mk KX G Sk.bd_backwards ?a ?l ?c ?k; (case a => k_is); (case l => k_is); (case c => k_is); (case k => k_is)
    case h_values_of => refine' Sk.d1_mk KX G Sk.bd_values_of ?a ?l ?c ?k; (case a => k_is); (case l => k_is); (case c => k_is); (case k => k_is)
    case h_solve => refine' Sk.d1_mk KX G Sk.bd_solve ?a ?l ?c ?k; (case a => k_is); (case l => k_is); (case c => k_is); (case k => k_is)
    case h_L_deck => refine' Sk.d1_mk KX G Sk.bd_L_deck ?a ?l ?c ?k; (case a => k_is); (case l => k_is); (case c => k_is); (case k => k_is)
    case h_L_draw => refine' Sk.d1_mk KX G Sk.bd_L_draw ?a ?l ?c ?k; (case a => k_is); (case l => k_is); (case c => k_is); (case k => k_is)
    case h_L_ways => refine' Sk.d1_mk KX G Sk.bd_L_ways ?a ?l ?c ?k; (case a => k_is); (case l => k_is); (case c => k_is); (case k => k_is)
    case h_L_program => refine' Sk.d1_mk KX G Sk.bd_L_program ?a ?l ?c ?k; (case a => k_is); (case l => k_is); (case c => k_is); (case k => k_is)
    case h_L_condition => refine' Sk.d1_mk KX G Sk.bd_L_condition ?a ?l ?c ?k; (case a => k_is); (case l => k_is); (case c => k_is); (case k => k_is)
    case h_L_rules => refine' Sk.d1_mk KX G Sk.bd_L_rules ?a ?l ?c ?k; (case a => k_is); (case l => k_is); (case c => k_is); (case k => k_is)
    case h_L_game => refine' Sk.d1_mk KX G Sk.bd_L_game ?a ?l ?c ?k; (case a => k_is); (case l => k_is); (case c => k_is); (case k => k_is)
    case h_L_position => refine' Sk.d1_mk KX G Sk.bd_L_position ?a ?l ?c ?k; (case a => k_is); (case l => k_is); (case c => k_is); (case k => k_is)
    case h_L_step => refine' Sk.d1_mk KX G Sk.bd_L_step ?a ?l ?c ?k; (case a => k_is); (case l => k_is); (case c => k_is); (case k => k_is)
    case h_L_spots => refine' Sk.d1_mk KX G Sk.bd_L_spots ?a ?l ?c ?k; (case a => k_is); (case l => k_is); (case c => k_is); (case k => k_is)
    case h_L_moves => refine' Sk.d1_mk KX G Sk.bd_L_moves ?a ?l ?c ?k; (case a => k_is); (case l => k_is); (case c => k_is); (case k => k_is)
    case h_L_met => refine' Sk.d1_mk KX G Sk.bd_L_met ?a ?l ?c ?k; (case a => k_is); (case l => k_is); (case c => k_is); (case k => k_is)
    case h_L_over => refine' Sk.d1_mk KX G Sk.bd_L_over ?a ?l ?c ?k; (case a => k_is); (case l => k_is); (case c => k_is); (case k => k_is)
    case h_L_next => refine' Sk.d1_mk KX G Sk.bd_L_next ?a ?l ?c ?k; (case a => k_is); (case l => k_is); (case c => k_is); (case k => k_is)
    case h_L_table => refine' Sk.d1_mk KX G Sk.bd_L_table ?a ?l ?c ?k; (case a => k_is); (case l => k_is); (case c => k_is); (case k => k_is)
    case h_L_small => refine' Sk.d1_mk KX G Sk.bd_L_small ?a ?l ?c ?k; (case a => k_is); (case l => k_is); (case c => k_is); (case k => k_is)
    case h_L_keeping => refine' Sk.d1_mk KX G Sk.bd_L_keeping ?a ?l ?c ?k; (case a => k_is); (case l => k_is); (case c => k_is); (case k => k_is)
    case h_L_played => refine' Sk.d1_mk KX G Sk.bd_L_played ?a ?l ?c ?k; (case a => k_is); (case l => k_is); (case c => k_is); (case k => k_is)
    case h_law => refine' Sk.d1_mk KX G Sk.bd_law ?a ?l ?c ?k; (case a => k_is); (case l => k_is); (case c => k_is); (case k => k_is)
    case h_Solver_valued => refine' Sk.m1_mk Sk.bd_Solver_valued ?a ?i ?l ?c ?k; (case a => k_is); (case i => k_is); (case l => k_is); (case c => k_is); (case k => k_is)
    case h_Solver_turn => refine' Sk.m1_mk Sk.bd_Solver_turn ?a ?i ?l ?c ?k; (case a => k_is); (case i => k_is); (case l => k_is); (case c => k_is); (case k => k_is)
    case h_Solver_solve => refine' Sk.m1_mk Sk.bd_Solver_solve ?a ?i ?l ?c ?k; (case a => k_is); (case i => k_is); (case l => k_is); (case c => k_is); (case k => k_is)
    case n_Solver_table => k_is
    case n_Solver_book => k_is
    case n_Solver_before => k_is
    case n_Solver_unsettled => k_is
    case n_Board_size => k_is
    case n_Board_ways => k_is
    case n_Game_board => k_is
    case n_Game_kinds => k_is
    case n_Game_clauses => k_is
    case n_Game_programs => k_is
    case z_len => k_is
    case z_sorted => k_is
    case z_range => k_is
    case z_any => k_is
    case z_tuple => k_is
    case z_list => k_is
    case z_int => k_is
    case z_set => k_is
    case z_enumerate => k_is
    case h_MOST => refine' Sk.most_mk KX G ?g; (case g => k_is)
    case h_DRAWN => refine' Sk.drawn_mk KX G ?g ?l; (case g => k_is); (case l => k_is)
