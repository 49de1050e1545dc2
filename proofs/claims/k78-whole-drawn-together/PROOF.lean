import PyProof.Rows.All
import Wide.All
import OpenK.AllK
import Wide.FinOn
import HandS.ForMost
import HandS.IsInst
import HandS.Deep
import HandS.Style
import HandS.SortInts
import HandS.Iter
import KE.GoesMore
import KE.GoesEnum
import PyProof.ReprRoads
import HandS.DictComp
import HandS.DictTup
import KE.KDictCopyH
import HandS.WordsDict
import HandS.ExcInit
import HandS.ExcOwn
import HandS.ForExc
import HandS.Words
import KE.KExcSuper
import KE.KSuper
import HandS.ExcField
import HandS.ExcIs
import KE.KExcIs
import HandS.TupMul
import HandS.TupAny
import HandS.Strs
import KE.SortData
import KE.KRevSl
import KE.DataMinMax
import HandS.EndBits
import HandS.WordsExc
import HandS.Flow
import HandS.Conv
import HandS.WideBits
import HandS.TryMany
import PyProof.ReprLen
import PySem.Challenge.RW_signrounds_k78_whole_drawn_together
set_option Elab.async false
set_option linter.all false
set_option maxRecDepth 100000
set_option maxHeartbeats 2000000
/-! Dv1: readings evaluated to plain data over a part F of the abstract heap. -/
namespace Dv
open PySem PySem.Spec L2

/-- from (F, H) to (F', H'): both grow, what is new in F' is new in H' -/
structure Gr (F H F' H' : Hp) : Prop where
  f : Same F F'
  h : Same H H'
  fh : Same F' H'
  nw : ∀ b o, F' b = some o → F b = some o ∨ H b = none
theorem Gr.refl {F H : Hp} (e : Same F H) : Gr F H F H := ⟨Same.refl F, Same.refl H, e, fun _ _ h => .inl h⟩
theorem Gr.trans {F H F1 H1 F2 H2 : Hp} (a : Gr F H F1 H1) (b : Gr F1 H1 F2 H2) : Gr F H F2 H2 :=
  ⟨a.f.trans b.f, a.h.trans b.h, b.fh, fun c o h => by
    rcases b.nw c o h with h1 | h1
    · exact a.nw c o h1
    · exact .inr (a.h.free h1)⟩
theorem same_upd {H : Hp} {p : Addr} {o : HO} (h : H p = none) : Same H (upd H p o) := fun b x e => by
  rw [upd_ne (ne_of_none e h)]
  exact e
theorem same_upd2 {F H : Hp} {p : Addr} {o : HO} (e : Same F H) : Same (upd F p o) (upd H p o) := fun b x z => by
  by_cases h : b = p
  · subst h
    rw [upd_same] at z ⊢
    exact z
  · rw [upd_ne h] at z ⊢
    exact e _ _ z
/-- what F does not hold may change -/
theorem same_mut {F H : Hp} {p : Addr} {o : HO} (e : Same F H) (h : F p = none) : Same F (upd H p o) := fun b x z => by
  rw [upd_ne (ne_of_none z h)]
  exact e _ _ z
theorem Gr.new {F H : Hp} {p : Addr} {o : HO} (e : Same F H) (h : H p = none) : Gr F H (upd F p o) (upd H p o) :=
  ⟨same_upd (e.free h), same_upd h, same_upd2 e, fun b x z => by
    by_cases q : b = p
    · exact .inr (by rw [q]; exact h)
    · rw [upd_ne q] at z
      exact .inl z⟩
/-- a new object that F does not take up -/
theorem Gr.own {F H : Hp} {p : Addr} {o : HO} (e : Same F H) (h : H p = none) : Gr F H F (upd H p o) :=
  ⟨Same.refl F, same_upd h, same_mut e (e.free h), fun _ _ z => .inl z⟩
/-- what stands in H but not in F is not in F' -/
theorem Gr.out {F H F' H' : Hp} (g : Gr F H F' H') {b : Addr} {o : HO} (hb : H b = some o) (hf : F b = none) : F' b = none := by
  cases e : F' b with
  | none => rfl
  | some u =>
    rcases g.nw b u e with z | z
    · rw [hf] at z; cases z
    · rw [hb] at z; cases z

end Dv
namespace L2
open PySem PySem.Spec
/-! ### data -/
section
variable {K : PySem.W.Frag} {F F' H H' : Hp}
theorem sqT_mono (e : Same F F') {a : Addr} {xs : List V} (h : SqT K F a xs) : SqT K F' a xs := by
  rcases h with (h | ⟨o, h⟩) | h
  · exact .inl (.inl (e _ _ h))
  · exact .inl (.inr ⟨o, e _ _ h⟩)
  · exact .inr h
mutual
theorem Dp.mono (e : Same F F') : ∀ (d : PyData) (v : V), Dp K F v d → Dp K F' v d
  | .none, _, .non => .non
  | .bool _, _, .bl b => .bl b
  | .int _, _, .int i => .int i
  | .str _, _, .str x => .str x
  | .list ds, _, .lst h r => .lst (e.seq h) (DpAll.mono e ds _ r)
  | .tuple ds, _, .tup h r => .tup (sqT_mono e h) (DpAll.mono e ds _ r)
theorem DpAll.mono (e : Same F F') : ∀ (ds : List PyData) (vs : List V), DpAll K F vs ds → DpAll K F' vs ds
  | [], _, .nil => .nil
  | d :: ds, _, .cons h r => .cons (Dp.mono e d _ h) (DpAll.mono e ds _ r)
end
theorem Dp.up (e : Same F F') {d : PyData} {v : V} (h : Dp K F v d) : Dp K F' v d := Dp.mono e d v h
theorem DpAll.up (e : Same F F') {ds : List PyData} {vs : List V} (h : DpAll K F vs ds) : DpAll K F' vs ds := DpAll.mono e ds vs h
theorem Dp.int_inv {v : V} {i : Int} (h : Dp K F v (.int i)) : v = .int i := by cases h; rfl
theorem Dp.bl_inv {v : V} {b : Bool} (h : Dp K F v (.bool b)) : v = .bl b := by cases h; rfl
theorem Dp.non_inv {v : V} (h : Dp K F v .none) : v = .non := by cases h; rfl
theorem Dp.str_inv {v : V} {x : Str} (h : Dp K F v (.str x)) : v = .str x := by cases h; rfl
theorem Dp.tup_inv {v : V} {ds : List PyData} (h : Dp K F v (.tuple ds)) : ∃ a xs, v = .ref a ∧ SqT K F a xs ∧ DpAll K F xs ds := by
  cases h with
  | tup h r => exact ⟨_, _, rfl, h, r⟩
theorem Dp.lst_inv {v : V} {ds : List PyData} (h : Dp K F v (.list ds)) : ∃ a xs, v = .ref a ∧ SqL K F a xs ∧ DpAll K F xs ds := by
  cases h with
  | lst h r => exact ⟨_, _, rfl, h, r⟩
theorem DpAll.len : ∀ {ds : List PyData} {vs : List V}, DpAll K F vs ds → vs.length = ds.length
  | [], _, .nil => rfl
  | _ :: _, _, .cons _ r => by rw [List.length_cons, List.length_cons, DpAll.len r]
theorem DpAll.at : ∀ {ds : List PyData} {vs : List V} {i : Nat} {d : PyData}, DpAll K F vs ds → ds[i]? = some d → ∃ v, vs[i]? = some v ∧ Dp K F v d
  | [], _, _, _, .nil, e => by simp at e
  | _ :: _, _, 0, _, .cons h _, e => by
    simp only [List.getElem?_cons_zero, Option.some.injEq] at e
    subst e
    exact ⟨_, rfl, h⟩
  | _ :: _, _, i + 1, d, .cons _ r, e => by
    obtain ⟨v, h1, h2⟩ := DpAll.at (i := i) (d := d) r (by simpa using e)
    exact ⟨v, by simpa using h1, h2⟩
theorem DpAll.atV : ∀ {ds : List PyData} {vs : List V} {i : Nat} {v : V}, DpAll K F vs ds → vs[i]? = some v → ∃ d, ds[i]? = some d ∧ Dp K F v d
  | [], _, _, _, .nil, e => by simp at e
  | _ :: _, _, 0, _, .cons h _, e => by
    simp only [List.getElem?_cons_zero, Option.some.injEq] at e
    subst e
    exact ⟨_, rfl, h⟩
  | _ :: _, _, i + 1, v, .cons _ r, e => by
    obtain ⟨d, h1, h2⟩ := DpAll.atV (i := i) (v := v) r (by simpa using e)
    exact ⟨d, by simpa using h1, h2⟩
theorem DpAll.app : ∀ {ds es : List PyData} {vs us : List V}, DpAll K F vs ds → DpAll K F us es → DpAll K F (vs ++ us) (ds ++ es)
  | [], _, _, _, .nil, h => h
  | _ :: _, _, _, _, .cons h r, s => .cons h (DpAll.app r s)
theorem DpAll.one {d : PyData} {v : V} (h : Dp K F v d) : DpAll K F [v] [d] := .cons h .nil
theorem DpAll.ints : ∀ ns : List Int, DpAll K F (ns.map V.int) (ns.map PyData.int)
  | [] => .nil
  | n :: r => .cons (.int n) (DpAll.ints r)
theorem DpAll.ints_inv : ∀ {ns : List Int} {vs : List V}, DpAll K F vs (ns.map PyData.int) → vs = ns.map V.int
  | [], _, .nil => rfl
  | n :: r, _, .cons h t => by rw [h.int_inv, DpAll.ints_inv t]; rfl
theorem DpAll.bls_inv : ∀ {bs : List Bool} {vs : List V}, DpAll K F vs (bs.map PyData.bool) → vs = bs.map V.bl
  | [], _, .nil => rfl
  | n :: r, _, .cons h t => by rw [h.bl_inv, DpAll.bls_inv t]; rfl
theorem DpAll.take : ∀ {ds : List PyData} {vs : List V} (n : Nat), DpAll K F vs ds → DpAll K F (vs.take n) (ds.take n)
  | _, _, 0, _ => by simp; exact .nil
  | [], _, n + 1, .nil => .nil
  | _ :: _, _, n + 1, .cons h r => .cons h (DpAll.take n r)
theorem DpAll.drop : ∀ {ds : List PyData} {vs : List V} (n : Nat), DpAll K F vs ds → DpAll K F (vs.drop n) (ds.drop n)
  | _, _, 0, h => h
  | [], _, n + 1, .nil => .nil
  | _ :: _, _, n + 1, .cons _ r => DpAll.drop n r
theorem DpAll.reverse : ∀ {ds : List PyData} {vs : List V}, DpAll K F vs ds → DpAll K F vs.reverse ds.reverse
  | [], _, .nil => .nil
  | _ :: _, _, .cons h r => by rw [List.reverse_cons, List.reverse_cons]; exact (DpAll.reverse r).app (.one h)
theorem DpAll.set : ∀ {ds : List PyData} {vs : List V} {d : PyData} {v : V} (i : Nat), Dp K F v d → DpAll K F vs ds → DpAll K F (vs.set i v) (ds.set i d)
  | [], _, _, _, _, _, .nil => .nil
  | _ :: _, _, _, _, 0, h, .cons _ r => .cons h r
  | _ :: _, _, _, _, i + 1, h, .cons g r => .cons g (DpAll.set i h r)
theorem DpAll.repl {d : PyData} {v : V} (h : Dp K F v d) : ∀ n : Nat, DpAll K F (List.replicate n v) (List.replicate n d)
  | 0 => .nil
  | n + 1 => .cons h (DpAll.repl h n)
end

end L2
namespace Dv
open PySem PySem.Spec L2
/-! ### evaluation -/
/-- te, at the slots σ, over the data heap F and the heap H: it gives a value of which P holds -/
def EvP (te : TE) (σ : St) (F H : Hp) (P : V → Hp → Hp → Prop) : Prop :=
  ∀ F1 H1, Same F F1 → Same H H1 → Same F1 H1 → ∀ Q : VK, (∀ v F2 H2, Gr F1 H1 F2 H2 → P v F2 H2 → Q v H2) → te σ H1 Q
/-- .. a value that is the datum d -/
abbrev EvD (K : PySem.W.Frag) (te : TE) (σ : St) (F H : Hp) (d : PyData) : Prop := EvP te σ F H fun v F2 _ => Dp K F2 v d
/-- .. the very value v -/
abbrev EvV (te : TE) (σ : St) (F H : Hp) (v : V) : Prop := EvP te σ F H fun u _ _ => u = v
def EvT (tt : TT) (σ : St) (F H : Hp) (b : Bool) : Prop :=
  ∀ F1 H1, Same F F1 → Same H H1 → Same F1 H1 → ∀ Q : Bool → Hp → Prop, (∀ F2 H2, Gr F1 H1 F2 H2 → Q b H2) → tt σ H1 Q
def EvAP (ta : TA) (σ : St) (F H : Hp) (P : List V → Hp → Hp → Prop) : Prop :=
  ∀ F1 H1, Same F F1 → Same H H1 → Same F1 H1 → ∀ Q : List V → Hp → Prop, (∀ vs F2 H2, Gr F1 H1 F2 H2 → P vs F2 H2 → Q vs H2) → ta σ H1 Q
abbrev EvA (K : PySem.W.Frag) (ta : TA) (σ : St) (F H : Hp) (ds : List PyData) : Prop := EvAP ta σ F H fun vs F2 _ => DpAll K F2 vs ds
section
variable {K : PySem.W.Frag} {σ : St} {F F' H H' : Hp} {te ta tb tx : TE} {tt tu : TT} {tr : TA} {d e : PyData} {ds : List PyData} {v : V} {b c : Bool} {i j : Int} {r : R2}
theorem EvP.mono {P : V → Hp → Hp → Prop} (a : Same F F') (g : Same H H') (h : EvP te σ F H P) : EvP te σ F' H' P := fun F1 H1 x y z => h F1 H1 (a.trans x) (g.trans y) z
theorem EvP.imp {P R : V → Hp → Hp → Prop} (h : EvP te σ F H P) (k : ∀ v F2 H2, P v F2 H2 → R v F2 H2) : EvP te σ F H R :=
  fun F1 H1 x y z Q q => h F1 H1 x y z Q fun v F2 H2 g p => q v F2 H2 g (k v F2 H2 p)
theorem EvT.mono (a : Same F F') (g : Same H H') (h : EvT tt σ F H b) : EvT tt σ F' H' b := fun F1 H1 x y z => h F1 H1 (a.trans x) (g.trans y) z
theorem evd_eq (h : EvD K te σ F H d) (q : d = e) : EvD K te σ F H e := by rw [← q]; exact h
theorem evt_eq (h : EvT tt σ F H b) (q : b = c) : EvT tt σ F H c := by rw [← q]; exact h
theorem evv_of_int (h : EvD K te σ F H (.int i)) : EvV te σ F H (.int i) := h.imp fun _ _ _ p => p.int_inv
theorem evv_of_bl (h : EvD K te σ F H (.bool b)) : EvV te σ F H (.bl b) := h.imp fun _ _ _ p => p.bl_inv
theorem evd_of_v (h : EvV te σ F H v) (q : Dp K F v d) : EvD K te σ F H d := fun F1 H1 x y z Q k => h F1 H1 x y z Q fun u F2 H2 g e => k u F2 H2 g (by rw [e]; exact q.up (x.trans g.f))
/-- a name -/
theorem evv_var {n : Nat} (h : σ[n]? = some (some v)) : EvV (tVar n) σ F H v := fun F1 H1 _ _ z Q q => ⟨v, h, q v F1 H1 (.refl z) rfl⟩
theorem evd_var {n : Nat} (h : σ[n]? = some (some v)) (q : Dp K F v d) : EvD K (tVar n) σ F H d := evd_of_v (evv_var h) q
theorem evd_vari {n : Nat} (h : σ[n]? = some (some (.int i))) : EvD K (tVar n) σ F H (.int i) := evd_var h (.int i)
/-- constants -/
theorem evv_c : EvV (tC v) σ F H v := fun F1 H1 _ _ z Q q => q v F1 H1 (.refl z) rfl
theorem evd_c (q : Dp K F v d) : EvD K (tC v) σ F H d := evd_of_v evv_c q
theorem evd_i : EvD K (tC (.int i)) σ F H (.int i) := evd_c (.int i)
theorem evd_b : EvD K (tC (.bl b)) σ F H (.bool b) := evd_c (.bl b)
theorem evd_n : EvD K (tC .non) σ F H .none := evd_c .non
/-- two operands, any values -/
theorem evp_op {P1 P2 P3 : V → Hp → Hp → Prop} (ha : EvP ta σ F H P1) (hb : EvP tb σ F H P2) (hm : ∀ v F1 H1 F2 H2, P1 v F1 H1 → Gr F1 H1 F2 H2 → P1 v F2 H2)
    (hr : ∀ x y F1 H1, Same F F1 → Same H H1 → Same F1 H1 → P1 x F1 H1 → P2 y F1 H1 → ∀ Q : VK, (∀ v F2 H2, Gr F1 H1 F2 H2 → P3 v F2 H2 → Q v H2) → r x y H1 Q) : EvP (tOp r ta tb) σ F H P3 :=
  fun F1 H1 x y z Q q => ha F1 H1 x y z _ fun v F2 H2 g2 p2 => hb F2 H2 (x.trans g2.f) (y.trans g2.h) g2.fh _ fun u F3 H3 g3 p3 =>
    hr v u F3 H3 ((x.trans g2.f).trans g3.f) ((y.trans g2.h).trans g3.h) g3.fh (hm _ _ _ _ _ p2 g3) p3 Q fun w F4 H4 g4 p4 => q w F4 H4 ((g2.trans g3).trans g4) p4
/-- two data -/
theorem evd_op {P3 : V → Hp → Hp → Prop} (ha : EvD K ta σ F H d) (hb : EvD K tb σ F H e)
    (hr : ∀ x y F1 H1, Same F F1 → Same H H1 → Same F1 H1 → Dp K F1 x d → Dp K F1 y e → ∀ Q : VK, (∀ v F2 H2, Gr F1 H1 F2 H2 → P3 v F2 H2 → Q v H2) → r x y H1 Q) : EvP (tOp r ta tb) σ F H P3 :=
  evp_op ha hb (fun _ _ _ _ _ p g => p.up g.f) hr
theorem evd_opI {g : Int → Int → Int} (ha : EvD K ta σ F H (.int i)) (hb : EvD K tb σ F H (.int j)) : EvD K (tOp (rI0 fun a b => .int (g a b)) ta tb) σ F H (.int (g i j)) :=
  evd_op ha hb fun x y F1 H1 _ _ z p1 p2 Q q => ⟨i, j, p1.int_inv, p2.int_inv, q _ F1 H1 (.refl z) (.int _)⟩
theorem evd_opC {C : Int → Int → Prop} {g : Int → Int → Int} (ha : EvD K ta σ F H (.int i)) (hb : EvD K tb σ F H (.int j)) (hc : C i j) : EvD K (tOp (rI C fun a b => .int (g a b)) ta tb) σ F H (.int (g i j)) :=
  evd_op ha hb fun x y F1 H1 _ _ z p1 p2 Q q => ⟨i, j, p1.int_inv, p2.int_inv, hc, q _ F1 H1 (.refl z) (.int _)⟩
theorem evd_cmpI {g : Int → Int → Bool} (ha : EvD K ta σ F H (.int i)) (hb : EvD K tb σ F H (.int j)) : EvD K (tOp (rI0 fun a b => .bl (g a b)) ta tb) σ F H (.bool (g i j)) :=
  evd_op ha hb fun x y F1 H1 _ _ z p1 p2 Q q => ⟨i, j, p1.int_inv, p2.int_inv, q _ F1 H1 (.refl z) (.bl _)⟩
theorem evd_eqI (ha : EvD K ta σ F H (.int i)) (hb : EvD K tb σ F H (.int j)) : EvD K (tOp rEq ta tb) σ F H (.bool (decide (i = j))) :=
  evd_op ha hb fun x y F1 H1 _ _ z p1 p2 Q q => by
    rw [p1.int_inv, p2.int_inv]
    refine ⟨rfl, ?_⟩
    have e : decide (V.int i = V.int j) = decide (i = j) := by rw [dec_int]; rfl
    rw [e]
    exact q _ F1 H1 (.refl z) (.bl _)
theorem evd_neI (ha : EvD K ta σ F H (.int i)) (hb : EvD K tb σ F H (.int j)) : EvD K (tOp rNe ta tb) σ F H (.bool (!decide (i = j))) :=
  evd_op ha hb fun x y F1 H1 _ _ z p1 p2 Q q => by
    rw [p1.int_inv, p2.int_inv]
    refine ⟨rfl, ?_⟩
    have e : decide (V.int i = V.int j) = decide (i = j) := by rw [dec_int]; rfl
    rw [e]
    exact q _ F1 H1 (.refl z) (.bl _)
theorem evd_eqB (ha : EvD K ta σ F H (.bool b)) (hb : EvD K tb σ F H (.bool c)) : EvD K (tOp rEq ta tb) σ F H (.bool (b == c)) :=
  evd_op ha hb fun x y F1 H1 _ _ z p1 p2 Q q => by
    rw [p1.bl_inv, p2.bl_inv]
    refine ⟨rfl, ?_⟩
    rw [dec_bl]
    exact q _ F1 H1 (.refl z) (.bl _)
theorem evd_neB (ha : EvD K ta σ F H (.bool b)) (hb : EvD K tb σ F H (.bool c)) : EvD K (tOp rNe ta tb) σ F H (.bool (!(b == c))) :=
  evd_op ha hb fun x y F1 H1 _ _ z p1 p2 Q q => by
    rw [p1.bl_inv, p2.bl_inv]
    refine ⟨rfl, ?_⟩
    rw [dec_bl]
    exact q _ F1 H1 (.refl z) (.bl _)
theorem evd_unI {g : Int → Int} (ha : EvD K ta σ F H (.int i)) : EvD K (tUn (rU fun a => .int (g a)) ta) σ F H (.int (g i)) :=
  fun F1 H1 x y z Q q => ha F1 H1 x y z _ fun v F2 H2 g2 p2 => ⟨i, p2.int_inv, q _ F2 H2 g2 (.int _)⟩
/-- items -/
theorem evd_ixT {n : Nat} (ha : EvD K ta σ F H (.tuple ds)) (hb : EvD K tb σ F H (.int (n : Int))) (hd : ds[n]? = some d) : EvD K (tOp (rIxT K) ta tb) σ F H d :=
  evd_op ha hb fun x y F1 H1 _ _ z p1 p2 Q q => by
    obtain ⟨a, xs, rfl, hs, ha⟩ := p1.tup_inv
    obtain ⟨v, h1, h2⟩ := ha.at hd
    exact ⟨a, xs, n, v, rfl, p2.int_inv, sqT_mono z hs, atI_nat h1, q v F1 H1 (.refl z) h2⟩
theorem evd_ixL {n : Nat} (ha : EvD K ta σ F H (.list ds)) (hb : EvD K tb σ F H (.int (n : Int))) (hd : ds[n]? = some d) : EvD K (tOp (rIxL K) ta tb) σ F H d :=
  evd_op ha hb fun x y F1 H1 _ _ z p1 p2 Q q => by
    obtain ⟨a, xs, rfl, hs, ha⟩ := p1.lst_inv
    obtain ⟨v, h1, h2⟩ := ha.at hd
    exact ⟨a, xs, n, v, rfl, p2.int_inv, z.seq hs, atI_nat h1, q v F1 H1 (.refl z) h2⟩
/-- an item of a list of our own -/
theorem evp_ixO {p : Addr} {xs : List V} (hp : H p = some (.lst xs)) (ha : EvV ta σ F H (.ref p)) (hb : EvD K tb σ F H (.int i)) (hx : atI xs i = some v) : EvV (tOp (rIxL K) ta tb) σ F H v :=
  evp_op ha hb (fun _ _ _ _ _ p _ => p) fun x y F1 H1 _ h z p1 p2 Q q => ⟨p, xs, i, v, p1, p2.int_inv, SqL.of (h _ _ hp), hx, q v F1 H1 (.refl z) rfl⟩
/-- bools as values -/
theorem evd_not (ha : EvD K ta σ F H (.bool b)) : EvD K (tNotV ta) σ F H (.bool (!b)) :=
  fun F1 H1 x y z Q q => ha F1 H1 x y z _ fun v F2 H2 g2 p2 => ⟨b, p2.bl_inv, q _ F2 H2 g2 (.bl _)⟩
theorem evd_and (ha : EvD K ta σ F H (.bool b)) (hb : b = true → EvD K tb σ F H (.bool c)) : EvD K (tAndV ta tb) σ F H (.bool (b && c)) :=
  fun F1 H1 x y z Q q => ha F1 H1 x y z _ fun v F2 H2 g2 p2 => ⟨b, p2.bl_inv, by
    cases b with
    | true => exact hb rfl F2 H2 (x.trans g2.f) (y.trans g2.h) g2.fh Q fun w F3 H3 g3 p3 => q w F3 H3 (g2.trans g3) p3
    | false => exact q _ F2 H2 g2 (.bl _)⟩
theorem evd_or (ha : EvD K ta σ F H (.bool b)) (hb : b = false → EvD K tb σ F H (.bool c)) : EvD K (tOrV ta tb) σ F H (.bool (b || c)) :=
  fun F1 H1 x y z Q q => ha F1 H1 x y z _ fun v F2 H2 g2 p2 => ⟨b, p2.bl_inv, by
    cases b with
    | false => exact hb rfl F2 H2 (x.trans g2.f) (y.trans g2.h) g2.fh Q fun w F3 H3 g3 p3 => q w F3 H3 (g2.trans g3) p3
    | true => exact q _ F2 H2 g2 (.bl _)⟩
theorem evp_if {P : V → Hp → Hp → Prop} (h : EvT tt σ F H b) (h1 : b = true → EvP ta σ F H P) (h2 : b = false → EvP tb σ F H P) : EvP (tIf tt ta tb) σ F H P :=
  fun F1 H1 x y z Q q => h F1 H1 x y z _ fun F2 H2 g2 => by
    cases b with
    | true => exact h1 rfl F2 H2 (x.trans g2.f) (y.trans g2.h) g2.fh Q fun w F3 H3 g3 p3 => q w F3 H3 (g2.trans g3) p3
    | false => exact h2 rfl F2 H2 (x.trans g2.f) (y.trans g2.h) g2.fh Q fun w F3 H3 g3 p3 => q w F3 H3 (g2.trans g3) p3
/-- tests -/
theorem evt_B (h : EvD K te σ F H (.bool b)) : EvT (tB te) σ F H b := fun F1 H1 x y z Q q => h F1 H1 x y z _ fun v F2 H2 g2 p2 => ⟨b, p2.bl_inv, q F2 H2 g2⟩
theorem evt_test (h : EvD K te σ F H (.bool b)) : EvT (tTest te) σ F H b := fun F1 H1 x y z Q q => h F1 H1 x y z _ fun v F2 H2 g2 p2 => ⟨b, p2.bl_inv, q F2 H2 g2⟩
theorem evt_not (h : EvT tt σ F H b) : EvT (tNot tt) σ F H (!b) := fun F1 H1 x y z Q q => h F1 H1 x y z _ fun F2 H2 g2 => q F2 H2 g2
theorem evt_and (h : EvT tt σ F H b) (hb : b = true → EvT tu σ F H c) : EvT (tAnd tt tu) σ F H (b && c) :=
  fun F1 H1 x y z Q q => h F1 H1 x y z _ fun F2 H2 g2 => by
    cases b with
    | true => exact hb rfl F2 H2 (x.trans g2.f) (y.trans g2.h) g2.fh Q fun F3 H3 g3 => q F3 H3 (g2.trans g3)
    | false => exact q F2 H2 g2
theorem evt_or (h : EvT tt σ F H b) (hb : b = false → EvT tu σ F H c) : EvT (tOr tt tu) σ F H (b || c) :=
  fun F1 H1 x y z Q q => h F1 H1 x y z _ fun F2 H2 g2 => by
    cases b with
    | false => exact hb rfl F2 H2 (x.trans g2.f) (y.trans g2.h) g2.fh Q fun F3 H3 g3 => q F3 H3 (g2.trans g3)
    | true => exact q F2 H2 g2
theorem evt_yes : EvT tYes σ F H true := fun F1 H1 _ _ z Q q => q F1 H1 (.refl z)
/-- a chain of two comparisons of ints -/
theorem evd_chain {g g' : Int → Int → Bool} {k : Int} (ha : EvD K ta σ F H (.int i)) (hb : EvD K tb σ F H (.int j)) (hc : EvD K tx σ F H (.int k)) :
    EvD K (tChain (rI0 fun a b => .bl (g a b)) (rI0 fun a b => .bl (g' a b)) ta tb tx) σ F H (.bool (g i j && g' j k)) :=
  fun F1 H1 x y z Q q => ha F1 H1 x y z _ fun v F2 H2 g2 p2 => hb F2 H2 (x.trans g2.f) (y.trans g2.h) g2.fh _ fun u F3 H3 g3 p3 => ⟨i, j, p2.int_inv, p3.int_inv, g i j, rfl, by
    cases e : g i j with
    | true =>
      refine hc F3 H3 ((x.trans g2.f).trans g3.f) ((y.trans g2.h).trans g3.h) g3.fh _ fun w F4 H4 g4 p4 => ⟨j, k, p3.int_inv, p4.int_inv, ?_⟩
      have z : (true && g' j k) = g' j k := rfl
      rw [e, z] at q
      exact q _ F4 H4 ((g2.trans g3).trans g4) (.bl _)
    | false =>
      rw [e] at q
      exact q _ F3 H3 (g2.trans g3) (.bl _)⟩
/-- arguments -/
theorem eva_nil : EvA K tNil σ F H [] := fun F1 H1 _ _ z Q q => q [] F1 H1 (.refl z) .nil
theorem eva_cons (h : EvD K te σ F H d) (hr : EvA K tr σ F H ds) : EvA K (tCons te tr) σ F H (d :: ds) :=
  fun F1 H1 x y z Q q => h F1 H1 x y z _ fun v F2 H2 g2 p2 => hr F2 H2 (x.trans g2.f) (y.trans g2.h) g2.fh _ fun vs F3 H3 g3 p3 => q _ F3 H3 (g2.trans g3) (.cons (p2.up g3.f) p3)
theorem eva_one (h : EvD K te σ F H d) : EvA K (tCons te tNil) σ F H [d] := eva_cons h eva_nil
/-- .. the first of any kind -/
theorem evap_cons {P : V → Hp → Hp → Prop} (h : EvP te σ F H P) (hm : ∀ v F1 H1 F2 H2, P v F1 H1 → Gr F1 H1 F2 H2 → P v F2 H2) {R : List V → Hp → Hp → Prop} (hr : EvAP tr σ F H R) : EvAP (tCons te tr) σ F H (fun vs F2 H2 => ∃ v us, vs = v :: us ∧ P v F2 H2 ∧ R us F2 H2) :=
  fun F1 H1 x y z Q q => h F1 H1 x y z _ fun v F2 H2 g2 p2 => hr F2 H2 (x.trans g2.f) (y.trans g2.h) g2.fh _ fun vs F3 H3 g3 p3 => q _ F3 H3 (g2.trans g3) ⟨v, vs, rfl, hm _ _ _ _ _ p2 g3, p3⟩
/-- displays -/
theorem evd_tup (h : EvA K tr σ F H ds) (hl : ds.length ≤ 100000 := by decide) : EvD K (tTup tr) σ F H (.tuple ds) :=
  fun F1 H1 x y z Q q => h F1 H1 x y z _ fun vs F2 H2 g2 p2 => ⟨Nat.le_trans (by rw [p2.len]; exact hl) (by decide), fun p hp =>
    q _ (upd F2 p (.tup vs)) _ (g2.trans (.new g2.fh hp)) (.tup (SqT.of upd_same) (p2.up (same_upd (g2.fh.free hp))))⟩
theorem evd_lst (h : EvA K tr σ F H ds) (hl : ds.length ≤ 100000 := by decide) : EvD K (tLst tr) σ F H (.list ds) :=
  fun F1 H1 x y z Q q => h F1 H1 x y z _ fun vs F2 H2 g2 p2 => ⟨Nat.le_trans (by rw [p2.len]; exact hl) (by decide), fun p hp =>
    q _ (upd F2 p (.lst vs)) _ (g2.trans (.new g2.fh hp)) (.lst (SqL.of upd_same) (p2.up (same_upd (g2.fh.free hp))))⟩
/-- a list of our own -/
def OwnL (K : PySem.W.Frag) (ds : List PyData) : V → Hp → Hp → Prop := fun v F H => ∃ p xs, v = .ref p ∧ F p = none ∧ H p = some (.lst xs) ∧ DpAll K F xs ds
theorem OwnL.up {v : V} {F1 H1 F2 H2 : Hp} (h : OwnL K ds v F1 H1) (g : Gr F1 H1 F2 H2) : OwnL K ds v F2 H2 := by
  obtain ⟨p, xs, rfl, a, b, c⟩ := h
  exact ⟨p, xs, rfl, g.out b a, g.h _ _ b, c.up g.f⟩
theorem evp_lst (h : EvA K tr σ F H ds) (hl : ds.length ≤ 100000 := by decide) : EvP (tLst tr) σ F H (OwnL K ds) :=
  fun F1 H1 x y z Q q => h F1 H1 x y z _ fun vs F2 H2 g2 p2 => ⟨Nat.le_trans (by rw [p2.len]; exact hl) (by decide), fun p hp =>
    q _ F2 _ (g2.trans (.own g2.fh hp)) ⟨p, vs, rfl, g2.fh.free hp, upd_same, p2⟩⟩
/-- calls by name of what is known by values -/
theorem evd_cb {rc : List V → Hp → VK → Prop} {P : V → Hp → Hp → Prop} (h : EvA K tr σ F H ds)
    (hr : ∀ vs F1 H1, Same F F1 → Same H H1 → Same F1 H1 → DpAll K F1 vs ds → ∀ Q : VK, (∀ v F2 H2, Gr F1 H1 F2 H2 → P v F2 H2 → Q v H2) → rc vs H1 Q) : EvP (tCB rc tr) σ F H P :=
  fun F1 H1 x y z Q q => h F1 H1 x y z _ fun vs F2 H2 g2 p2 => hr vs F2 H2 (x.trans g2.f) (y.trans g2.h) g2.fh p2 Q fun v F3 H3 g3 p3 => q v F3 H3 (g2.trans g3) p3
end
end Dv
set_option maxRecDepth 100000
set_option maxHeartbeats 2000000
/-! Dv2: walks, comprehensions, calls, statements over Dv1. -/
namespace Dv
open PySem PySem.Spec L2
section
variable {K : PySem.W.Frag} {σ : St} {F F' H H' : Hp} {te ta tb tx : TE} {tt tu : TT} {tr : TA} {d e : PyData} {ds : List PyData} {v : V} {b c : Bool} {i j : Int} {r : R2}

/-! ### what is walked: n turns, at turn i a value of the datum item i -/
def IwD (K : PySem.W.Frag) (wi : TI) (σ : St) (F H : Hp) (n : Nat) (item : Nat → PyData) : Prop :=
  ∀ F1 H1, Same F F1 → Same H H1 → Same F1 H1 → ∀ R : It → Hp → Prop,
    (∀ J F2 H2, Gr F1 H1 F2 H2 → (∀ i F' H', Same F2 F' → Same F' H' → i < n → J.go i H') → (∀ F' H', Same F2 F' → Same F' H' → J.stop n H') →
      (∀ i F' H' x H'', Same F2 F' → Same F' H' → i < n → J.yld i H' x H'' → ∃ F'', Gr F' H' F'' H'' ∧ Dp K F'' x (item i)) → R J H2) → wi σ H1 R
theorem IwD.mono {wi : TI} {n : Nat} {item : Nat → PyData} (a : Same F F') (g : Same H H') (h : IwD K wi σ F H n item) : IwD K wi σ F' H' n item := fun F1 H1 x y z => h F1 H1 (a.trans x) (g.trans y) z
theorem iwd_range1 {n : Int} (h : EvD K ta σ F H (.int n)) (hn : n ≤ 100000) (h0 : -100000 ≤ n) : IwD K (iRng1 (tCons ta tNil)) σ F H n.toNat fun i => .int (i : Nat) :=
  fun F1 H1 x y z R q => h F1 H1 x y z _ fun v F2 H2 g2 p2 => ⟨n, by rw [p2.int_inv], by omega, by omega, q _ F2 H2 g2 (fun _ _ _ _ _ h => h) (fun _ _ _ _ => Nat.le_refl _) fun i F' H' u H'' _ z' _ hy => by
    obtain ⟨e, e2⟩ := hy
    subst e e2
    exact ⟨F', .refl z', by rw [Int.zero_add]; exact .int _⟩⟩
theorem iwd_range2 {lo n : Int} (h1 : EvD K ta σ F H (.int lo)) (h2 : EvD K tb σ F H (.int n)) (hb : -100000 ≤ lo ∧ lo ≤ 100000 ∧ -100000 ≤ n ∧ n ≤ 100000) : IwD K (iRng2 (tCons ta (tCons tb tNil))) σ F H (n - lo).toNat fun i => .int (lo + (i : Nat)) :=
  fun F1 H1 x y z R q => h1 F1 H1 x y z _ fun v F2 H2 g2 p2 => h2 F2 H2 (x.trans g2.f) (y.trans g2.h) g2.fh _ fun u F3 H3 g3 p3 => ⟨lo, n, by rw [p2.int_inv, p3.int_inv], by omega, q _ F3 H3 (g2.trans g3) (fun _ _ _ _ _ h => h) (fun _ _ _ _ => Nat.le_refl _) fun i F' H' u H'' _ z' _ hy => by
    obtain ⟨e, e2⟩ := hy
    subst e e2
    exact ⟨F', .refl z', .int _⟩⟩
theorem iwd_tup (h : EvD K te σ F H (.tuple ds)) : IwD K (iTup K te) σ F H ds.length fun i => ds.getD i .none :=
  fun F1 H1 x y z R q => h F1 H1 x y z _ fun v F2 H2 g2 p2 => by
    obtain ⟨a, xs, rfl, hs, ha⟩ := p2.tup_inv
    have hl := ha.len
    refine ⟨a, rfl, ⟨xs, sqT_mono g2.fh hs⟩, q _ F2 H2 g2 (fun i F' H' f z' hi => ?_) (fun F' H' f z' => ⟨xs, sqT_mono (f.trans z') hs, by omega⟩) fun i F' H' u H'' f z' hi hy => ?_⟩
    · exact ⟨xs, xs[i]'(by omega), sqT_mono (f.trans z') hs, List.getElem?_eq_getElem (by omega)⟩
    · obtain ⟨e, hy⟩ := hy
      subst e
      obtain ⟨d, h1, h2⟩ := ha.atV (hy xs (sqT_mono (f.trans z') hs))
      refine ⟨F', .refl z', ?_⟩
      have e : ds.getD i .none = d := by rw [List.getD_eq_getElem?_getD, h1]; rfl
      show Dp K F' u (ds.getD i .none)
      rw [e]
      exact h2.up f
theorem iwd_lst (h : EvD K te σ F H (.list ds)) : IwD K (iList K te) σ F H ds.length fun i => ds.getD i .none :=
  fun F1 H1 x y z R q => h F1 H1 x y z _ fun v F2 H2 g2 p2 => by
    obtain ⟨a, xs, rfl, hs, ha⟩ := p2.lst_inv
    have hl := ha.len
    refine ⟨a, rfl, ⟨xs, g2.fh.seq hs⟩, q _ F2 H2 g2 (fun i F' H' f z' hi => ?_) (fun F' H' f z' => ⟨xs, (f.trans z').seq hs, by omega⟩) fun i F' H' u H'' f z' hi hy => ?_⟩
    · exact ⟨xs, xs[i]'(by omega), (f.trans z').seq hs, List.getElem?_eq_getElem (by omega)⟩
    · obtain ⟨e, hy⟩ := hy
      subst e
      obtain ⟨d, h1, h2⟩ := ha.atV (hy xs ((f.trans z').seq hs))
      refine ⟨F', .refl z', ?_⟩
      have e : ds.getD i .none = d := by rw [List.getD_eq_getElem?_getD, h1]; rfl
      show Dp K F' u (ds.getD i .none)
      rw [e]
      exact h2.up f

theorem IwD.congr {wi : TI} {n : Nat} {item item' : Nat → PyData} (h : IwD K wi σ F H n item) (e : ∀ i, i < n → item i = item' i) : IwD K wi σ F H n item' :=
  fun F1 H1 x y z R q => h F1 H1 x y z R fun J F2 H2 g go stop yld => q J F2 H2 g go stop fun i F' H' u H'' a b hi hy => by
    obtain ⟨F3, g3, h3⟩ := yld i F' H' u H'' a b hi hy
    exact ⟨F3, g3, by rw [← e i hi]; exact h3⟩
theorem getD_rng {α : Type} {n i : Nat} {f : Nat → α} {d : α} (h : i < n) : ((List.range n).map f).getD i d = f i := by
  rw [List.getD_eq_getElem?_getD, List.getElem?_map, List.getElem?_range h]; rfl
theorem at_rng {α : Type} {n i : Nat} {f : Nat → α} (h : i < n) : ((List.range n).map f)[i]? = some (f i) := by
  rw [List.getElem?_map, List.getElem?_range h]; rfl
theorem len_rng {α : Type} {n : Nat} {f : Nat → α} : ((List.range n).map f).length = n := by rw [List.length_map, List.length_range]
theorem iwd_tupR {n : Nat} {f : Nat → PyData} (h : EvD K te σ F H (.tuple ((List.range n).map f))) : IwD K (iTup K te) σ F H n f := by
  have q := iwd_tup h
  rw [len_rng] at q
  exact q.congr fun i hi => getD_rng hi
theorem iwd_lstR {n : Nat} {f : Nat → PyData} (h : EvD K te σ F H (.list ((List.range n).map f))) : IwD K (iList K te) σ F H n f := by
  have q := iwd_lst h
  rw [len_rng] at q
  exact q.congr fun i hi => getD_rng hi

/-! ### comprehensions -/
/-- what the first n turns give: of those that pass, the element -/
def picks (n : Nat) (p : Nat → Bool) (f : Nat → PyData) : List PyData := ((List.range n).filter p).map f
theorem picks_yes {n : Nat} {p : Nat → Bool} {f : Nat → PyData} (h : p n = true) : picks (n + 1) p f = picks n p f ++ [f n] := by
  unfold picks
  simp [List.range_succ, h]
theorem picks_no {n : Nat} {p : Nat → Bool} {f : Nat → PyData} (h : p n = false) : picks (n + 1) p f = picks n p f := by
  unfold picks
  simp [List.range_succ, h]
theorem picks_len (n : Nat) (p : Nat → Bool) (f : Nat → PyData) : (picks n p f).length ≤ n := by
  unfold picks
  rw [List.length_map]
  have h := List.length_filter_le p (List.range n)
  rw [List.length_range] at h
  exact h
theorem picks_all {n : Nat} {p : Nat → Bool} {f : Nat → PyData} (h : ∀ i, i < n → p i = true) : picks n p f = (List.range n).map f := by
  unfold picks
  rw [List.filter_eq_self.mpr fun i hi => h i (List.mem_range.mp hi)]
/-- a target: at a value of the datum it, it lays slots of which P holds -/
def TgD (K : PySem.W.Frag) (g : TG) (σ : St) (F H : Hp) (it : PyData) (P : St → Hp → Prop) : Prop :=
  ∀ F1 H1 x, Same F F1 → Same H H1 → Same F1 H1 → Dp K F1 x it → ∀ Q : St → Hp → Prop, (∀ σ2, P σ2 F1 → Q σ2 H1) → g x σ H1 Q
theorem tgd_name {n : Nat} {it : PyData} : TgD K (gName n) σ F H it fun σ2 F1 => ∃ x, σ2 = σ.set n (some x) ∧ Dp K F1 x it :=
  fun F1 H1 x _ _ _ h Q q => q _ ⟨x, rfl, h⟩
theorem tgd_int {n : Nat} : TgD K (gName n) σ F H (.int i) fun σ2 _ => σ2 = σ.set n (some (.int i)) :=
  fun F1 H1 x _ _ _ h Q q => q _ (by rw [h.int_inv])
theorem tgd_two {n m : Nat} {d1 d2 : PyData} : TgD K (gTup K 2 (gCons (gName n) (gCons (gName m) gNil))) σ F H (.tuple [d1, d2]) fun σ2 F1 => ∃ x y, σ2 = (σ.set n (some x)).set m (some y) ∧ Dp K F1 x d1 ∧ Dp K F1 y d2 :=
  fun F1 H1 v _ _ z h Q q => by
    obtain ⟨a, xs, rfl, hs, ha⟩ := h.tup_inv
    cases ha with
    | cons h1 t => cases t with
      | cons h2 t => cases t with
        | nil => exact ⟨a, _, rfl, sqT_mono z hs, rfl, _, _, rfl, _, _, rfl, rfl, q _ ⟨_, _, rfl, h1, h2⟩⟩
theorem tgd_two_int {n m : Nat} : TgD K (gTup K 2 (gCons (gName n) (gCons (gName m) gNil))) σ F H (.tuple [.int i, .int j]) fun σ2 _ => σ2 = (σ.set n (some (.int i))).set m (some (.int j)) :=
  fun F1 H1 v x y z h Q q => tgd_two (F := F) (H := H) F1 H1 v x y z h Q fun σ2 ⟨u, w, e, h1, h2⟩ => q σ2 (by rw [e, h1.int_inv, h2.int_inv])
theorem TgD.imp {g : TG} {it : PyData} {P R : St → Hp → Prop} (h : TgD K g σ F H it P) (k : ∀ s f, P s f → R s f) : TgD K g σ F H it R := fun F1 H1 x a b c p Q q => h F1 H1 x a b c p Q fun s z => q s (k _ _ z)
/-- [elt for target in iter if test] -/
theorem evd_lc {wi : TI} {g : TG} {n : Nat} {item : Nat → PyData} {vs : List Nat} {P : Nat → St → Hp → Prop} (p : Nat → Bool) (f : Nat → PyData) (hi : IwD K wi σ F H n item) (hn : n ≤ 50000)
    (hg : ∀ i F1 H1, i < n → Same F F1 → Same H H1 → TgD K g (wipe σ vs) F1 H1 (item i) (P i)) (hw : ∀ i σ2 F1, P i σ2 F1 → wipe σ2 vs = wipe σ vs)
    (ht : ∀ i σ2 F1 H1, i < n → Same F F1 → Same H H1 → Same F1 H1 → P i σ2 F1 → EvT tt σ2 F1 H1 (p i))
    (he : ∀ i σ2 F1 H1, i < n → p i = true → Same F F1 → Same H H1 → Same F1 H1 → P i σ2 F1 → EvD K te σ2 F1 H1 (f i)) : EvD K (tLc wi g tt te vs) σ F H (.list (picks n p f)) :=
  fun F1 H1 x y z Q q => hi F1 H1 x y z _ fun J F2 H2 g2 go stop yld D hD => by
    refine ⟨fun i m Hc => m = n - i ∧ i ≤ n ∧ ∃ Fc xs, Gr F2 H2 Fc Hc ∧ Fc D = none ∧ Hc D = some (.lst xs) ∧ DpAll K Fc xs (picks i p f), ⟨n, rfl, Nat.zero_le _, F2, [], .own g2.fh hD, g2.fh.free hD, upd_same, .nil⟩, ?_⟩
    rintro i m Hc ⟨rfl, hin, Fc, xs, gc, nD, eD, hx⟩
    by_cases hlt : i < n
    · refine .inr ⟨go i Fc Hc gc.f gc.fh hlt, fun H' => i + 1 ≤ n ∧ ∃ Fc xs, Gr F2 H2 Fc H' ∧ Fc D = none ∧ H' D = some (.lst xs) ∧ DpAll K Fc xs (picks (i + 1) p f), fun H' h => ⟨n - (i + 1), by omega, rfl, h.1, h.2⟩, fun u H' hy => ?_⟩
      obtain ⟨F3, g3, hu⟩ := yld i Fc Hc u H' gc.f gc.fh hlt hy
      have s3 : Same F F3 := (x.trans g2.f).trans (gc.f.trans g3.f)
      have t3 : Same H H' := (y.trans g2.h).trans (gc.h.trans g3.h)
      refine hg i F3 H' hlt s3 t3 F3 H' u (Same.refl _) (Same.refl _) g3.fh hu _ fun σ2 hP => ⟨hw i σ2 F3 hP, ?_⟩
      refine ht i σ2 F3 H' hlt s3 t3 g3.fh hP F3 H' (Same.refl _) (Same.refl _) g3.fh _ fun F4 H4 g4 => ?_
      have e4 : H4 D = some (.lst xs) := g4.h _ _ (g3.h _ _ eD)
      have n4 : F4 D = none := (g3.trans g4).out eD nD
      have x4 : DpAll K F4 xs (picks i p f) := hx.up (g3.trans g4).f
      cases hp : p i with
      | true =>
        refine he i σ2 F3 H' hlt hp s3 t3 g3.fh hP F4 H4 g4.f g4.h g4.fh _ fun w F5 H5 g5 hw5 => ?_
        have e5 : H5 D = some (.lst xs) := g5.h _ _ e4
        refine ⟨xs, e5, ?_, hlt, F5, xs ++ [w], ?_, g5.out e4 n4, upd_same, ?_⟩
        · have l1 := x4.len
          have l2 := picks_len i p f
          exact Nat.lt_of_le_of_lt (show xs.length ≤ 50000 by omega) (by decide)
        · have G := ((gc.trans g3).trans g4).trans g5
          have hfd : H2 D = none := hD
          exact ⟨G.f, fun b o hb => by rw [upd_ne (ne_of_none hb hfd)]; exact G.h _ _ hb, same_mut G.fh (g5.out e4 n4), G.nw⟩
        · rw [picks_yes hp]
          exact (x4.up g5.f).app (.one hw5)
      | false =>
        refine ⟨hlt, F4, xs, (gc.trans g3).trans g4, n4, e4, ?_⟩
        rw [picks_no hp]
        exact x4
    · have e : i = n := by omega
      subst e
      refine .inl ⟨stop Fc Hc gc.f gc.fh, q _ (upd Fc D (.lst xs)) Hc ?_ (.lst (SqL.of upd_same) (hx.up (same_upd nD)))⟩
      have G := g2.trans gc
      refine ⟨G.f.trans (same_upd nD), G.h, fun b o hb => ?_, fun b o hb => ?_⟩
      · by_cases hbd : b = D
        · subst hbd
          rw [upd_same] at hb
          cases hb
          exact eD
        · rw [upd_ne hbd] at hb
          exact gc.fh _ _ hb
      · by_cases hbd : b = D
        · exact .inr (by rw [hbd]; exact g2.h.free hD)
        · rw [upd_ne hbd] at hb
          exact G.nw b o hb
/-- the same without a test, the list of all n -/
theorem evd_lc0 {wi : TI} {g : TG} {n : Nat} {item : Nat → PyData} {vs : List Nat} {P : Nat → St → Hp → Prop} (f : Nat → PyData) (hi : IwD K wi σ F H n item) (hn : n ≤ 50000)
    (hg : ∀ i F1 H1, i < n → Same F F1 → Same H H1 → TgD K g (wipe σ vs) F1 H1 (item i) (P i)) (hw : ∀ i σ2 F1, P i σ2 F1 → wipe σ2 vs = wipe σ vs)
    (he : ∀ i σ2 F1 H1, i < n → Same F F1 → Same H H1 → Same F1 H1 → P i σ2 F1 → EvD K te σ2 F1 H1 (f i)) : EvD K (tLc wi g tYes te vs) σ F H (.list ((List.range n).map f)) := by
  have h := evd_lc (fun _ => true) f hi hn hg hw (fun _ _ _ _ _ _ _ _ _ => evt_yes) (fun i σ2 F1 H1 a _ c d e g => he i σ2 F1 H1 a c d e g)
  rw [picks_all fun _ _ => rfl] at h
  exact h
end
end Dv
set_option maxRecDepth 100000
set_option maxHeartbeats 2000000
/-! Dv3: two-clause comprehensions, built-in calls, deep comparisons, promises by data, statements. -/
namespace Dv
open PySem PySem.Spec L2
section
variable {K : PySem.W.Frag} {σ : St} {F F' H H' : Hp} {te ta tb tx : TE} {tt tu : TT} {tr : TA} {d e : PyData} {ds : List PyData} {v : V} {b c : Bool} {i j : Int} {r : R2}

/-! ### two clauses -/
def picks2 (n : Nat) (p : Nat → Bool) (m : Nat → Nat) (p1 : Nat → Nat → Bool) (f : Nat → Nat → PyData) : List PyData :=
  ((List.range n).filter p).flatMap fun i => picks (m i) (p1 i) (f i)
theorem picks2_yes {n : Nat} {p : Nat → Bool} {m : Nat → Nat} {p1 : Nat → Nat → Bool} {f : Nat → Nat → PyData} (h : p n = true) : picks2 (n + 1) p m p1 f = picks2 n p m p1 f ++ picks (m n) (p1 n) (f n) := by
  unfold picks2
  simp [List.range_succ, h]
theorem picks2_no {n : Nat} {p : Nat → Bool} {m : Nat → Nat} {p1 : Nat → Nat → Bool} {f : Nat → Nat → PyData} (h : p n = false) : picks2 (n + 1) p m p1 f = picks2 n p m p1 f := by
  unfold picks2
  simp [List.range_succ, h]
theorem picks2_len {n : Nat} {p : Nat → Bool} {m : Nat → Nat} {p1 : Nat → Nat → Bool} {f : Nat → Nat → PyData} {B : Nat} (hm : ∀ i, i < n → m i ≤ B) : (picks2 n p m p1 f).length ≤ n * B := by
  induction n with
  | zero => simp [picks2]
  | succ n ih =>
    have h1 := ih fun i hi => hm i (Nat.lt_succ_of_lt hi)
    have h2 := hm n (Nat.lt_succ_self n)
    have h3 := picks_len (m n) (p1 n) (f n)
    rw [Nat.succ_mul]
    cases hp : p n with
    | true => rw [picks2_yes hp, List.length_append]; omega
    | false => rw [picks2_no hp]; omega
theorem evd_lc2 {wi wi1 : TI} {g g1 : TG} {n B : Nat} {item : Nat → PyData} {vs vs1 : List Nat} {P : Nat → St → Hp → Prop} {P1 : Nat → Nat → St → St → Hp → Prop} {tt1 : TT}
    (p : Nat → Bool) (m : Nat → Nat) (item1 : Nat → Nat → PyData) (p1 : Nat → Nat → Bool) (f : Nat → Nat → PyData) (hi : IwD K wi σ F H n item) (hB : ∀ i, i < n → m i ≤ B) (hn : n * B ≤ 50000) (hB2 : B ≤ 50000)
    (hg : ∀ i F1 H1, i < n → Same F F1 → Same H H1 → TgD K g (wipe σ vs) F1 H1 (item i) (P i)) (hw : ∀ i σ2 F1, P i σ2 F1 → wipe σ2 vs = wipe σ vs)
    (hP : ∀ i σ2 F1 F2, P i σ2 F1 → Same F1 F2 → P i σ2 F2)
    (ht : ∀ i σ2 F1 H1, i < n → Same F F1 → Same H H1 → Same F1 H1 → P i σ2 F1 → EvT tt σ2 F1 H1 (p i))
    (hi1 : ∀ i σ2 F1 H1, i < n → p i = true → Same F F1 → Same H H1 → Same F1 H1 → P i σ2 F1 → IwD K wi1 σ2 F1 H1 (m i) (item1 i))
    (hg1 : ∀ i j σ2 F1 H1, i < n → j < m i → Same F F1 → Same H H1 → P i σ2 F1 → TgD K g1 (wipe σ2 vs1) F1 H1 (item1 i j) (P1 i j σ2)) (hw1 : ∀ i j σ2 σ3 F1, P1 i j σ2 σ3 F1 → wipe σ3 vs1 = wipe σ2 vs1)
    (ht1 : ∀ i j σ2 σ3 F1 H1, i < n → j < m i → Same F F1 → Same H H1 → Same F1 H1 → P i σ2 F1 → P1 i j σ2 σ3 F1 → EvT tt1 σ3 F1 H1 (p1 i j))
    (he : ∀ i j σ2 σ3 F1 H1, i < n → j < m i → p1 i j = true → Same F F1 → Same H H1 → Same F1 H1 → P i σ2 F1 → P1 i j σ2 σ3 F1 → EvD K te σ3 F1 H1 (f i j)) :
    EvD K (tLc2 wi g tt wi1 g1 tt1 te vs vs1) σ F H (.list (picks2 n p m p1 f)) :=
  fun F1 H1 x y z Q q => hi F1 H1 x y z _ fun J F2 H2 g2 go stop yld D hD => by
    -- what stands: Fc over F2, the new list at D apart, some list of data so far
    have grow : ∀ {Fa Ha Fb Hb : Hp} {xs ys : List V} {L L' : List PyData}, (Gr F2 H2 Fa Ha ∧ Fa D = none ∧ Ha D = some (.lst xs) ∧ DpAll K Fa xs L) → Gr Fa Ha Fb Hb → DpAll K Fb ys L' →
        Gr F2 H2 Fb (upd Hb D (.lst (xs ++ ys))) ∧ Fb D = none ∧ (upd Hb D (.lst (xs ++ ys))) D = some (.lst (xs ++ ys)) ∧ DpAll K Fb (xs ++ ys) (L ++ L') := fun {Fa Ha Fb Hb xs ys L L'} h gg hy => by
      obtain ⟨h1, h2, h3, h4⟩ := h
      have nb := gg.out h3 h2
      have G := h1.trans gg
      exact ⟨⟨G.f, fun b o hb => by rw [upd_ne (ne_of_none hb hD)]; exact G.h _ _ hb, same_mut G.fh nb, G.nw⟩, nb, upd_same, (h4.up gg.f).app hy⟩
    have keep : ∀ {Fa Ha Fb Hb : Hp} {xs : List V} {L : List PyData}, (Gr F2 H2 Fa Ha ∧ Fa D = none ∧ Ha D = some (.lst xs) ∧ DpAll K Fa xs L) → Gr Fa Ha Fb Hb →
        Gr F2 H2 Fb Hb ∧ Fb D = none ∧ Hb D = some (.lst xs) ∧ DpAll K Fb xs L := fun {Fa Ha Fb Hb xs L} h gg =>
      ⟨h.1.trans gg, gg.out h.2.2.1 h.2.1, gg.h _ _ h.2.2.1, h.2.2.2.up gg.f⟩
    refine ⟨fun i k Hc => k = n - i ∧ i ≤ n ∧ ∃ Fc xs, Gr F2 H2 Fc Hc ∧ Fc D = none ∧ Hc D = some (.lst xs) ∧ DpAll K Fc xs (picks2 i p m p1 f), ⟨n, rfl, Nat.zero_le _, F2, [], .own g2.fh hD, g2.fh.free hD, upd_same, .nil⟩, ?_⟩
    rintro i k Hc ⟨rfl, hin, Fc, xs, hc⟩
    have gc := hc.1
    by_cases hlt : i < n
    · refine .inr ⟨go i Fc Hc gc.f gc.fh hlt, fun H' => i + 1 ≤ n ∧ ∃ Fc xs, Gr F2 H2 Fc H' ∧ Fc D = none ∧ H' D = some (.lst xs) ∧ DpAll K Fc xs (picks2 (i + 1) p m p1 f), fun H' h => ⟨n - (i + 1), by omega, rfl, h.1, h.2⟩, fun u H' hy => ?_⟩
      obtain ⟨F3, g3, hu⟩ := yld i Fc Hc u H' gc.f gc.fh hlt hy
      have s3 : Same F F3 := (x.trans g2.f).trans (gc.f.trans g3.f)
      have t3 : Same H H' := (y.trans g2.h).trans (gc.h.trans g3.h)
      refine hg i F3 H' hlt s3 t3 F3 H' u (Same.refl _) (Same.refl _) g3.fh hu _ fun σ2 hp2 => ⟨hw i σ2 F3 hp2, ?_⟩
      refine ht i σ2 F3 H' hlt s3 t3 g3.fh hp2 F3 H' (Same.refl _) (Same.refl _) g3.fh _ fun F4 H4 g4 => ?_
      have c4 := keep hc (g3.trans g4)
      cases hp : p i with
      | false =>
        refine ⟨hlt, F4, xs, ?_⟩
        rw [picks2_no hp]
        exact c4
      | true =>
        have s4 := s3.trans g4.f
        have t4 := t3.trans g4.h
        refine hi1 i σ2 F4 H4 hlt hp s4 t4 g4.fh (hP i σ2 F3 F4 hp2 g4.f) F4 H4 (Same.refl _) (Same.refl _) g4.fh _ fun J1 F5 H5 g5 go1 stop1 yld1 => ?_
        have c5 := keep c4 g5
        refine ⟨fun j k Hd => k = m i - j ∧ j ≤ m i ∧ ∃ Fd zs, Same F5 Fd ∧ Same H (upd Hd D (.lst [])) ∧ Gr F2 H2 Fd Hd ∧ Fd D = none ∧ Hd D = some (.lst zs) ∧ DpAll K Fd zs (picks2 i p m p1 f ++ picks j (p1 i) (f i)), ⟨m i, rfl, Nat.zero_le _, F5, xs, Same.refl _, ?_, ?_⟩, ?_⟩
        · exact fun b o hb => by
            have h1 := (t4.trans g5.h) _ _ hb
            rw [upd_ne (ne_of_none ((y.trans g2.h) _ _ hb) hD)]
            exact h1
        · rw [show picks 0 (p1 i) (f i) = [] from rfl, List.append_nil]
          exact c5
        · rintro j k Hd ⟨rfl, hjn, Fd, zs, s5d, sHd, hd⟩
          have gd := hd.1
          have hsz : zs.length < sizeLine := by
            have l1 := hd.2.2.2.len
            rw [List.length_append] at l1
            have l2 := picks2_len (p := p) (p1 := p1) (f := f) (n := i) (m := m) (B := B) fun a ha => hB a (by omega)
            have l3 := picks_len j (p1 i) (f i)
            have l4 := hB i hlt
            have l5 : i * B ≤ n * B := Nat.mul_le_mul_right _ (by omega)
            exact Nat.lt_of_le_of_lt (show zs.length ≤ 100000 by omega) (by decide)
          have sH : Same H Hd := fun b o hb => by
            have h1 := sHd _ _ hb
            rw [upd_ne (ne_of_none ((y.trans g2.h) _ _ hb) hD)] at h1
            exact h1
          by_cases hj : j < m i
          · refine .inr ⟨go1 j Fd Hd s5d gd.fh hj, fun H' => j + 1 ≤ m i ∧ ∃ Fd zs, Same F5 Fd ∧ Same H (upd H' D (.lst [])) ∧ Gr F2 H2 Fd H' ∧ Fd D = none ∧ H' D = some (.lst zs) ∧ DpAll K Fd zs (picks2 i p m p1 f ++ picks (j + 1) (p1 i) (f i)), fun H' h => ⟨m i - (j + 1), by omega, rfl, h.1, h.2⟩, fun u' H'' hy' => ?_⟩
            obtain ⟨F6, g6, hu6⟩ := yld1 j Fd Hd u' H'' s5d gd.fh hj hy'
            have s6 : Same F F6 := ((s4.trans g5.f).trans s5d).trans g6.f
            have t6 : Same H H'' := sH.trans g6.h
            have hp6 := hP i σ2 F3 F6 hp2 (((g4.f.trans g5.f).trans s5d).trans g6.f)
            refine hg1 i j σ2 F6 H'' hlt hj s6 t6 hp6 F6 H'' u' (Same.refl _) (Same.refl _) g6.fh hu6 _ fun σ3 hp3 => ⟨hw1 i j σ2 σ3 F6 hp3, ?_⟩
            refine ht1 i j σ2 σ3 F6 H'' hlt hj s6 t6 g6.fh hp6 hp3 F6 H'' (Same.refl _) (Same.refl _) g6.fh _ fun F7 H7 g7 => ?_
            have c7 := keep hd (g6.trans g7)
            have back : ∀ {Hx : Hp} {l : List V}, Same H Hx → Same H (upd (upd Hx D (.lst l)) D (.lst [])) := fun {Hx l} hs b o hb => by
              have nb := ne_of_none ((y.trans g2.h) _ _ hb) hD
              rw [upd_ne nb, upd_ne nb]
              exact hs _ _ hb
            have back0 : ∀ {Hx : Hp}, Same H Hx → Same H (upd Hx D (.lst [])) := fun {Hx} hs b o hb => by
              have nb := ne_of_none ((y.trans g2.h) _ _ hb) hD
              rw [upd_ne nb]
              exact hs _ _ hb
            cases hq : p1 i j with
            | false =>
              refine ⟨hj, F7, zs, s5d.trans (g6.f.trans g7.f), back0 (t6.trans g7.h), ?_⟩
              rw [picks_no hq]
              exact c7
            | true =>
              refine he i j σ2 σ3 F6 H'' hlt hj hq s6 t6 g6.fh hp6 hp3 F7 H7 g7.f g7.h g7.fh _ fun w F8 H8 g8 hw8 => ?_
              refine ⟨zs, g8.h _ _ c7.2.2.1, hsz, hj, F8, zs ++ [w], s5d.trans ((g6.f.trans g7.f).trans g8.f), back ((t6.trans g7.h).trans g8.h), ?_⟩
              rw [picks_yes hq, ← List.append_assoc]
              exact grow c7 g8 (.one hw8)
          · have e : j = m i := by omega
            subst e
            refine .inl ⟨stop1 Fd Hd s5d gd.fh, hlt, Fd, zs, ?_⟩
            rw [picks2_yes hp]
            exact hd
    · have e : i = n := by omega
      subst e
      obtain ⟨_, nD, eD, hx⟩ := hc
      refine .inl ⟨stop Fc Hc gc.f gc.fh, q _ (upd Fc D (.lst xs)) Hc ?_ (.lst (SqL.of upd_same) (hx.up (same_upd nD)))⟩
      have G := g2.trans gc
      refine ⟨G.f.trans (same_upd nD), G.h, fun b o hb => ?_, fun b o hb => ?_⟩
      · by_cases hbd : b = D
        · subst hbd
          rw [upd_same] at hb
          cases hb
          exact eD
        · rw [upd_ne hbd] at hb
          exact gc.fh _ _ hb
      · by_cases hbd : b = D
        · exact .inr (by rw [hbd]; exact g2.h.free hD)
        · rw [upd_ne hbd] at hb
          exact G.nw b o hb

end
end Dv
set_option maxRecDepth 100000
set_option maxHeartbeats 2000000
/-! Dv4: built-in calls, deep comparisons, promises by data, statements. -/
namespace Dv
open PySem PySem.Spec L2
section
variable {K : PySem.W.Frag} {σ : St} {F F' H H' : Hp} {te ta tb tx : TE} {tt tu : TT} {tr : TA} {d e : PyData} {ds : List PyData} {v : V} {b c : Bool} {i j : Int} {r : R2}

/-! ### built-in calls -/
theorem DpAll.one_inv {vs : List V} (h : DpAll K F vs [d]) : ∃ v, vs = [v] ∧ Dp K F v d := by
  cases h with
  | cons h t => cases t with
    | nil => exact ⟨_, rfl, h⟩
theorem DpAll.two_inv {vs : List V} (h : DpAll K F vs [d, e]) : ∃ v w, vs = [v, w] ∧ Dp K F v d ∧ Dp K F w e := by
  cases h with
  | cons h t => cases t with
    | cons h2 t => cases t with
      | nil => exact ⟨_, _, rfl, h, h2⟩
theorem DpAll.three_inv {vs : List V} {d3 : PyData} (h : DpAll K F vs [d, e, d3]) : ∃ v w u, vs = [v, w, u] ∧ Dp K F v d ∧ Dp K F w e ∧ Dp K F u d3 := by
  cases h with
  | cons h t => cases t with
    | cons h2 t => cases t with
      | cons h3 t => cases t with
        | nil => exact ⟨_, _, _, rfl, h, h2, h3⟩
abbrev rLenQ (K : PySem.W.Frag) : List V → Hp → VK → Prop := fun xs H Q => ∃ p ys, xs = [.ref p] ∧ (SqL K H p ys ∨ SqT K H p ys) ∧ Q (.int ys.length) H
theorem evd_lenL (h : EvD K te σ F H (.list ds)) : EvD K (tCB (rLenQ K) (tCons te tNil)) σ F H (.int (ds.length : Nat)) :=
  evd_cb (eva_one h) fun vs F1 H1 _ _ z p Q q => by
    obtain ⟨v, rfl, hv⟩ := DpAll.one_inv p
    obtain ⟨a, xs, rfl, hs, hx⟩ := hv.lst_inv
    refine ⟨a, xs, rfl, .inl (z.seq hs), ?_⟩
    rw [hx.len]
    exact q _ F1 H1 (.refl z) (.int _)
theorem evd_lenT (h : EvD K te σ F H (.tuple ds)) : EvD K (tCB (rLenQ K) (tCons te tNil)) σ F H (.int (ds.length : Nat)) :=
  evd_cb (eva_one h) fun vs F1 H1 _ _ z p Q q => by
    obtain ⟨v, rfl, hv⟩ := DpAll.one_inv p
    obtain ⟨a, xs, rfl, hs, hx⟩ := hv.tup_inv
    refine ⟨a, xs, rfl, .inr (sqT_mono z hs), ?_⟩
    rw [hx.len]
    exact q _ F1 H1 (.refl z) (.int _)
theorem evd_lenR {n : Nat} {f : Nat → PyData} (h : EvD K te σ F H (.tuple ((List.range n).map f))) : EvD K (tCB (rLenQ K) (tCons te tNil)) σ F H (.int (n : Nat)) := by
  have q := evd_lenT h
  rw [len_rng] at q
  exact q
abbrev rTupQ (K : PySem.W.Frag) : List V → Hp → VK → Prop := fun xs H Q => ∃ p ys, xs = [.ref p] ∧ ((SqL K H p ys ∧ ∀ l, H l = none → Q (.ref l) (upd H l (.tup ys))) ∨ (SqT K H p ys ∧ Q (.ref p) H))
theorem evd_tupL (h : EvD K te σ F H (.list ds)) : EvD K (tCB (rTupQ K) (tCons te tNil)) σ F H (.tuple ds) :=
  evd_cb (eva_one h) fun vs F1 H1 _ _ z p Q q => by
    obtain ⟨v, rfl, hv⟩ := DpAll.one_inv p
    obtain ⟨a, xs, rfl, hs, hx⟩ := hv.lst_inv
    exact ⟨a, xs, rfl, .inl ⟨z.seq hs, fun l hl => q _ (upd F1 l (.tup xs)) _ (.new z hl) (.tup (SqT.of upd_same) (hx.up (same_upd (z.free hl))))⟩⟩
theorem evd_tupT (h : EvD K te σ F H (.tuple ds)) : EvD K (tCB (rTupQ K) (tCons te tNil)) σ F H (.tuple ds) :=
  evd_cb (eva_one h) fun vs F1 H1 _ _ z p Q q => by
    obtain ⟨v, rfl, hv⟩ := DpAll.one_inv p
    obtain ⟨a, xs, rfl, hs, hx⟩ := hv.tup_inv
    exact ⟨a, xs, rfl, .inr ⟨sqT_mono z hs, q _ F1 H1 (.refl z) (.tup hs hx)⟩⟩
/-- tuple(l), l a list of our own -/
theorem evd_tupO {p : Addr} {xs : List V} (hp : H p = some (.lst xs)) (hx : DpAll K F xs ds) (h : EvV te σ F H (.ref p)) : EvD K (tCB (rTupQ K) (tCons te tNil)) σ F H (.tuple ds) :=
  fun F1 H1 x y z Q q => h F1 H1 x y z _ fun v F2 H2 g2 e => by
    subst e
    exact ⟨p, xs, rfl, .inl ⟨SqL.of ((y.trans g2.h) _ _ hp), fun l hl => q _ (upd F2 l (.tup xs)) _ (g2.trans (.new g2.fh hl)) (.tup (SqT.of upd_same) (hx.up ((x.trans g2.f).trans (same_upd (g2.fh.free hl)))))⟩⟩
abbrev rLstQ (K : PySem.W.Frag) : List V → Hp → VK → Prop := fun xs H Q => ∃ p ys, xs = [.ref p] ∧ (SqL K H p ys ∨ SqT K H p ys) ∧ ∀ l, H l = none → Q (.ref l) (upd H l (.lst ys))
theorem evd_lstT (h : EvD K te σ F H (.tuple ds)) : EvD K (tCB (rLstQ K) (tCons te tNil)) σ F H (.list ds) :=
  evd_cb (eva_one h) fun vs F1 H1 _ _ z p Q q => by
    obtain ⟨v, rfl, hv⟩ := DpAll.one_inv p
    obtain ⟨a, xs, rfl, hs, hx⟩ := hv.tup_inv
    exact ⟨a, xs, rfl, .inr (sqT_mono z hs), fun l hl => q _ (upd F1 l (.lst xs)) _ (.new z hl) (.lst (SqL.of upd_same) (hx.up (same_upd (z.free hl))))⟩
theorem evp_lstT (h : EvD K te σ F H (.tuple ds)) : EvP (tCB (rLstQ K) (tCons te tNil)) σ F H (OwnL K ds) :=
  evd_cb (eva_one h) fun vs F1 H1 _ _ z p Q q => by
    obtain ⟨v, rfl, hv⟩ := DpAll.one_inv p
    obtain ⟨a, xs, rfl, hs, hx⟩ := hv.tup_inv
    exact ⟨a, xs, rfl, .inr (sqT_mono z hs), fun l hl => q _ F1 _ (.own z hl) ⟨l, xs, rfl, z.free hl, upd_same, hx⟩⟩
theorem bools_map {n : Nat} {p : Nat → Bool} {f : Nat → Bool} : picks n p (fun i => .bool (f i)) = (((List.range n).filter p).map f).map PyData.bool := by
  unfold picks
  rw [List.map_map]; rfl
theorem evd_all {bs : List Bool} (h : EvD K te σ F H (.list (bs.map PyData.bool))) : EvD K (tCB (rAll K) (tCons te tNil)) σ F H (.bool (bs.all id)) :=
  evd_cb (eva_one h) fun vs F1 H1 _ _ z p Q q => by
    obtain ⟨v, rfl, hv⟩ := DpAll.one_inv p
    obtain ⟨a, xs, rfl, hs, hx⟩ := hv.lst_inv
    rw [hx.bls_inv] at hs
    exact ⟨a, bs, rfl, z.seq hs, q _ F1 H1 (.refl z) (.bl _)⟩
theorem evd_any {bs : List Bool} (h : EvD K te σ F H (.list (bs.map PyData.bool))) : EvD K (tCB (rAny K) (tCons te tNil)) σ F H (.bool (bs.any id)) :=
  evd_cb (eva_one h) fun vs F1 H1 _ _ z p Q q => by
    obtain ⟨v, rfl, hv⟩ := DpAll.one_inv p
    obtain ⟨a, xs, rfl, hs, hx⟩ := hv.lst_inv
    rw [hx.bls_inv] at hs
    exact ⟨a, bs, rfl, z.seq hs, q _ F1 H1 (.refl z) (.bl _)⟩
/-- the type's name -/
def tyN : PyData → String
  | .none => "NoneType"
  | .bool _ => "bool"
  | .int _ => "int"
  | .str _ => "str"
  | .list _ => "list"
  | .tuple _ => "tuple"
  | .dict _ => "dict"
theorem tyX_of (h : Dp K H v d) : TyX K H v (.type (tyN d)) := by
  cases h with
  | non => exact .base .non
  | bl x => exact .base (.bl x)
  | int x => exact .base (.int x)
  | str x => exact .base (.str x)
  | lst h _ =>
    rcases h with (h | ⟨o, h⟩) | ⟨o, its, n, h, hc, _⟩
    · exact .base (.lst h)
    · exact .base (.frz h)
    · exact .kList h hc
  | tup h _ =>
    rcases h with (h | ⟨o, h⟩) | ⟨o, its, n, h, hc, _⟩
    · exact .base (.tup h)
    · exact .fTuple h
    · exact .kTuple h hc
theorem evd_isi {T : String} (h : EvD K te σ F H d) (hk : kitB (tyN d) T = some b) : EvD K (tCB (rIsi K) (tCons te (tCons (tC (.ty T)) tNil))) σ F H (.bool b) :=
  fun F1 H1 x y z Q q => h F1 H1 x y z _ fun v F2 H2 g2 p2 => ⟨v, .ty T, .type (tyN d), .type T, b, rfl, .ty T, tyX_of (p2.up g2.fh), kit_ty hk, q _ F2 H2 g2 (.bl _)⟩
/-! ### deep comparisons -/
theorem evd_eqD (ha : EvD K ta σ F H d) (hb : EvD K tb σ F H e) (s1 : SeqAt.shaped d = true) (s2 : SeqAt.shaped e = true) : EvD K (tOp (rEqD K) ta tb) σ F H (.bool (PyData.eqv d e)) :=
  evd_op ha hb fun x y F1 H1 _ _ z p1 p2 Q q => ⟨d, e, p1.up z, p2.up z, s1, s2, q _ F1 H1 (.refl z) (.bl _)⟩
theorem evd_neD (ha : EvD K ta σ F H d) (hb : EvD K tb σ F H e) (s1 : SeqAt.shaped d = true) (s2 : SeqAt.shaped e = true) : EvD K (tOp (rNeD K) ta tb) σ F H (.bool (!PyData.eqv d e)) :=
  evd_op ha hb fun x y F1 H1 _ _ z p1 p2 Q q => ⟨d, e, p1.up z, p2.up z, s1, s2, q _ F1 H1 (.refl z) (.bl _)⟩
theorem evd_inD (ha : EvD K ta σ F H d) (hb : EvD K tb σ F H (.list ds)) (s1 : SeqAt.shaped d = true) (s2 : SeqAt.shaped (.list ds) = true) : EvD K (tOp (rInD K) ta tb) σ F H (.bool (ds.any fun z => PyData.eqv z d)) :=
  evd_op ha hb fun x y F1 H1 _ _ z p1 p2 Q q => ⟨d, ds, p1.up z, p2.up z, s1, s2, q _ F1 H1 (.refl z) (.bl _)⟩
theorem evd_isN (ha : EvD K ta σ F H d) (hd : b = match d with | .none => true | _ => false) : EvD K (tOp (fun x y H Q => y = .non ∧ Q (.bl (decide (x = .non))) H) ta (tC .non)) σ F H (.bool b) :=
  evp_op ha (evv_c (v := .non)) (fun _ _ _ _ _ p g => p.up g.f) fun x y F1 H1 _ _ z p1 p2 Q q => ⟨p2, by
    have e : decide (x = V.non) = b := by
      subst hd
      cases p1 <;> simp
    rw [e]
    exact q _ F1 H1 (.refl z) (.bl _)⟩
theorem evd_notN (ha : EvD K ta σ F H d) (hd : b = match d with | .none => false | _ => true) : EvD K (tOp (fun x y H Q => y = .non ∧ Q (.bl (!decide (x = .non))) H) ta (tC .non)) σ F H (.bool b) :=
  evp_op ha (evv_c (v := .non)) (fun _ _ _ _ _ p g => p.up g.f) fun x y F1 H1 _ _ z p1 p2 Q q => ⟨p2, by
    have e : (!decide (x = V.non)) = b := by
      subst hd
      cases p1 <;> simp
    rw [e]
    exact q _ F1 H1 (.refl z) (.bl _)⟩
theorem inV_ints {n : Int} : ∀ ns : List Int, inV (.int n) (ns.map V.int) = decide (n ∈ ns)
  | [] => rfl
  | m :: r => by
    have ih := inV_ints (n := n) r
    unfold inV at ih ⊢
    rw [List.map_cons, List.any_cons, ih]
    show ((m == n) || decide (n ∈ r)) = decide (n ∈ m :: r)
    by_cases h : m = n
    · subst h; simp
    · have h1 : (m == n) = false := by simpa using h
      rw [h1]
      simp [Ne.symm h]
theorem flat_ints (ns : List Int) : (ns.map V.int).all flatV = true := by
  rw [List.all_eq_true]
  intro x hx
  obtain ⟨n, _, rfl⟩ := List.mem_map.mp hx
  rfl
/-- n in t, n not in t: t a tuple, a list of ints -/
theorem evd_inT {neg : Bool} {n : Int} {ns : List Int} (ha : EvD K ta σ F H (.int n)) (hb : EvD K tb σ F H (.tuple (ns.map PyData.int))) : EvD K (tOp (rIn K neg) ta tb) σ F H (.bool (if neg then !decide (n ∈ ns) else decide (n ∈ ns))) :=
  evd_op ha hb fun x y F1 H1 _ _ z p1 p2 Q q => by
    obtain ⟨a, xs, rfl, hs, hx⟩ := p2.tup_inv
    have e := hx.ints_inv
    subst e
    rw [p1.int_inv]
    refine ⟨a, ns.map V.int, rfl, .inr (sqT_mono z hs), rfl, flat_ints ns, ?_⟩
    rw [inV_ints]
    exact q _ F1 H1 (.refl z) (.bl _)
theorem evd_inL {neg : Bool} {n : Int} {ns : List Int} (ha : EvD K ta σ F H (.int n)) (hb : EvD K tb σ F H (.list (ns.map PyData.int))) : EvD K (tOp (rIn K neg) ta tb) σ F H (.bool (if neg then !decide (n ∈ ns) else decide (n ∈ ns))) :=
  evd_op ha hb fun x y F1 H1 _ _ z p1 p2 Q q => by
    obtain ⟨a, xs, rfl, hs, hx⟩ := p2.lst_inv
    have e := hx.ints_inv
    subst e
    rw [p1.int_inv]
    refine ⟨a, ns.map V.int, rfl, .inl (z.seq hs), rfl, flat_ints ns, ?_⟩
    rw [inV_ints]
    exact q _ F1 H1 (.refl z) (.bl _)
theorem evd_inO {neg : Bool} {n : Int} {p : Addr} {ns : List Int} (hp : H p = some (.lst (ns.map V.int))) (ha : EvD K ta σ F H (.int n)) (hb : EvV tb σ F H (.ref p)) : EvD K (tOp (rIn K neg) ta tb) σ F H (.bool (if neg then !decide (n ∈ ns) else decide (n ∈ ns))) :=
  evp_op ha hb (fun _ _ _ _ _ p g => p.up g.f) fun x y F1 H1 _ h z p1 p2 Q q => by
    rw [p1.int_inv]
    refine ⟨p, ns.map V.int, p2, .inl (SqL.of (h _ _ hp)), rfl, flat_ints ns, ?_⟩
    rw [inV_ints]
    exact q _ F1 H1 (.refl z) (.bl _)
/-- list + list, tuple + tuple -/
theorem evd_cat {ds es : List PyData} (ha : EvD K ta σ F H (.list ds)) (hb : EvD K tb σ F H (.list es)) (hl : ds.length + es.length ≤ 100000)
    (ka : ∀ v F1 H1, Same F1 H1 → Dp K F1 v (.list ds) → ∃ a xs, v = .ref a ∧ H1 a = some (.lst xs) ∧ DpAll K F1 xs ds) (kb : ∀ v F1 H1, Same F1 H1 → Dp K F1 v (.list es) → ∃ a xs, v = .ref a ∧ H1 a = some (.lst xs) ∧ DpAll K F1 xs es) :
    EvD K (tOp rCat ta tb) σ F H (.list (ds ++ es)) :=
  evd_op ha hb fun x y F1 H1 _ _ z p1 p2 Q q => by
    obtain ⟨a, xs, rfl, h1, h2⟩ := ka x F1 H1 z p1
    obtain ⟨a', ys, rfl, h3, h4⟩ := kb y F1 H1 z p2
    refine ⟨a, a', xs, ys, rfl, rfl, h1, h3, ?_, fun p hp => q _ (upd F1 p (.lst (xs ++ ys))) _ (.new z hp) (.lst (SqL.of upd_same) ((h2.app h4).up (same_upd (z.free hp))))⟩
    rw [h2.len, h4.len]
    exact Nat.le_trans hl (by decide)
end

/-! ### promises by data -/
/-- what a def without a raise promises: R ds d: for the data ds it gives the datum d -/
def spD (K : PySem.W.Frag) (R : List PyData → PyData → Prop) : Sp := fun vs H Q _ => ∃ (F : Hp) (ds : List PyData) (d : PyData), Same F H ∧ DpAll K F vs ds ∧ R ds d ∧ ∀ v F' H', Gr F H F' H' → Dp K F' v d → Q v H'
section
variable {K : PySem.W.Frag} {σ : St} {F F' H H' : Hp} {te ta tb tx : TE} {tt tu : TT} {tr : TA} {d e : PyData} {ds : List PyData} {v : V} {b c : Bool} {i j : Int} {r : R2} {E : XK}
theorem evd_call {R : List PyData → PyData → Prop} (h : EvA K tr σ F H ds) (hr : R ds d) : EvD K (tCall (spD K R) [] E tr) σ F H d :=
  fun F1 H1 x y z Q q => h F1 H1 x y z _ fun vs F2 H2 g2 p2 => by
    show spD K R (vs ++ []) H2 Q E
    rw [List.append_nil]
    exact ⟨F2, ds, d, g2.fh, p2, hr, fun v F3 H3 g3 p3 => q v F3 H3 (g2.trans g3) p3⟩
theorem spD_len {R : List PyData → PyData → Prop} {ps : List Str} (h : ∀ ds d, R ds d → ds.length = ps.length) : ∀ vs H Q E, spD K R vs H Q E → vs.length = ps.length := fun vs H Q E ⟨F, ds, d, _, a, r, _⟩ => by rw [a.len]; exact h ds d r

/-! ### statements -/
variable {D : Ends} {ts tu' : TS}
theorem st_seq {t u : TS} (h : t { D with nx := u D } σ H) : tSeq t u D σ H := h
theorem st_asg {n : Nat} {P : V → Hp → Hp → Prop} (z : Same F H) (h : EvP te σ F H P) (k : ∀ v F1 H1, Gr F H F1 H1 → P v F1 H1 → D.nx (σ.set n (some v)) H1) : tAsg te (gName n) D σ H :=
  h F H (Same.refl _) (Same.refl _) z _ fun v F1 H1 g p => k v F1 H1 g p
theorem st_ret {P : V → Hp → Hp → Prop} (z : Same F H) (h : EvP te σ F H P) (k : ∀ v F1 H1, Gr F H F1 H1 → P v F1 H1 → D.rt v H1) : tRet te D σ H :=
  h F H (Same.refl _) (Same.refl _) z _ fun v F1 H1 g p => k v F1 H1 g p
theorem st_drop {P : V → Hp → Hp → Prop} (z : Same F H) (h : EvP te σ F H P) (k : ∀ v F1 H1, Gr F H F1 H1 → P v F1 H1 → D.nx σ H1) : tDrop te D σ H :=
  h F H (Same.refl _) (Same.refl _) z _ fun v F1 H1 g p => k v F1 H1 g p
theorem st_if (z : Same F H) (h : EvT tt σ F H b) (h1 : b = true → ∀ F1 H1, Gr F H F1 H1 → ts D σ H1) (h2 : b = false → ∀ F1 H1, Gr F H F1 H1 → tu' D σ H1) : tIfS tt ts tu' D σ H :=
  h F H (Same.refl _) (Same.refl _) z _ fun F1 H1 g => by
    cases b with
    | true => exact h1 rfl F1 H1 g
    | false => exact h2 rfl F1 H1 g
/-- for target in iter: Pv i σ F H ahead of turn i, F the data heap then -/
theorem st_for {wi : TI} {g : TG} {n : Nat} {item : Nat → PyData} (Pv : Nat → St → Hp → Hp → Prop) (z : Same F H) (hi : IwD K wi σ F H n item) (h0 : ∀ F1 H1, Gr F H F1 H1 → Pv 0 σ F1 H1)
    (hs : ∀ i σ' F' H' F'' H'' x (N : St → Hp → Prop), i < n → Same F F' → Same F' H' → Pv i σ' F' H' → Gr F' H' F'' H'' → Dp K F'' x (item i) → (∀ σ3 F3 H3, Same F'' F3 → Same F3 H3 → Pv (i + 1) σ3 F3 H3 → N σ3 H3) →
      g x σ' H'' fun σ2 H2 => ts { D with nx := N, ct := N, bk := D.nx } σ2 H2)
    (hd : ∀ σ' F' H', Same F F' → Same F' H' → Pv n σ' F' H' → D.nx σ' H') : tFor wi g ts D σ H :=
  hi F H (Same.refl _) (Same.refl _) z _ fun J F2 H2 g2 go stop yld => by
    refine ⟨fun i m σ' H' => m = n - i ∧ i ≤ n ∧ ∃ F', Same F2 F' ∧ Same F' H' ∧ Pv i σ' F' H', ⟨n, rfl, Nat.zero_le _, F2, Same.refl _, g2.fh, h0 F2 H2 g2⟩, ?_⟩
    rintro i m σ' H' ⟨rfl, hin, F', f, z', p⟩
    by_cases hlt : i < n
    · refine .inr ⟨go i F' H' f z' hlt, fun σ3 H3 => i + 1 ≤ n ∧ ∃ F3, Same F2 F3 ∧ Same F3 H3 ∧ Pv (i + 1) σ3 F3 H3, fun σ3 H3 h => ⟨n - (i + 1), by omega, rfl, h.1, h.2⟩, fun x H'' hy => ?_⟩
      obtain ⟨F'', gg, hx⟩ := yld i F' H' x H'' f z' hlt hy
      exact hs i σ' F' H' F'' H'' x _ hlt (g2.f.trans f) z' p gg hx fun σ3 F3 H3 a b p3 => ⟨hlt, F3, (f.trans gg.f).trans a, b, p3⟩
    · have e : i = n := by omega
      subst e
      exact .inl ⟨stop F' H' f z', hd σ' F' H' (g2.f.trans f) z' p⟩
end
end Dv
set_option maxRecDepth 100000
set_option maxHeartbeats 4000000
/-! Ext1: rules of our own over the layer: range(n) as a value and walked, products of great ints, enumerate of a tuple, repr of data. -/
namespace Ex1
open PySem PySem.Spec PyProof.Rows L2
section
variable {X : Cx}
/-- range(n) as a value -/
def rRng1 : List V → Hp → VK → Prop := fun vs H Q => ∃ n : Int, vs = [V.int n] ∧ ∀ p, H p = none → Q (.ref p) (upd H p (.rng 0 n))
theorem cr_rng1 : CallR X (.type "range") rRng1 := by
  intro pins s σ H vs us Q I r ⟨n, ev, q⟩
  subst ev
  obtain ⟨u, eu, t, rfl⟩ := vals1 r
  subst eu
  have hf := I.hok.fresh (Nat.le_refl s.heap.objs.size)
  refine call_range_1 ⟨.ref s.heap.objs.size, _, I.laid (o := .rng 0 n) (t' := s.toks + 1 + 1) (fun b o e => Heap.get?_push_of_some _ e) (Nat.le_refl _) ?_, rfl, q _ hf⟩
  exact ⟨_, _, _, Heap.get?_push_size _ rfl⟩
/-- a range object walked -/
def iRngV (te : TE) : TI := fun σ H R => te σ H fun x H1 => ∃ (a : Addr) (n : Int), x = .ref a ∧ H1 a = some (.rng 0 n) ∧ (0 ≤ n ∧ n ≤ 100000) ∧ R (Itr 0 n.toNat) H1
theorem pi_rngV {tg e : Expr} {te : TE} (he : PE X e te) : PI X tg e (iRngV te) := by
  refine ⟨fun pins s σ H R I h => thn (he.run pins s σ H _ I h) fun u s1 ⟨x, H1, I1, rx, a, n, ex, ea, hn, q⟩ => ?_⟩
  subst ex
  cases rx
  obtain ⟨t, u, v, ho⟩ := (show ObjOk X.prog X.w H1 s1.heap a (.rng 0 n) from I1.hok a _ ea)
  have I2 := I1.kept (h' := s1.heap.push { cls := .type "range_iterator", data := .fields #[rawInt 0, rawInt (Builtin.Range.rangeSize 0 n 1), rawInt 1] }) (t' := s1.toks) fun b o e => Heap.get?_push_of_some _ e
  refine wpAny_pyIter_range (r := a) (a := 0) (b := n) (c := 1) (t := t) (u := u) (v := v) ho (small_one (by omega) (by omega) (by omega) (by omega)) ?_
  refine ⟨s1.heap.objs.size, [s1.heap.objs.size], _, _, H1, rfl, I2, turn_range _ 0 n.toNat, ?_, fun b hb => ?_, q⟩
  · have e2 : (n.toNat : Int) - ((0 : Nat) : Int) = Builtin.Range.rangeSize 0 n 1 := by rw [rangeSize_one]; split <;> omega
    show IsRangeIter _ _ (0 + ((0 : Nat) : Int) * 1) ((n.toNat : Int) - ((0 : Nat) : Int)) 1
    rw [e2, show (0 : Int) + ((0 : Nat) : Int) * 1 = 0 by simp]
    exact Heap.get?_push_size _ rfl
  · obtain rfl := List.mem_singleton.mp hb
    exact I1.fpOk (Nat.le_refl _) (I1.hok.fresh (Nat.le_refl _))
/-- i * j, whatever their size within the line -/
theorem op_mulB : OpR X (binaryOp .Mult) (rI IntMulOk fun i j => .int (i * j)) := opI fun _ _ _ _ _ _ _ hc q => mul_int q hc
theorem mul_ok {i j : Int} {a b : Nat} (ha : i.natAbs < 2 ^ a) (hb : j.natAbs < 2 ^ b) (h : a + b ≤ 134217728) : IntMulOk i j := by
  have x := intBits_le ha
  have y := intBits_le hb
  have e : bitsLine = 134217728 := by decide
  unfold IntMulOk
  intro z
  rw [Bool.and_eq_true] at z
  have z2 := z.2
  unfold Builtin.Int.intTooBig at z2
  have z3 := of_decide_eq_true z2
  rw [e] at z3
  omega
/-- the tuple at a, each item in a new pair with its place -/
def IteT (K : PySem.W.Frag) (a : Addr) : It where
  go i H := ∃ (xs : List V) (x : V), SqT K H a xs ∧ xs[i]? = some x
  yld i H v H' := ∃ T x, v = .ref T ∧ H T = none ∧ H' = upd H T (.tup [.int (i : Nat), x]) ∧ ∀ xs, SqT K H a xs → xs[i]? = some x
  stop i H := ∃ xs : List V, SqT K H a xs ∧ xs.length = i
theorem apart_of {h : Heap} {a b : Addr} {o u : Obj} (x : h.get? a = some o) (y : h.get? b = some u) (d : o.cls ≠ u.cls) : a ≠ b := fun e => d (by
  rw [e, y] at x
  rw [Option.some.inj x])
theorem turn_enumT {P : Program} {w : World} {K : PySem.W.Frag} {elts : List Expr} {kk : Nat} {tpos : Pos} (a e it : Addr) :
    Turn P w K (.Tuple elts kk tpos) (IteT K a) [e, it] e fun i h => (∃ old, IsEnum h e it ((i : Nat) : Int) old) ∧ h.IsTupleIter it a i where
  mem := List.mem_cons_self
  obj := fun i h ⟨⟨old, he⟩, o, ho, hc, hd⟩ b hb => by
    rcases List.mem_cons.mp hb with rfl | hb
    · exact ⟨_, he, fun v q => nomatch q⟩
    · rw [List.mem_singleton.mp hb]
      exact ⟨o, ho, fun v q => by rw [hd] at q; cases q⟩
  keep := fun i h h' ⟨⟨old, he⟩, hi⟩ k => ⟨⟨old, k e (by simp) _ he⟩, hi.at fun o q => k it (by simp) o q⟩
  item := fun X hP hw hK hc i pins s σ H E I hf ⟨⟨old, he⟩, hit⟩ ⟨xs, x, hq, hx⟩ => by
    subst hP hw hK
    obtain ⟨its, rv, p, hz⟩ := I.tuple hq
    obtain ⟨u, hu, ru⟩ := rv.get hx
    have hp : s.heap.IsTuple a its.toArray := p
    obtain ⟨oi, hoi, hci, hdi⟩ := id hit
    obtain ⟨oa, hoa, hca, _⟩ := id hp
    have n1 : a ≠ it := apart_of hoa hoi (by rw [hca, hci]; decide)
    have n2 : e ≠ it := apart_of he hoi (by rw [hci]; show Value.type "enumerate" ≠ Value.type "tuple_iterator"; decide)
    have n3 : e ≠ a := apart_of he hoa (by rw [hca]; show Value.type "enumerate" ≠ Value.type "tuple"; decide)
    have hil := Heap.lt_size hoi
    have hel := Heap.lt_size he
    refine wpAny_pyNext_enum_itemC (c := (i : Int)) (Draws.tuple (A := X.A.in1) (I.ok.hd hc) it a n1 its.toArray) he ⟨hit, hp⟩ (by rw [List.size_toArray, ← rv.length]; exact (List.getElem?_eq_some_iff.mp hx).1) n2 (by simp [n2, n3]) fun y h1 tk hy ho1 hst1 hT _ hk => ?_
    have ey : y = u := by
      have q : its.toArray[i]? = some y := hy
      rw [List.getElem?_toArray, hu] at q
      exact (Option.some.inj q).symm
    subst ey
    refine ⟨_, rfl, wpAny_letOwnedTupleGo_enum (s := { s with heap := h1, toks := tk + 1 }) ho1 fun h2 he2 sb => ?_⟩
    have tn2 : h2.get? s.heap.objs.size = some { cls := .type "tuple", data := .seq #[.int i tk, y] } := (sb.2 _ (Nat.ne_of_gt hel)).trans hT
    have I1 : Inv X pins σ (upd H s.heap.objs.size (.tup [.int (i : Nat), x])) { s with heap := h2, toks := tk + 1 } :=
      I.turnedNew (ch := [e, it]) (fun b ob hb q => (sb.2 b fun z => hb (by simp [z])).trans (hk b ob (fun z => hb (by simp [z])) (fun z => hb (by simp [z])) q)) hf (Nat.le_refl _)
        ⟨by show 2 ≤ sizeLine; decide, [.int i tk, y], .cons ⟨_, rfl⟩ (.cons ru .nil), _, tn2, rfl, _, rfl⟩
    refine ⟨.ref s.heap.objs.size, _, I1, rfl, ⟨_, x, rfl, I.hok.fresh (Nat.le_refl _), rfl, fun ys hy => by rw [I.tuple_inj hy hq]; exact hx⟩, ⟨⟨y, ?_⟩, hst1.1.at fun o q => (sb.2 it (Ne.symm n2)).trans q⟩, fun b hb => ?_⟩
    · rw [show ((i + 1 : Nat) : Int) = (i : Int) + 1 by omega]
      exact he2
    · have hlt : b < s.heap.objs.size := by
        rcases List.mem_cons.mp hb with rfl | hb
        · exact hel
        · rw [List.mem_singleton.mp hb]; exact hil
      rw [upd_ne (Nat.ne_of_lt hlt)]
      exact (hf b hb).1
  done := fun X hP hw hK hc i pins s σ H E I hf ⟨⟨old, he⟩, hit⟩ ⟨xs, hq, hx⟩ => by
    subst hP hw hK
    obtain ⟨its, rv, p, hz⟩ := I.tuple hq
    have hp : s.heap.IsTuple a its.toArray := p
    obtain ⟨oi, hoi, hci, hdi⟩ := id hit
    obtain ⟨oa, hoa, hca, _⟩ := id hp
    have n1 : a ≠ it := apart_of hoa hoi (by rw [hca, hci]; decide)
    have hl := rv.length
    obtain ⟨f0, f1, f2, f3, f4, f5⟩ := hf it (by simp)
    have ei : i = its.toArray.size := by rw [List.size_toArray]; omega
    subst ei
    exact wpAny_pyNext_enum_endD (Draws.tuple (A := X.A.in1) (I.ok.hd hc) it a n1 its.toArray) he ⟨hit, hp⟩ fun h' eb => ⟨rfl, I.turned (t' := s.toks) (fun b o hb q => eb b o hb q) f0 f1 f3 f4 f5⟩
  self := fun A i s Q E ⟨⟨_, he⟩, _⟩ h => wpAny_pyIter_enum he h
/-- enumerate(t), t a tuple -/
theorem enum_new_tup (t : Addr) (items : Array Value) :
    Meets (Builtin.«enumerate.__new__» ⟨[.type "enumerate", .ref t], []⟩) (fun _ R s => s.heap.IsTuple t items ∧
      R (.ok (.ret (.ref (s.heap.push { cls := .type "tuple_iterator", data := .fields #[.ref t, .int 0 0] }).objs.size)))
        { s with heap := (s.heap.push { cls := .type "tuple_iterator", data := .fields #[.ref t, .int 0 0] }).push { cls := .type "enumerate", data := .fields #[.none, .bool false, .ref s.heap.objs.size, rawInt 0, .none, .none] } }) :=
  .of_wp fun prog w A R ⟨hp, g, d, tk, os⟩ ⟨h1, h⟩ => by
    have hsub := sub_enumerate
    have walks : ∀ {A' : Around} {E Q : Value → Shared → Prop}, Q (.ref hp.objs.size) ⟨hp.push { cls := .type "tuple_iterator", data := .fields #[.ref t, .int 0 0] }, g, d, tk, os⟩ → wpAny (model prog w) A' (pyIter (.ref t)) Q E ⟨hp, g, d, tk, os⟩ :=
      fun q => wpAny_pyIter_tuple (s := ⟨hp, g, d, tk, os⟩) h1 q
    wp_walk using walks
    refine wpAny_stack_any fun st => wpAny_pure ?_
    split
    · rename_i c _ _ _ _ _
      cases (c == Value.type "enumerate") <;> (wp_walk using walks; exact ⟨_, rfl, h⟩)
    · wp_walk using walks
      exact ⟨_, rfl, h⟩
theorem call_enum_tup {prog : Program} {w : World} {A : Around} {E : Value → Shared → Prop} {s : Shared} {t : Addr} {items : Array Value} {Q : Value → Shared → Prop} (ht : s.heap.IsTuple t items)
    (h : ∀ h', IsEnum h' (s.heap.objs.size + 1) s.heap.objs.size 0 .none → h'.IsTupleIter s.heap.objs.size t 0 → (∀ b o, s.heap.get? b = some o → h'.get? b = some o) → Q (.ref (s.heap.objs.size + 1)) { s with heap := h' }) :
    wpAny (model prog w) A (call (.type "enumerate") [.ref t]) Q E s := by
  refine callType_new F.called_enumerate (by decide) (F.typeCall_enumerate_1 _) (F.newCall_enumerate_1 _) (fun obj => F.args_object_init_2 obj _) F.entry_enumerate_new (enum_new_tup t items) ⟨ht, ?_⟩
  generalize hoi : ({ cls := .type "tuple_iterator", data := .fields #[.ref t, .int 0 0] } : Obj) = oi
  have hz : (s.heap.push oi).objs.size = s.heap.objs.size + 1 := Heap.size_push ..
  show _ ∧ _
  rw [hz]
  have he : IsEnum ((s.heap.push oi).push { cls := .type "enumerate", data := .fields #[.none, .bool false, .ref s.heap.objs.size, rawInt 0, .none, .none] }) (s.heap.objs.size + 1) s.heap.objs.size 0 .none := by
    have q := Heap.get?_push_size (s.heap.push oi) (o := { cls := .type "enumerate", data := .fields #[.none, .bool false, .ref s.heap.objs.size, rawInt 0, .none, .none] }) rfl
    rw [hz] at q
    exact q
  exact ⟨⟨_, he, rfl⟩, h _ he ⟨oi, Heap.get?_push_of_some _ (Heap.get?_push_size _ (by rw [← hoi]; rfl)), by rw [← hoi], by rw [← hoi]; rfl⟩ fun b o x => Heap.get?_push_of_some _ (Heap.get?_push_of_some _ x)⟩
def iEnumT (K : PySem.W.Frag) (ta : TA) : TI := fun σ H R => ta σ H fun vs H1 => ∃ a xs, vs = [.ref a] ∧ SqT K H1 a xs ∧ R (IteT K a) H1
theorem pi_enumT {e : Expr} {ta : TA} {p pos tpos : Pos} {elts : List Expr} {kk : Nat} (hg : Gl X "enumerate") (hm : X.mg "enumerate" = none) (ha : PA X [e] ta) (hs : starEach [e] X.env = [(false, eval e X.env)] := by rfl) :
    PI X (.Tuple elts kk tpos) (.Call (.Name "enumerate" p) [e] [] pos) (iEnumT X.K ta) := by
  refine ⟨fun pins s σ H R I h => Call_ (ld_blt I hg hm boot_enumerate (PyProof.Rows.callWith_type1 (thn (ha.run pos pins s σ H _ I h) fun us s1 ⟨vs, H1, I1, r1, a, xs, ex, hq, q⟩ => ?_) hs rfl))⟩
  subst ex
  obtain ⟨u, eu, ru⟩ := vals1 r1
  subst eu
  cases ru
  obtain ⟨its, rv, p', hz⟩ := I1.tuple hq
  have hp : s1.heap.IsTuple a its.toArray := p'
  refine call_enum_tup hp fun h' he hit hk => wpAny_pyIter_enum he ?_
  refine ⟨s1.heap.objs.size + 1, [s1.heap.objs.size + 1, s1.heap.objs.size], _, _, H1, rfl, I1.kept (t' := s1.toks) hk, turn_enumT a _ _, ⟨⟨.none, he⟩, hit⟩, fun b hb => ?_, q⟩
  have hle : s1.heap.objs.size ≤ b := by
    rcases List.mem_cons.mp hb with z | z
    · rw [z]; exact Nat.le_succ _
    · rw [List.mem_singleton.mp z]; exact Nat.le_refl _
  exact I1.fpOk hle (I1.hok.fresh hle)
/-- repr of data: lists, tuples -/
def rRepr (K : PySem.W.Frag) (B : Nat) : List V → Hp → VK → Prop := fun vs H Q => ∃ (a : Addr) (d : PyData), vs = [V.ref a] ∧ Dp K H (.ref a) d ∧ d.showable = true ∧ d.hasDict = false ∧ d.depth ≤ B ∧ d.shown.length ≤ sizeLine ∧ Q (.str d.shown) H
theorem cr_repr {B : Nat} (hg : X.A.guards = some []) (hu : X.A.units + (B + 1) < cLine) : CallR X (.builtin "repr") (rRepr X.K B) := by
  intro pins s σ H vs us Q I r ⟨a, d, ev, hd, h1, h2, h3, h4, q⟩
  subst ev
  obtain ⟨u, eu, ru⟩ := vals1 r
  subst eu
  cases ru
  obtain ⟨as, rd⟩ := Dp.reads I d _ _ hd rfl
  exact repr_of_reads' rd h1 (PyData.noDict_hsm h2) hg (by omega) (fun _ _ e => e) (fun h' v tk hk => ⟨.str d.shown, H, I.kept (t' := tk) hk, ⟨_, rfl⟩, q⟩) h4
end
end Ex1
set_option maxRecDepth 100000
set_option maxHeartbeats 2000000
/-! Dv5: data over Ext1's rules. -/
namespace Dv
open PySem PySem.Spec L2 Ex1
section
variable {K : PySem.W.Frag} {σ : L2.St} {F F' H H' : Hp} {te ta tb tx : TE} {tt tu : TT} {tr : TA} {d e : PyData} {ds : List PyData} {v : V} {b c : Bool} {i j : Int} {r : R2}
theorem evd_allR {n : Nat} {f : Nat → Bool} (h : EvD K te σ F H (.list ((List.range n).map fun i => .bool (f i)))) : EvD K (tCB (rAll K) (tCons te tNil)) σ F H (.bool ((List.range n).all f)) := by
  have q := evd_all (bs := (List.range n).map f) (by rw [List.map_map]; exact h)
  rw [List.all_map] at q
  exact q
theorem evd_anyR {n : Nat} {f : Nat → Bool} (h : EvD K te σ F H (.list ((List.range n).map fun i => .bool (f i)))) : EvD K (tCB (rAny K) (tCons te tNil)) σ F H (.bool ((List.range n).any f)) := by
  have q := evd_any (bs := (List.range n).map f) (by rw [List.map_map]; exact h)
  rw [List.any_map] at q
  exact q
theorem picks2_bools {n : Nat} {m : Nat → Nat} {g : Nat → Nat → Bool} : picks2 n (fun _ => true) m (fun _ _ => true) (fun i j => .bool (g i j)) = ((List.range n).flatMap fun i => (List.range (m i)).map (g i)).map PyData.bool := by
  have ft : ∀ l : List Nat, l.filter (fun _ => true) = l := fun l => List.filter_eq_self.mpr fun _ _ => rfl
  unfold picks2 picks
  rw [ft, List.map_flatMap]
  congr 1
  funext i
  rw [ft, List.map_map]
  rfl
theorem evd_allR2 {n : Nat} {m : Nat → Nat} {g : Nat → Nat → Bool} (h : EvD K te σ F H (.list (picks2 n (fun _ => true) m (fun _ _ => true) (fun i j => .bool (g i j))))) :
    EvD K (tCB (rAll K) (tCons te tNil)) σ F H (.bool ((List.range n).all fun i => (List.range (m i)).all (g i))) := by
  rw [picks2_bools] at h
  have q := evd_all h
  simpa [List.all_flatMap, List.all_map, Function.comp_def] using q
/-- a range object -/
def IsRng (n : Int) : V → Hp → Hp → Prop := fun v F _ => ∃ p, v = .ref p ∧ F p = some (.rng 0 n)
theorem evp_rng {n : Int} (h : EvD K te σ F H (.int n)) : EvP (tCB rRng1 (tCons te tNil)) σ F H (IsRng n) :=
  evd_cb (eva_one h) fun vs F1 H1 _ _ z p Q q => by
    obtain ⟨v, rfl, hv⟩ := DpAll.one_inv p
    exact ⟨n, by rw [hv.int_inv], fun p hp => q _ _ _ (.new z hp) ⟨p, rfl, upd_same⟩⟩
theorem iwd_rng {n : Int} (h : EvP te σ F H (IsRng n)) (h0 : 0 ≤ n) (hn : n ≤ 100000) : IwD K (iRngV te) σ F H n.toNat fun i => .int (i : Nat) :=
  fun F1 H1 x y z R q => h F1 H1 x y z _ fun v F2 H2 g2 ⟨p, e, hp⟩ => ⟨p, n, e, g2.fh _ _ hp, ⟨h0, hn⟩, q _ F2 H2 g2 (fun _ _ _ _ _ h => h) (fun _ _ _ _ => Nat.le_refl _) fun i F' H' u H'' _ z' _ hy => by
    obtain ⟨e, e2⟩ := hy
    subst e e2
    exact ⟨F', .refl z', by rw [Int.zero_add]; exact .int _⟩⟩
theorem iwd_enumT (h : EvD K te σ F H (.tuple ds)) : IwD K (iEnumT K (tCons te tNil)) σ F H ds.length fun i => .tuple [.int (i : Nat), ds.getD i .none] :=
  fun F1 H1 x y z R q => h F1 H1 x y z _ fun v F2 H2 g2 p2 => by
    obtain ⟨a, xs, rfl, hs, ha⟩ := p2.tup_inv
    have hl := ha.len
    refine ⟨a, xs, rfl, sqT_mono g2.fh hs, q _ F2 H2 g2 (fun i F' H' f z' hi => ?_) (fun F' H' f z' => ⟨xs, sqT_mono (f.trans z') hs, hl⟩) fun i F' H' u H'' f z' hi hy => ?_⟩
    · exact ⟨xs, xs[i]'(by omega), sqT_mono (f.trans z') hs, List.getElem?_eq_getElem (by omega)⟩
    · obtain ⟨T, y, rfl, hT, rfl, hy⟩ := hy
      obtain ⟨d, h1, h2⟩ := ha.atV (hy xs (sqT_mono (f.trans z') hs))
      have e : ds.getD i .none = d := by rw [List.getD_eq_getElem?_getD, h1]; rfl
      refine ⟨upd F' T (.tup [.int (i : Nat), y]), .new z' hT, ?_⟩
      show Dp K _ _ (.tuple [.int (i : Nat), ds.getD i .none])
      rw [e]
      exact .tup (SqT.of upd_same) (.cons (.int _) (.one (h2.up (f.trans (same_upd (z'.free hT))))))
end
end Dv
set_option maxRecDepth 100000
set_option maxHeartbeats 2000000
/-! Dv6: shapes that recur: comprehensions and loops over ints. -/
namespace Dv
open PySem PySem.Spec L2
theorem wipe_at {σ : St} {i : Nat} : ∀ {vs : List Nat}, i ∈ vs → i < σ.length → (wipe σ vs)[i]? = some none
  | v :: vs, h, hl => by
    unfold wipe
    by_cases e : v = i
    · subst e
      exact List.getElem?_set_self (by rw [wipe_length]; exact hl)
    · rw [List.getElem?_set_ne e]
      refine wipe_at ?_ hl
      rcases List.mem_cons.mp h with z | z
      · exact absurd z.symm e
      · exact z
theorem wipe_set {σ : St} {n : Nat} {vs : List Nat} {x : Option V} (h : n ∈ vs) : wipe ((wipe σ vs).set n x) vs = wipe σ vs := by
  refine List.ext_getElem? fun i => ?_
  by_cases hi : i ∈ vs
  · by_cases hl : i < σ.length
    · rw [wipe_at hi (by rw [List.length_set, wipe_length]; exact hl), wipe_at hi hl]
    · rw [List.getElem?_eq_none (by rw [wipe_length, List.length_set, wipe_length]; omega), List.getElem?_eq_none (by rw [wipe_length]; omega)]
  · rw [wipe_out hi, List.getElem?_set_ne (fun e => hi (by rw [← e]; exact h))]
theorem wipe_set2 {σ : St} {n m : Nat} {vs : List Nat} {x y : Option V} (h : n ∈ vs) (h2 : m ∈ vs) : wipe (((wipe σ vs).set n x).set m y) vs = wipe σ vs := by
  refine List.ext_getElem? fun i => ?_
  by_cases hi : i ∈ vs
  · by_cases hl : i < σ.length
    · rw [wipe_at hi (by rw [List.length_set, List.length_set, wipe_length]; exact hl), wipe_at hi hl]
    · rw [List.getElem?_eq_none (by rw [wipe_length, List.length_set, List.length_set, wipe_length]; omega), List.getElem?_eq_none (by rw [wipe_length]; omega)]
  · rw [wipe_out hi, List.getElem?_set_ne (fun e => hi (by rw [← e]; exact h2)), List.getElem?_set_ne (fun e => hi (by rw [← e]; exact h))]
section
variable {K : PySem.W.Frag} {σ : St} {F F' H H' : Hp} {te ta tb tx : TE} {tt tu tt1 : TT} {tr : TA} {d e : PyData} {ds : List PyData} {v : V} {b c : Bool} {i j : Int} {r : R2} {wi wi1 : TI} {n B s s1 : Nat} {vs vs1 : List Nat}
/-- over ints: [elt for s in .. if test] -/
theorem evd_lcI {g : Nat → Int} (p : Nat → Bool) (f : Nat → PyData) (hi : IwD K wi σ F H n fun i => .int (g i)) (hn : n ≤ 50000)
    (ht : ∀ i F1 H1, i < n → Same F F1 → Same H H1 → Same F1 H1 → EvT tt ((wipe σ vs).set s (some (.int (g i)))) F1 H1 (p i))
    (he : ∀ i F1 H1, i < n → p i = true → Same F F1 → Same H H1 → Same F1 H1 → EvD K te ((wipe σ vs).set s (some (.int (g i)))) F1 H1 (f i)) (hs : s ∈ vs := by decide) : EvD K (tLc wi (gName s) tt te vs) σ F H (.list (picks n p f)) :=
  evd_lc p f hi hn (fun _ _ _ _ _ _ => tgd_int) (by rintro _ _ _ rfl; exact wipe_set hs) (by rintro i σ2 F1 H1 h1 h2 h3 h4 rfl; exact ht i F1 H1 h1 h2 h3 h4) (by rintro i σ2 F1 H1 h1 h2 h3 h4 h5 rfl; exact he i F1 H1 h1 h2 h3 h4 h5)
theorem evd_lcI0 {g : Nat → Int} (f : Nat → PyData) (hi : IwD K wi σ F H n fun i => .int (g i)) (hn : n ≤ 50000)
    (he : ∀ i F1 H1, i < n → Same F F1 → Same H H1 → Same F1 H1 → EvD K te ((wipe σ vs).set s (some (.int (g i)))) F1 H1 (f i)) (hs : s ∈ vs := by decide) : EvD K (tLc wi (gName s) tYes te vs) σ F H (.list ((List.range n).map f)) :=
  evd_lc0 f hi hn (fun _ _ _ _ _ _ => tgd_int) (by rintro _ _ _ rfl; exact wipe_set hs) (by rintro i σ2 F1 H1 h1 h2 h3 h4 rfl; exact he i F1 H1 h1 h2 h3 h4)
/-- over data -/
theorem evd_lcD {g : Nat → PyData} (p : Nat → Bool) (f : Nat → PyData) (hi : IwD K wi σ F H n g) (hn : n ≤ 50000)
    (ht : ∀ i v F1 H1, i < n → Same F F1 → Same H H1 → Same F1 H1 → Dp K F1 v (g i) → EvT tt ((wipe σ vs).set s (some v)) F1 H1 (p i))
    (he : ∀ i v F1 H1, i < n → p i = true → Same F F1 → Same H H1 → Same F1 H1 → Dp K F1 v (g i) → EvD K te ((wipe σ vs).set s (some v)) F1 H1 (f i)) (hs : s ∈ vs := by decide) : EvD K (tLc wi (gName s) tt te vs) σ F H (.list (picks n p f)) := by
  refine evd_lc (P := fun i σ2 F1 => ∃ x, σ2 = (wipe σ vs).set s (some x) ∧ Dp K F1 x (g i)) p f hi hn (fun _ _ _ _ _ _ => tgd_name) (by rintro _ _ _ ⟨x, rfl, _⟩; exact wipe_set hs) ?_ ?_
  · rintro i σ2 F1 H1 h1 h2 h3 h4 ⟨x, rfl, hx⟩; exact ht i x F1 H1 h1 h2 h3 h4 hx
  · rintro i σ2 F1 H1 h1 h2 h3 h4 h5 ⟨x, rfl, hx⟩; exact he i x F1 H1 h1 h2 h3 h4 h5 hx
theorem evd_lcD0 {g : Nat → PyData} (f : Nat → PyData) (hi : IwD K wi σ F H n g) (hn : n ≤ 50000)
    (he : ∀ i v F1 H1, i < n → Same F F1 → Same H H1 → Same F1 H1 → Dp K F1 v (g i) → EvD K te ((wipe σ vs).set s (some v)) F1 H1 (f i)) (hs : s ∈ vs := by decide) : EvD K (tLc wi (gName s) tYes te vs) σ F H (.list ((List.range n).map f)) := by
  have h := evd_lcD (tt := tYes) (fun _ => true) f hi hn (fun _ _ _ _ _ _ _ _ _ => evt_yes) (fun i v F1 H1 a _ c d e g => he i v F1 H1 a c d e g) hs
  rw [picks_all fun _ _ => rfl] at h
  exact h
/-- over pairs of ints: [elt for s, s1 in .. if test] -/
theorem evd_lcP {g g1 : Nat → Int} (p : Nat → Bool) (f : Nat → PyData) (hi : IwD K wi σ F H n fun i => .tuple [.int (g i), .int (g1 i)]) (hn : n ≤ 50000)
    (ht : ∀ i F1 H1, i < n → Same F F1 → Same H H1 → Same F1 H1 → EvT tt (((wipe σ vs).set s (some (.int (g i)))).set s1 (some (.int (g1 i)))) F1 H1 (p i))
    (he : ∀ i F1 H1, i < n → p i = true → Same F F1 → Same H H1 → Same F1 H1 → EvD K te (((wipe σ vs).set s (some (.int (g i)))).set s1 (some (.int (g1 i)))) F1 H1 (f i)) (hs : s ∈ vs := by decide) (hs1 : s1 ∈ vs := by decide) :
    EvD K (tLc wi (gTup K 2 (gCons (gName s) (gCons (gName s1) gNil))) tt te vs) σ F H (.list (picks n p f)) :=
  evd_lc p f hi hn (fun _ _ _ _ _ _ => tgd_two_int) (by rintro _ _ _ rfl; exact wipe_set2 hs hs1) (by rintro i σ2 F1 H1 h1 h2 h3 h4 rfl; exact ht i F1 H1 h1 h2 h3 h4) (by rintro i σ2 F1 H1 h1 h2 h3 h4 h5 rfl; exact he i F1 H1 h1 h2 h3 h4 h5)
theorem evd_lcP0 {g g1 : Nat → Int} (f : Nat → PyData) (hi : IwD K wi σ F H n fun i => .tuple [.int (g i), .int (g1 i)]) (hn : n ≤ 50000)
    (he : ∀ i F1 H1, i < n → Same F F1 → Same H H1 → Same F1 H1 → EvD K te (((wipe σ vs).set s (some (.int (g i)))).set s1 (some (.int (g1 i)))) F1 H1 (f i)) (hs : s ∈ vs := by decide) (hs1 : s1 ∈ vs := by decide) :
    EvD K (tLc wi (gTup K 2 (gCons (gName s) (gCons (gName s1) gNil))) tYes te vs) σ F H (.list ((List.range n).map f)) :=
  evd_lc0 f hi hn (fun _ _ _ _ _ _ => tgd_two_int) (by rintro _ _ _ rfl; exact wipe_set2 hs hs1) (by rintro i σ2 F1 H1 h1 h2 h3 h4 rfl; exact he i F1 H1 h1 h2 h3 h4)
/-- a pair of a datum and a datum -/
theorem evd_lcQ {g g1 : Nat → PyData} (p : Nat → Bool) (f : Nat → PyData) (hi : IwD K wi σ F H n fun i => .tuple [g i, g1 i]) (hn : n ≤ 50000)
    (ht : ∀ i x y F1 H1, i < n → Same F F1 → Same H H1 → Same F1 H1 → Dp K F1 x (g i) → Dp K F1 y (g1 i) → EvT tt (((wipe σ vs).set s (some x)).set s1 (some y)) F1 H1 (p i))
    (he : ∀ i x y F1 H1, i < n → p i = true → Same F F1 → Same H H1 → Same F1 H1 → Dp K F1 x (g i) → Dp K F1 y (g1 i) → EvD K te (((wipe σ vs).set s (some x)).set s1 (some y)) F1 H1 (f i)) (hs : s ∈ vs := by decide) (hs1 : s1 ∈ vs := by decide) :
    EvD K (tLc wi (gTup K 2 (gCons (gName s) (gCons (gName s1) gNil))) tt te vs) σ F H (.list (picks n p f)) := by
  refine evd_lc (P := fun i σ2 F1 => ∃ x y, σ2 = ((wipe σ vs).set s (some x)).set s1 (some y) ∧ Dp K F1 x (g i) ∧ Dp K F1 y (g1 i)) p f hi hn (fun _ _ _ _ _ _ => tgd_two) (by rintro _ _ _ ⟨x, y, rfl, _⟩; exact wipe_set2 hs hs1) ?_ ?_
  · rintro i σ2 F1 H1 h1 h2 h3 h4 ⟨x, y, rfl, hx, hy⟩; exact ht i x y F1 H1 h1 h2 h3 h4 hx hy
  · rintro i σ2 F1 H1 h1 h2 h3 h4 h5 ⟨x, y, rfl, hx, hy⟩; exact he i x y F1 H1 h1 h2 h3 h4 h5 hx hy
theorem evd_lcQ0 {g g1 : Nat → PyData} (f : Nat → PyData) (hi : IwD K wi σ F H n fun i => .tuple [g i, g1 i]) (hn : n ≤ 50000)
    (he : ∀ i x y F1 H1, i < n → Same F F1 → Same H H1 → Same F1 H1 → Dp K F1 x (g i) → Dp K F1 y (g1 i) → EvD K te (((wipe σ vs).set s (some x)).set s1 (some y)) F1 H1 (f i)) (hs : s ∈ vs := by decide) (hs1 : s1 ∈ vs := by decide) :
    EvD K (tLc wi (gTup K 2 (gCons (gName s) (gCons (gName s1) gNil))) tYes te vs) σ F H (.list ((List.range n).map f)) := by
  have h := evd_lcQ (tt := tYes) (fun _ => true) f hi hn (fun _ _ _ _ _ _ _ _ _ _ _ => evt_yes) (fun i x y F1 H1 a _ c d e g g1 => he i x y F1 H1 a c d e g g1) hs hs1
  rw [picks_all fun _ _ => rfl] at h
  exact h
/-- two clauses over ints -/
theorem evd_lcII (B : Nat) {g : Nat → Int} {g1 : Nat → Nat → Int} (p : Nat → Bool) (m : Nat → Nat) (p1 : Nat → Nat → Bool) (f : Nat → Nat → PyData) (hi : IwD K wi σ F H n fun i => .int (g i)) (hB : ∀ i, i < n → m i ≤ B) (hn : n * B ≤ 50000) (hB2 : B ≤ 50000)
    (ht : ∀ i F1 H1, i < n → Same F F1 → Same H H1 → Same F1 H1 → EvT tt ((wipe σ vs).set s (some (.int (g i)))) F1 H1 (p i))
    (hi1 : ∀ i F1 H1, i < n → p i = true → Same F F1 → Same H H1 → Same F1 H1 → IwD K wi1 ((wipe σ vs).set s (some (.int (g i)))) F1 H1 (m i) fun j => .int (g1 i j))
    (ht1 : ∀ i j F1 H1, i < n → j < m i → Same F F1 → Same H H1 → Same F1 H1 → EvT tt1 ((wipe ((wipe σ vs).set s (some (.int (g i)))) vs1).set s1 (some (.int (g1 i j)))) F1 H1 (p1 i j))
    (he : ∀ i j F1 H1, i < n → j < m i → p1 i j = true → Same F F1 → Same H H1 → Same F1 H1 → EvD K te ((wipe ((wipe σ vs).set s (some (.int (g i)))) vs1).set s1 (some (.int (g1 i j)))) F1 H1 (f i j))
    (hs : s ∈ vs := by decide) (hs1 : s1 ∈ vs1 := by decide) :
    EvD K (tLc2 wi (gName s) tt wi1 (gName s1) tt1 te vs vs1) σ F H (.list (picks2 n p m p1 f)) :=
  evd_lc2 (P := fun i σ2 _ => σ2 = (wipe σ vs).set s (some (.int (g i)))) (P1 := fun i j σ2 σ3 _ => σ3 = (wipe σ2 vs1).set s1 (some (.int (g1 i j)))) p m (fun i j => .int (g1 i j)) p1 f hi hB hn hB2 (fun _ _ _ _ _ _ => tgd_int) (by rintro _ _ _ rfl; exact wipe_set hs) (fun _ _ _ _ h _ => h)
    (by rintro i σ2 F1 H1 h1 h2 h3 h4 rfl; exact ht i F1 H1 h1 h2 h3 h4) (by rintro i σ2 F1 H1 h1 h2 h3 h4 h5 rfl; exact hi1 i F1 H1 h1 h2 h3 h4 h5) (fun _ _ _ _ _ _ _ _ _ _ => tgd_int) (by rintro _ _ _ _ _ rfl; exact wipe_set hs1)
    (by rintro i j σ2 σ3 F1 H1 h1 h2 h3 h4 h5 rfl rfl; exact ht1 i j F1 H1 h1 h2 h3 h4 h5) (by rintro i j σ2 σ3 F1 H1 h1 h2 h3 h4 h5 h6 rfl rfl; exact he i j F1 H1 h1 h2 h3 h4 h5 h6)
/-- a for over ints -/
theorem st_forI {D : Ends} {ts : TS} {g : Nat → Int} (Pv : Nat → St → Hp → Hp → Prop) (z : Same F H) (hi : IwD K wi σ F H n fun i => .int (g i)) (h0 : ∀ F1 H1, Gr F H F1 H1 → Pv 0 σ F1 H1)
    (hs : ∀ i σ' F' H' F'' H'' (N : St → Hp → Prop), i < n → Same F F' → Same F' H' → Pv i σ' F' H' → Gr F' H' F'' H'' → (∀ σ3 F3 H3, Same F'' F3 → Same F3 H3 → Pv (i + 1) σ3 F3 H3 → N σ3 H3) →
      ts { D with nx := N, ct := N, bk := D.nx } (σ'.set s (some (.int (g i)))) H'')
    (hd : ∀ σ' F' H', Same F F' → Same F' H' → Pv n σ' F' H' → D.nx σ' H') : tFor wi (gName s) ts D σ H :=
  st_for Pv z hi h0 (fun i σ' F' H' F'' H'' x N h1 h2 h3 h4 h5 h6 h7 => by
    obtain rfl := h6.int_inv
    exact hs i σ' F' H' F'' H'' N h1 h2 h3 h4 h5 h7) hd
theorem iwd_ints {ns : List Int} (h : EvD K te σ F H (.tuple (ns.map PyData.int))) : IwD K (iTup K te) σ F H ns.length fun i => .int (ns.getD i 0) := by
  have q := iwd_tup h
  rw [List.length_map] at q
  exact q.congr fun i hi => by
    rw [List.getD_eq_getElem?_getD, List.getElem?_map, List.getElem?_eq_getElem hi, List.getD_eq_getElem?_getD, List.getElem?_eq_getElem hi]; rfl
theorem iwd_intsL {ns : List Int} (h : EvD K te σ F H (.list (ns.map PyData.int))) : IwD K (iList K te) σ F H ns.length fun i => .int (ns.getD i 0) := by
  have q := iwd_lst h
  rw [List.length_map] at q
  exact q.congr fun i hi => by
    rw [List.getD_eq_getElem?_getD, List.getElem?_map, List.getElem?_eq_getElem hi, List.getD_eq_getElem?_getD, List.getElem?_eq_getElem hi]; rfl
theorem rng_map {α β : Type} {ns : List α} {a0 : α} {f : α → β} : (List.range ns.length).map (fun i => f (ns.getD i a0)) = ns.map f := by
  refine List.ext_getElem (by simp) fun i h1 h2 => ?_
  simp at h1 h2
  simp [h1]
/-- what is picked of the items of a list -/
theorem picks_filter {α : Type} {ns : List α} {a0 : α} {p : α → Bool} {f : α → PyData} : picks ns.length (fun i => p (ns.getD i a0)) (fun i => f (ns.getD i a0)) = (ns.filter p).map f := by
  have e : (List.range ns.length).map (fun i => ns.getD i a0) = ns := by
    have q := rng_map (ns := ns) (a0 := a0) (f := fun x => x)
    simpa using q
  have q : ((List.range ns.length).map (fun i => ns.getD i a0)).filter p = ns.filter p := by rw [e]
  rw [List.filter_map] at q
  rw [← q, List.map_map]
  rfl
end
end Dv
set_option maxRecDepth 100000
set_option maxHeartbeats 4000000
/-! Ext2: dicts with tuple keys: made by a comprehension, popped, merged. -/
namespace Ex2
open PySem PySem.W PySem.Calls PyProof.Rows PySem.Spec
open L2 hiding Inv RelV St
open L2 (Cx)
section
variable {prog : Program} {w : World} {K : Type} [DecidableEq K] {knd : HeapKind prog w K}
theorem meetsPop1 {d b : Addr} {k : K} (hd : (d == sysModules) = false) :
    MeetsIn prog w (Builtin.«dict.pop» ⟨[.ref d, .ref b], []⟩) (fun A R s => ∃ xs p, knd.room A.in1 ∧ knd.is s.heap k b ∧ s.heap.DictOfH knd d xs ∧ xs.length ≤ sizeLine ∧ atKey xs k = some p ∧
      ∀ h' tk, h'.DictOfH knd d (DT.dropH xs k) → Heap.SameBut d s.heap h' → R (.ok (.ret p.2)) { s with heap := h', toks := tk }) :=
  .of_wp fun A R s ⟨xs, p, hu, hkey, hm, hsz, hp, hsome⟩ => by
    obtain ⟨o, es, ep, ho, hc, hdat, he, his, hn⟩ := id hm
    have hes : es.size = xs.length := size_of_entries he
    have hpart : (keyPart (Value.ref b)).isSome = false := rfl
    unfold Builtin.«dict.pop»
    refine wpAny_bind ?_
    unfold Builtin.Dict.keyAndDefault
    refine wpAny_bind (wpAny_notOrdered_dict hm.typeIs ?_)
    show wpAny _ _ (pure (d, Value.ref b, none)) _ _ s
    refine wpAny_pure ?_
    simp only [hpart, Bool.false_eq_true, if_false]
    refine wpAny_bind (wpAny_dictEntries ho hdat (wpAny_bind (wpAny_pure ?_)))
    cases hem : es.isEmpty with
    | true =>
      have h0 : xs = [] := by
        have z : es.size = 0 := by simpa using hem
        exact List.length_eq_zero_iff.mp (by omega)
      rw [h0] at hp
      cases hp
    | false =>
      simp only [Bool.false_eq_true, if_false]
      refine wpAny_bind (DT.takeH hu hkey hm hsz (fun hno => ?_) fun p' e hp' hev h' hm' hs' => ?_)
      · rw [hno] at hp
        cases hp
      · simp only [Option.isNone_some, Bool.false_eq_true, if_false]
        rw [hp'] at hp
        cases hp
        exact wpAny_bind (wpAny_letGo (wpAny_pure ⟨e.val, rfl, by rw [hev]; exact hsome h' _ hm' hs'⟩))
end
section
variable {X : Cx}
/-- a tuple of ints and texts is a key, tracked or not -/
theorem key_seq {pins : List (Addr × Obj)} {σ : L2.St} {H : Hp} {s : Shared} {a : Addr} {ks : List Key} (I : L2.Inv X pins σ H s) (e : SqT X.K H a (ks.map kV)) : (tupleKind (mixKind X.prog X.w)).is s.heap ks a := by
  obtain ⟨its, r, ⟨o, h1, h2, n, h3⟩, _⟩ := I.tuple e
  exact ⟨o, its.toArray, n, h1, h2, h3, by simpa using items_are r⟩
/-- d.pop(k), there -/
def tPopK (K : PySem.W.Frag) (td ty : TE) : TE := fun σ H Q => td σ H fun x H1 => ∃ a, x = .ref a ∧ IsD H1 a ∧ ty σ H1 fun y H2 => ∃ kvs k v b, H2 a = some (.dT kvs) ∧ y = .ref b ∧ SqT K H2 b (k.map kV) ∧ valV kvs k = some v ∧ Q v (upd H2 a (.dT (dropK kvs k)))
theorem pe_popK {o e : Expr} {apos cpos : Pos} {td ty : TE} (hu : X.A.units + 1 < cLine) (ho : PE X o td) (he : PE X e ty) (m : M1 X o "pop" apos e cpos) : PE X (.Call (.Attribute o "pop" apos) [e] [] cpos) (tPopK X.K td ty) := by
  refine ⟨fun pins s σ H Q I h => ?_⟩
  refine wpAny_Call_method m.base m.few m.line PySem.F.plainAttrs_dict PySem.F.slot_dict_pop PySem.F.type_dict_pop (thn (ho.run pins s σ H _ I h) fun u s1 ⟨x, H1, I1, rx, a, ex, d, q1⟩ => ?_)
  subst ex
  obtain rfl : u = Value.ref a := rx
  obtain ⟨t1, t2, _⟩ := isD_at I1 d
  refine ⟨t1, t2, ?_⟩
  rw [m.trees]
  refine Calls.callWith_builtin rfl (Calls.evalArgs_plain (Calls.spliced_cons (thn (he.run pins s1 σ H1 _ I1 q1) fun iv s2 ⟨y, H2, I2, ry, kvs, k, v, b, ea, ey, hb, l, q2⟩ => Calls.spliced_nil ?_)))
  subst ey
  obtain rfl : iv = Value.ref b := ry
  obtain ⟨z, hd, xs', rel, dd⟩ := dt_of I2.hok ea
  have hz : xs'.length ≤ sizeLine := by rw [← Paired.length rel]; exact z
  obtain ⟨w', hw, rw'⟩ := RelO.some_of (v := v) (o := (atKey xs' k).map (·.2)) (by rw [← l]; exact rel.val k)
  obtain ⟨p, hp, hp2⟩ := Option.map_eq_some_iff.mp hw
  refine call_meetsIn PySem.F.slot_dict_pop dd.typeIs PySem.F.entry_dict_pop (PySem.F.args_dict_pop_2 _ _) (meetsPop1 (knd := tupleKind (mixKind X.prog X.w)) (k := k) hd)
    ⟨xs', p, tupleKind_room_in1 hu, key_seq I2 hb, dd, hz, hp, fun h' tk dd' hs => ?_⟩
  obtain ⟨o, es, ep, hq, h2, h3, h4, _, h5⟩ := dd'
  have I3 : L2.Inv X pins σ (upd H2 a (.dT (dropK kvs k))) { s2 with heap := h', toks := tk } :=
    d_write I2 (by rw [ea]; exact True.intro) hs ⟨o, hq⟩ ⟨Nat.le_trans (dropK_le kvs k) z, hd, _, (DX.KT_drop k rel).keeps (fun c ys ec => (by rw [upd_ne (ne_of ec ea (fun z => nomatch z))]; exact ec)), o, es, ep, hq, h2, h3, h4, h5⟩
  exact ⟨v, _, I3, by rw [hp2]; exact rw', q2⟩
theorem mergeT {H : Hp} : ∀ {more : List (List Key × V)} {ms : List (List Key × Addr × Value)} {kvs : List (List Key × V)} {xs : List (List Key × Addr × Value)}, KT H kvs xs → KT H more ms → KT H (more.foldl (fun m p => putK m p.1 p.2) kvs) (storedAllH xs ms)
  | [], _, _, _, r, .nil => r
  | p :: more, _, _, _, r, .cons (b := q) h t => by
    show KT H (more.foldl _ (putK _ p.1 p.2)) (storedAllH (storedH _ q.1 q.2.1 q.2.2) _)
    rw [← h.1]
    exact mergeT (r.put p.1 h.2.1 h.2.2) t
/-- d.update(e), both of tuple keys, d not empty -/
def tUpdT (td te : TE) : TE := fun σ H Q => td σ H fun x H1 => ∃ a, x = .ref a ∧ IsD H1 a ∧ te σ H1 fun y H2 => ∃ b kvs more, y = .ref b ∧ a ≠ b ∧ H2 a = some (.dT kvs) ∧ H2 b = some (.dT more) ∧ kvs ≠ [] ∧ kvs.length + more.length ≤ sizeLine ∧
  Q .non (upd H2 a (.dT (more.foldl (fun m p => putK m p.1 p.2) kvs)))
theorem foldl_putK_len : ∀ (more kvs : List (List Key × V)), (more.foldl (fun m p => putK m p.1 p.2) kvs).length ≤ kvs.length + more.length
  | [], kvs => Nat.le_refl _
  | p :: more, kvs => by
    have h1 := foldl_putK_len more (putK kvs p.1 p.2)
    have h2 := length_putK kvs p.1 p.2
    rw [List.foldl_cons, List.length_cons]
    omega
theorem pe_updT {o e : Expr} {apos cpos : Pos} {td te : TE} (hu : X.A.units + 1 < cLine) (ho : PE X o td) (he : PE X e te) (m : M1 X o "update" apos e cpos) : PE X (.Call (.Attribute o "update" apos) [e] [] cpos) (tUpdT td te) := by
  refine ⟨fun pins s σ H Q I h => ?_⟩
  refine wpAny_Call_method m.base m.few m.line PySem.F.plainAttrs_dict PySem.F.slot_dict_update PySem.F.type_dict_update (thn (ho.run pins s σ H _ I h) fun u s1 ⟨x, H1, I1, rx, a, ex, d, q1⟩ => ?_)
  subst ex
  obtain rfl : u = Value.ref a := rx
  obtain ⟨t1, t2, _⟩ := isD_at I1 d
  refine ⟨t1, t2, ?_⟩
  rw [m.trees]
  refine Calls.callWith_builtin rfl (Calls.evalArgs_plain (Calls.spliced_cons (thn (he.run pins s1 σ H1 _ I1 q1) fun iv s2 ⟨y, H2, I2, ry, b, kvs, more, ey, hne, ea, eb, h0, hl, q2⟩ => Calls.spliced_nil ?_)))
  subst ey
  obtain rfl : iv = Value.ref b := ry
  obtain ⟨z, hd, xs, rel, dd⟩ := dt_of I2.hok ea
  obtain ⟨z2, hd2, ms, rel2, dd2⟩ := dt_of I2.hok eb
  have l1 : xs.length = kvs.length := (Paired.length rel).symm
  have l2 : ms.length = more.length := (Paired.length rel2).symm
  refine call_update_dictH (knd := tupleKind (mixKind X.prog X.w)) (tupleKind_room_in1 hu) hne hd2 dd dd2 (.inl fun e => h0 (List.length_eq_zero_iff.mp (by rw [← l1, e]; rfl))) (by rw [l1, l2]; exact hl) fun h' dd' _ hs => ?_
  obtain ⟨o, es, ep, hq, h2, h3, h4, _, h5⟩ := dd'
  have I3 : L2.Inv X pins σ (upd H2 a (.dT (more.foldl (fun m p => putK m p.1 p.2) kvs))) { s2 with heap := h', toks := s2.toks } :=
    d_write I2 (by rw [ea]; exact True.intro) hs ⟨o, hq⟩ ⟨Nat.le_trans (foldl_putK_len more kvs) hl, hd, _, (mergeT rel rel2).keeps (fun c ys ec => (by rw [upd_ne (ne_of ec ea (fun z => nomatch z))]; exact ec)), o, es, ep, hq, h2, h3, h4, h5⟩
  exact ⟨.non, _, I3, rfl, q2⟩
/-- d[k] = v by a comprehension, k a tuple -/
theorem d_dictSetT {pins : List (Addr × Obj)} {σ : L2.St} {H : Hp} {s : Shared} {E : Value → Shared → Prop} {D b : Addr} {kvs : List (List Key × V)} {k : List Key} {v : V} {r : Value} {Q : Unit → Shared → Prop} (hu : X.A.units + 1 < cLine) (I : L2.Inv X pins σ H s) (hD : H D = some (.dT kvs)) (hb : H b = some (.tup (k.map kV))) (hz : kvs.length < sizeLine)
    (rv : L2.RelV v r) (h : ∀ s', L2.Inv X pins σ (upd H D (.dT (putK kvs k v))) s' → Q () s') : wpAny (model X.prog X.w) X.A (dictSet D (.ref b) r) Q E s := by
  obtain ⟨z, hd, xs, rel, dd⟩ := dt_of I.hok hD
  have hzv : xs.length ≤ sizeLine := by rw [← Paired.length rel]; exact z
  have hl : (putK kvs k v).length ≤ sizeLine := by have := length_putK kvs k v; omega
  refine wpAny_dictSet_heap (hsz := hzv) (knd := tupleKind (mixKind X.prog X.w)) ?_ (key_of I.hok hb) dd fun h' dd' hs => h _ ?_
  · show X.A.units < cLine
    omega
  · obtain ⟨q, es, ep, hq, h2, h3, h4, _, h5⟩ := dd'
    refine d_write I (by rw [hD]; exact True.intro) hs ⟨q, hq⟩ ⟨hl, hd, _, (rel.put k hb rv).keeps fun c ys ec => ?_, q, es, ep, hq, h2, h3, h4, h5⟩
    rw [upd_ne (ne_of ec hD (fun z => nomatch z))]
    exact ec
/-- {k: v for target in iter if ..}, keys tuples of ints and texts: D the new dict -/
def tDcT (wi : TI) (g : TG) (tt : TT) (tk tv : TE) (vs : List Nat) : TE := fun σ H Q => wi σ H fun J H1 => ∀ D, H1 D = none → ∃ W : Nat → Nat → Hp → Prop, (∃ m, W 0 m (upd H1 D (.dT []))) ∧ ∀ i m H, W i m H →
  (J.stop i H ∧ Q (.ref D) H) ∨ (J.go i H ∧ ∃ Nx : Hp → Prop, (∀ H', Nx H' → ∃ m', m' < m ∧ W (i + 1) m' H') ∧ ∀ x H', J.yld i H x H' → g x (wipe σ vs) H' fun σ2 H2 => wipe σ2 vs = wipe σ vs ∧ tt σ2 H2 fun b H3 =>
    if b = true then tk σ2 H3 fun y H4 => tv σ2 H4 fun z H5 => ∃ kvs k b, y = .ref b ∧ H5 b = some (.tup (k.map kV)) ∧ H5 D = some (.dT kvs) ∧ kvs.length < sizeLine ∧ Nx (upd H5 D (.dT (putK kvs k z))) else Nx H3)
theorem dcT_core {pins : List (Addr × Obj)} {s : Shared} {σ : L2.St} {H : Hp} {Q : VK} {kx vx tg iter : Expr} {ifs : List Expr} {scope : Scope} {own : List (Str × Nat)} {pos pos' : Pos} {wi : TI} {g : TG} {tt : TT} {tk tv : TE} {use : Option (Value → Sem Unit)} {Qf : Value → Shared → Prop}
    (hu : X.A.units + 1 < cLine) (hc : X.calm = true) (hN : X.N.Nodup) (I : L2.Inv X pins σ H s) (hi : PI X tg iter wi) (ok : BlkOk X.N X.env.scope scope own)
    (hg : ∀ (s : Shared) (H : Hp) (C : Addr) (cl : List (Str × Addr)) (fp : List Addr), PG (X.blk s H scope (compEnvC scope cl C X.env) fp) tg g) (ht : ∀ (s : Shared) (H : Hp) (C : Addr) (cl : List (Str × Addr)) (fp : List Addr), PTs (X.blk s H scope (compEnvC scope cl C X.env) fp) ifs tt)
    (hk : ∀ (s : Shared) (H : Hp) (C : Addr) (cl : List (Str × Addr)) (fp : List Addr), PE (X.blk s H scope (compEnvC scope cl C X.env) fp) kx tk)
    (he : ∀ (s : Shared) (H : Hp) (C : Addr) (cl : List (Str × Addr)) (fp : List Addr), PE (X.blk s H scope (compEnvC scope cl C X.env) fp) vx tv) (hs : ∀ x, foldedSetIterable iter X.env x = pure x)
    (h : tDcT wi g tt tk tv (own.map (·.2)) σ H Q)
    (hRR : ∀ D C s' m H', L2.Inv X pins σ H' s' → Q (.ref D) H' → s'.heap.Ns C m → FpOk X pins H' C → compPost (model X.prog X.w) X.A X.xe use Qf (.ref D) C (.ok .next) s') :
    wpAny (model X.prog X.w) X.A (comprehension (.DictComp kx vx [⟨tg, iter, ifs, 0⟩] scope pos) scope X.env pos' newDict false (eval iter X.env) use) Qf X.xe s := by
  have hfree : ∀ y ∈ scope.names, y.2 = .free → ∃ c, X.env.cells.lookup y.1 = some c := fun y hy e => by
    rcases ok.free y hy e with k | k
    · exact I.ok.has _ (.inl k)
    · exact I.ok.has _ (.inr k)
  refine wpAny_comprehension_free (use := use) rfl hs (closure_ok hfree) ok.kind (fun y hy e => by rw [ok.uniq y hy, e])
    (thn (hi.run pins s σ H _ I h) fun xv s1 hx => thn hx fun itv s2 h2 => ?_)
  obtain ⟨it, fp, tn, J, H2, e, I2, T, st2, f2, q⟩ := h2
  subst e
  refine wpAny_newObj_type (newEnv_comp ?_)
  generalize hD : s2.heap.objs.size = D
  have hDn : H2 D = none := I2.hok.fresh (Nat.le_of_eq hD)
  obtain ⟨W, ⟨m0, w0⟩, turn⟩ := q D hDn
  -- the new list
  generalize hs3 : ({ s2 with heap := s2.heap.push { cls := .type "dict", data := .dict #[] } } : Shared) = s3
  have I3 : L2.Inv X pins σ (upd H2 D (.dT [])) s3 := by
    rw [← hs3]
    refine I2.laid (t' := s2.toks) (fun b o e => Heap.get?_push_of_some _ e) (Nat.le_of_eq hD) ?_
    rw [← hD]
    exact dt_empty s2.heap I2.big
  have h3 : s3.heap = s2.heap.push { cls := .type "dict", data := .dict #[] } := by rw [← hs3]
  have sz : ∀ b ∈ fp, b < s2.heap.objs.size := fun b hb => by
    obtain ⟨o, e, _⟩ := T.obj _ _ st2 b hb
    exact Heap.lt_size e
  have f3 : ∀ b ∈ fp, FpOk X pins (upd H2 D (.dT [])) b ∧ b < s3.heap.objs.size := fun b hb => by
    have hlt := sz b hb
    refine ⟨⟨?_, (f2 b hb).2⟩, by rw [h3, Heap.size_push]; exact Nat.lt_succ_of_lt hlt⟩
    rw [upd_ne (by rw [← hD]; exact Nat.ne_of_lt hlt)]
    exact (f2 b hb).1
  have st3 : tn 0 s3.heap := T.keep _ _ _ st2 fun b _ o e => by rw [h3]; exact Heap.get?_push_of_some _ e
  have I4 := block_start I3 ok hN f3
  have pg := hg s3 (upd H2 D (.dT [])) s3.heap.objs.size (cellsFrom (s3.heap.objs.size + 1) scope.names (cloFrom X.env.cells scope.names [])) fp
  have pt := ht s3 (upd H2 D (.dT [])) s3.heap.objs.size (cellsFrom (s3.heap.objs.size + 1) scope.names (cloFrom X.env.cells scope.names [])) fp
  have pk := hk s3 (upd H2 D (.dT [])) s3.heap.objs.size (cellsFrom (s3.heap.objs.size + 1) scope.names (cloFrom X.env.cells scope.names [])) fp
  have pe := he s3 (upd H2 D (.dT [])) s3.heap.objs.size (cellsFrom (s3.heap.objs.size + 1) scope.names (cloFrom X.env.cells scope.names [])) fp
  show codeAny _ _ (.compStart (.DictComp kx vx [⟨tg, iter, ifs, 0⟩] scope pos) 0 (.ref it) (.ref D) (compEnvC scope (cellsFrom (s3.heap.objs.size + 1) scope.names (cloFrom X.env.cells scope.names [])) s3.heap.objs.size X.env)) (compPost (model X.prog X.w) X.A X.xe use Qf (.ref D) s3.heap.objs.size) { s3 with heap := pushCells (s3.heap.push { cls := .type "dict", data := .dict #[] }) scope.names }
  have nfp : ∀ b ∈ fp, (upd H2 D (.dT [])) b = none := fun b hb => (f3 b hb).1.1
  generalize hce : compEnvC scope (cellsFrom (s3.heap.objs.size + 1) scope.names (cloFrom X.env.cells scope.names [])) s3.heap.objs.size X.env = ce at I4 pg pt pk pe ⊢
  have cL : ce.locals = s3.heap.objs.size := by subst hce; rfl
  generalize hH3 : upd H2 D (.dT []) = H3 at I3 I4 pg pt pk pe w0 nfp f3
  generalize hs4 : ({ s3 with heap := pushCells (s3.heap.push { cls := .type "dict", data := .dict #[] }) scope.names } : Shared) = s4 at I4 ⊢
  have st4 : tn 0 s4.heap := T.keep _ _ _ st3 fun b _ o e => by rw [← hs4]; exact pushCells_keeps _ _ _ _ (Heap.get?_push_of_some _ e)
  have stat : ∀ {σ' : L2.St} {H' : Hp} {s' : Shared}, L2.Inv (X.blk s3 H3 scope ce fp) [] σ' H' s' → (∀ b ∈ fp, H' b = none) → ∀ b ∈ fp, FpOk (X.blk s3 H3 scope ce fp) [] H' b := fun {σ' H' s'} I' hn b hb =>
    ⟨hn b hb, (I'.ok.exf b hb).1, I'.ok.exfs b hb, .inl hb, fun x c e => (I'.ok.exf b hb).2 x c e, fun p hp => absurd (show p ∈ ([] : List (Addr × Obj)) ++ [] from hp) (by simp)⟩
  have loop : codeAny (model X.prog X.w) X.A (.compLoop (.DictComp kx vx [⟨tg, iter, ifs, 0⟩] scope pos) 0 (.ref it) (.ref D) ce) (compPost (model X.prog X.w) X.A X.xe use Qf (.ref D) s3.heap.objs.size) s4 := by
    refine compLoop_anyD (fun n s' => ∃ i H', L2.Inv (X.blk s3 H3 scope ce fp) [] (wipe σ (own.map (·.2))) H' s' ∧ tn i s'.heap ∧ (∀ b ∈ fp, H' b = none) ∧ W i n H') ?_ m0 ⟨0, H3, I4, st4, nfp, w0⟩
    rintro n s5 ⟨i, H5, I5, st5, n5, w5⟩
    rcases turn i n H5 w5 with ⟨stop, qq⟩ | ⟨go, Nx, hNx, step⟩
    · have td := T.done (X.blk s3 H3 scope ce fp) rfl rfl rfl hc i [] s5 _ H5 (fun _ _ => False) I5 (stat I5 n5) st5 stop
      refine thnF td fun r s6 ⟨hr, I6⟩ => ?_
      subst hr
      -- back in the def's context
      have I7 : L2.Inv X pins σ H5 s6 := I3.call' (ch := fp) I6.os I6.base I6.hok I6.bare fun b hb => ⟨(f3 b hb).1.2.2.2.1, (f3 b hb).1.2.1, (f3 b hb).1.2.2.2.2.1, (f3 b hb).1.2.2.2.2.2⟩
      have nC : H5 s3.heap.objs.size = none := by
        have z : H5 ce.locals = none := I6.free
        rw [cL] at z
        exact z
      obtain ⟨m, hn, _⟩ := I6.loc
      have hn : s6.heap.Ns ce.locals m := hn
      rw [cL] at hn
      exact hRR D s3.heap.objs.size s6 m H5 I7 qq hn (I3.fpOk (Nat.le_refl _) nC)
    · have ti := T.item (X.blk s3 H3 scope ce fp) rfl rfl rfl hc i [] s5 _ H5 (fun _ _ => False) I5 (stat I5 n5) st5 go
      refine thnF ti fun r s6 ⟨u, hr, h6⟩ => ?_
      subst hr
      refine thnF h6 fun _ s7 ⟨x, H7, I7, r7, y7, st7, n7⟩ => ?_
      have I7' := I7.pinned (stat I7 n7) (T.obj _ _ st7)
      refine thnF (pg.run _ s7 _ H7 x u _ I7' r7 (step x H7 y7)) fun _ s8 ⟨σ8, H8, I8, hw8, q8⟩ => ?_
      refine thnF (pt.run _ s8 σ8 H8 _ I8 q8) fun b s9 ⟨H9, I9, q9⟩ => ?_
      -- the turn's end
      have fin : ∀ {s' : Shared} {H' : Hp}, L2.Inv (X.blk s3 H3 scope ce fp) ([] ++ pinsAt fp s7.heap) σ8 H' s' → Nx H' → ∃ m, m < n ∧ ∃ i H', L2.Inv (X.blk s3 H3 scope ce fp) [] (wipe σ (own.map (·.2))) H' s' ∧ tn i s'.heap ∧ (∀ b ∈ fp, H' b = none) ∧ W i m H' := fun {s' H'} I' nx => by
        obtain ⟨m', hm, w'⟩ := hNx H' nx
        have pin' : ∀ b ∈ fp, ∀ o, s7.heap.get? b = some o → s'.heap.get? b = some o ∧ H' b = none := fun b hb o e =>
          let z := I'.pin (b, o) (List.mem_append_right _ (List.mem_append_right _ (mem_pinsAt hb e)))
          ⟨z.1, z.2.1⟩
        have hl : (wipe σ (own.map (·.2))).length = σ8.length := by rw [← hw8, wipe_length]
        refine ⟨m', hm, i + 1, H', (I'.unpinned (pins := [])).weak hl (fun j v e => ?_), T.keep _ _ _ st7 fun b hb o e => (pin' b hb o e).1, fun b hb => ?_, w'⟩
        · rw [← hw8] at e
          exact (wipe_some e).1
        · obtain ⟨o, e, _⟩ := T.obj _ _ st7 b hb
          exact (pin' b hb o e).2
      cases b with
      | false =>
        simp only [Bool.false_eq_true, if_false] at q9 ⊢
        exact fin I9 q9
      | true =>
        simp only [if_true] at q9 ⊢
        refine thnF (pk.run _ s9 σ8 H9 _ I9 q9) fun z s10 ⟨yk, H10, I10, r10, q10⟩ => ?_
        refine thnF (pe.run _ s10 σ8 H10 _ I10 q10) fun z2 s11 ⟨yv, H11, I11, r11, kvs, k, b, ek, hb11, hD11, hz11, nx⟩ => ?_
        subst ek
        cases r10
        exact d_dictSetT (X := X.blk s3 H3 scope ce fp) (show (X.blk s3 H3 scope ce fp).A.units + 1 < cLine from hu) I11 hD11 hb11 hz11 r11 fun s12 I12 => fin I12 nx
  exact codeAny_compStart_dict loop (T.self X.A 0 _ _ _ st4 loop)
/-- as a value -/
theorem pe_dcT {kx vx tg iter : Expr} {ifs : List Expr} {scope : Scope} {own : List (Str × Nat)} {pos : Pos} {wi : TI} {g : TG} {tt : TT} {tk tv : TE} (hu : X.A.units + 1 < cLine) (hc : X.calm = true) (hN : X.N.Nodup) (hi : PI X tg iter wi) (ok : BlkOk X.N X.env.scope scope own)
    (hg : ∀ (s : Shared) (H : Hp) (C : Addr) (cl : List (Str × Addr)) (fp : List Addr), PG (X.blk s H scope (compEnvC scope cl C X.env) fp) tg g) (ht : ∀ (s : Shared) (H : Hp) (C : Addr) (cl : List (Str × Addr)) (fp : List Addr), PTs (X.blk s H scope (compEnvC scope cl C X.env) fp) ifs tt)
    (hk : ∀ (s : Shared) (H : Hp) (C : Addr) (cl : List (Str × Addr)) (fp : List Addr), PE (X.blk s H scope (compEnvC scope cl C X.env) fp) kx tk)
    (he : ∀ (s : Shared) (H : Hp) (C : Addr) (cl : List (Str × Addr)) (fp : List Addr), PE (X.blk s H scope (compEnvC scope cl C X.env) fp) vx tv) (hs : ∀ x, foldedSetIterable iter X.env x = pure x := by intro _; rfl) :
    PE X (.DictComp kx vx [⟨tg, iter, ifs, 0⟩] scope pos) (tDcT wi g tt tk tv (own.map (·.2))) := by
  refine ⟨fun pins s σ H Q I h => ?_⟩
  rw [arm_eval_DictComp]
  refine dcT_core hu hc hN I hi ok hg ht hk he hs h fun D C s' m H' I' q hn f => ⟨m, hn, fun h'' sb => ?_⟩
  obtain ⟨f0, f1, f2, f3, f4, f5⟩ := f
  exact ⟨.ref D, H', I'.turned (t' := s'.toks) (fun b o hb e => (sb.2 b hb).trans e) f0 f1 f3 f4 f5, rfl, q⟩
end
end Ex2
set_option maxRecDepth 100000
set_option maxHeartbeats 2000000
/-! Dv7: lists and dicts of our own: made, read, changed. -/
namespace Dv
open PySem PySem.Spec L2
theorem Gr.mut {F0 H0 F H : Hp} {p : Addr} {o : HO} (g : Gr F0 H0 F H) (h : H0 p = none) (hf : F p = none) : Gr F0 H0 F (upd H p o) :=
  ⟨g.f, fun b u e => by rw [upd_ne (ne_of_none e h)]; exact g.h _ _ e, same_mut g.fh hf, g.nw⟩
section
variable {K : PySem.W.Frag} {σ : St} {F F' H H' H0 F0 : Hp} {te ta tb tx : TE} {tt tu : TT} {tr : TA} {d e : PyData} {ds : List PyData} {v : V} {b c : Bool} {i j : Int} {r : R2} {p q : Addr} {o : HO} {n : Nat}
theorem DpAll_atI {vs : List V} (h : DpAll K F vs ds) (e : L2.atI ds i = some d) : ∃ v, L2.atI vs i = some v ∧ Dp K F v d := by
  unfold L2.atI at e ⊢
  rw [h.len]
  cases hi : ixN ds.length i with
  | none => rw [hi] at e; cases e
  | some j =>
    rw [hi] at e
    exact h.at e
/-- a list of our own, new since H0, at p, of the data ds -/
structure Own (K : PySem.W.Frag) (H0 F H : Hp) (p : Addr) (ds : List PyData) : Prop where
  nw : H0 p = none
  out : F p = none
  at_ : ∃ xs, H p = some (.lst xs) ∧ DpAll K F xs ds
theorem Own.up (h : Own K H0 F H p ds) (g : Gr F H F' H') : Own K H0 F' H' p ds :=
  ⟨h.nw, let ⟨_, a, _⟩ := h.at_; g.out a h.out, let ⟨xs, a, b⟩ := h.at_; ⟨xs, g.h _ _ a, b.up g.f⟩⟩
theorem Own.other (h : Own K H0 F H p ds) (ne : p ≠ q) : Own K H0 F (upd H q o) p ds :=
  ⟨h.nw, h.out, let ⟨xs, a, b⟩ := h.at_; ⟨xs, by rw [upd_ne ne]; exact a, b⟩⟩
theorem Own.put {es : List PyData} {xs : List V} (h : Own K H0 F H p ds) (hx : DpAll K F xs es) : Own K H0 F (upd H p (.lst xs)) p es := ⟨h.nw, h.out, xs, upd_same, hx⟩
theorem Own.gr (h : Own K H0 F H p ds) (g : Gr F0 H0 F H) : Gr F0 H0 F (upd H p o) := g.mut h.nw h.out
theorem Own.same (h : Own K H0 F H p ds) (z : Same F H) : Same F (upd H p o) := same_mut z h.out
theorem Own.same0 (h : Own K H0 F H p ds) (z : Same H0 H) : Same H0 (upd H p o) := fun b u e => by rw [upd_ne (ne_of_none e h.nw)]; exact z _ _ e
theorem Own.base {H1 : Hp} (h : Own K H0 F H p ds) (e : Same H1 H0) : Own K H1 F H p ds := ⟨e.free h.nw, h.out, h.at_⟩
/-- a list in F or of our own, apart from q -/
theorem Own.ne {o : HO} (h : Own K H0 F H p ds) (e : H0 q = some o) : p ≠ q := fun z => by subst z; rw [h.nw] at e; cases e
def NewL (K : PySem.W.Frag) (H0 : Hp) (ds : List PyData) : V → Hp → Hp → Prop := fun v F H => ∃ p, v = .ref p ∧ Own K H0 F H p ds
theorem evp_new (h : EvA K tr σ F H ds) (hl : ds.length ≤ 100000 := by decide) : EvP (tLst tr) σ F H (NewL K H ds) :=
  fun F1 H1 x y z Q q => h F1 H1 x y z _ fun vs F2 H2 g2 p2 => ⟨Nat.le_trans (by rw [p2.len]; exact hl) (by decide), fun p hp =>
    q _ F2 _ (g2.trans (.own g2.fh hp)) ⟨p, rfl, y.free (g2.h.free hp), g2.fh.free hp, vs, upd_same, p2⟩⟩
theorem evp_newT (h : EvD K te σ F H (.tuple ds)) : EvP (tCB (rLstQ K) (tCons te tNil)) σ F H (NewL K H ds) :=
  evd_cb (eva_one h) fun vs F1 H1 _ y z p Q q => by
    obtain ⟨v, rfl, hv⟩ := DpAll.one_inv p
    obtain ⟨a, xs, rfl, hs, hx⟩ := hv.tup_inv
    exact ⟨a, xs, rfl, .inr (sqT_mono z hs), fun l hl => q _ F1 _ (.own z hl) ⟨l, rfl, y.free hl, z.free hl, xs, upd_same, hx⟩⟩
/-- the variable n holds the list -/
theorem evv_own (h : σ[n]? = some (some (.ref p))) : EvV (tVar n) σ F H (.ref p) := evv_var h
/-- l[i] -/
theorem evd_ixO (h : Own K H0 F H p ds) (ha : EvV ta σ F H (.ref p)) (hb : EvD K tb σ F H (.int i)) (hx : L2.atI ds i = some d) : EvD K (tOp (rIxL K) ta tb) σ F H d := by
  obtain ⟨xs, a, b⟩ := h.at_
  obtain ⟨v, h1, h2⟩ := DpAll_atI b hx
  exact evp_op ha hb (fun _ _ _ _ _ p _ => p) fun x y F1 H1 f h z p1 p2 Q q => ⟨p, xs, i, v, p1, p2.int_inv, SqL.of (h _ _ a), h1, q v F1 H1 (.refl z) (h2.up f)⟩
theorem evd_lenO (h : Own K H0 F H p ds) (ha : EvV te σ F H (.ref p)) : EvD K (tCB (rLenQ K) (tCons te tNil)) σ F H (.int (ds.length : Nat)) := by
  obtain ⟨xs, a, b⟩ := h.at_
  exact fun F1 H1 x y z Q q => ha F1 H1 x y z _ fun v F2 H2 g2 e => ⟨p, xs, by rw [e], .inl (SqL.of ((y.trans g2.h) _ _ a)), by rw [b.len]; exact q _ F2 H2 g2 (.int _)⟩
theorem evd_tupO' (h : Own K H0 F H p ds) (ha : EvV te σ F H (.ref p)) : EvD K (tCB (rTupQ K) (tCons te tNil)) σ F H (.tuple ds) := by
  obtain ⟨xs, a, b⟩ := h.at_
  exact evd_tupO a b ha
theorem evd_inO' {neg : Bool} {n : Int} {ns : List Int} (h : Own K H0 F H p (ns.map PyData.int)) (ha : EvD K ta σ F H (.int n)) (hb : EvV tb σ F H (.ref p)) : EvD K (tOp (rIn K neg) ta tb) σ F H (.bool (if neg then !decide (n ∈ ns) else decide (n ∈ ns))) := by
  obtain ⟨xs, a, b⟩ := h.at_
  obtain rfl := b.ints_inv
  exact evd_inO a ha hb
/-! ### statements -/
variable {D : Ends}
theorem st_append (h : Own K H0 F H p ds) (z : Same F H) (hn : σ[n]? = some (some (.ref p))) (he : EvD K te σ F H d) (hl : ds.length ≤ 100000)
    (k : ∀ xs F1 H1, Gr F H F1 H1 → Own K H0 F1 (upd H1 p (.lst xs)) p (ds ++ [d]) → D.nx σ (upd H1 p (.lst xs))) : tDrop (tBM K "list" rAppend (tVar n) (tCons te tNil)) D σ H := by
  obtain ⟨xs, a, b⟩ := h.at_
  refine ⟨.ref p, hn, .inl ⟨rfl, xs, SqL.of a⟩, ?_⟩
  refine he F H (Same.refl _) (Same.refl _) z _ fun v F1 H1 g hv => ?_
  refine ⟨p, xs, v, rfl, rfl, g.h _ _ a, Nat.lt_of_le_of_lt (by rw [b.len]; exact hl) (by decide), k _ F1 H1 g ?_⟩
  exact (h.up g).put ((b.up g.f).app (.one hv))
/-- m = l.pop() -/
theorem st_popA {m : Nat} (h : Own K H0 F H p (ds ++ [d])) (z : Same F H) (hn : σ[n]? = some (some (.ref p)))
    (k : ∀ v xs, Dp K F v d → Own K H0 F (upd H p (.lst xs)) p ds → D.nx (σ.set m (some v)) (upd H p (.lst xs))) : tAsg (tBM0 K "list" rPop (tVar n)) (gName m) D σ H := by
  obtain ⟨xs, a, b⟩ := h.at_
  have hl := b.len
  rw [List.length_append, List.length_singleton] at hl
  obtain ⟨v, h1, h2⟩ := b.at (i := ds.length) (d := d) (by simp)
  refine ⟨.ref p, hn, .inl ⟨rfl, xs, SqL.of a⟩, p, xs, v, rfl, rfl, a, by rw [hl]; exact h1, k v xs.dropLast h2 (h.put ?_)⟩
  have q := b.take ds.length
  rw [List.take_left'  rfl] at q
  rw [List.dropLast_eq_take, hl]
  exact q
/-- l.pop() -/
theorem st_popD (h : Own K H0 F H p (ds ++ [d])) (z : Same F H) (hn : σ[n]? = some (some (.ref p)))
    (k : ∀ xs, Own K H0 F (upd H p (.lst xs)) p ds → D.nx σ (upd H p (.lst xs))) : tDrop (tBM0 K "list" rPop (tVar n)) D σ H := by
  obtain ⟨xs, a, b⟩ := h.at_
  have hl := b.len
  rw [List.length_append, List.length_singleton] at hl
  obtain ⟨v, h1, h2⟩ := b.at (i := ds.length) (d := d) (by simp)
  refine ⟨.ref p, hn, .inl ⟨rfl, xs, SqL.of a⟩, p, xs, v, rfl, rfl, a, by rw [hl]; exact h1, k xs.dropLast (h.put ?_)⟩
  have q := b.take ds.length
  rw [List.take_left' rfl] at q
  rw [List.dropLast_eq_take, hl]
  exact q
/-- l[i] = e -/
theorem st_setO {i : Nat} (h : Own K H0 F H p ds) (z : Same F H) (he : EvD K te σ F H d) (hn : σ[n]? = some (some (.ref p))) (hi : ∀ F1 H1, Gr F H F1 H1 → EvD K tb σ F1 H1 (.int (i : Nat))) (hl : i < ds.length)
    (k : ∀ xs F1 H1, Gr F H F1 H1 → Own K H0 F1 (upd H1 p (.lst xs)) p (ds.set i d) → D.nx σ (upd H1 p (.lst xs))) : tAsg te (gSub (tVar n) tb rSetL) D σ H := by
  obtain ⟨xs, a, b⟩ := h.at_
  refine he F H (Same.refl _) (Same.refl _) z _ fun v F1 H1 g hv => ?_
  refine ⟨.ref p, hn, ?_⟩
  refine hi F1 H1 g F1 H1 (Same.refl _) (Same.refl _) g.fh _ fun iv F2 H2 g2 hiv => ?_
  have gg := g.trans g2
  refine ⟨p, xs, i, i, rfl, hiv.int_inv, gg.h _ _ a, ?_, k _ F2 H2 gg ((h.up gg).put ((b.up gg.f).set i (hv.up g2.f)))⟩
  unfold ixN
  rw [if_pos (by omega), if_pos (by rw [b.len]; omega)]
  simp
/-- l += [..] -/
theorem st_ext {es : List PyData} (h : Own K H0 F H p ds) (z : Same F H) (hn : σ[n]? = some (some (.ref p))) (he : EvP te σ F H (OwnL K es)) (hl : ds.length + es.length ≤ 100000) (hlen : n < σ.length)
    (k : ∀ xs F1 H1, Gr F H F1 H1 → Own K H0 F1 (upd H1 p (.lst xs)) p (ds ++ es) → D.nx σ (upd H1 p (.lst xs))) : tAug n te rExt2 D σ H := by
  obtain ⟨xs, a, b⟩ := h.at_
  refine ⟨.ref p, hn, ?_⟩
  refine he F H (Same.refl _) (Same.refl _) z _ fun v F1 H1 g ⟨q, ys, e, hf, hq, hy⟩ => ?_
  refine ⟨p, q, xs, ys, rfl, e, g.h _ _ a, hq, ?_, ?_⟩
  · rw [b.len, hy.len]
    exact Nat.le_trans hl (by decide)
  · have es : σ.set n (some (.ref p)) = σ := by
      refine List.ext_getElem? fun j => ?_
      by_cases hj : n = j
      · subst hj
        rw [List.getElem?_set_self hlen, hn]
      · rw [List.getElem?_set_ne hj]
    show D.nx (σ.set n (some (.ref p))) _
    rw [es]
    exact k _ F1 H1 g ((h.up g).put ((b.up g.f).app hy))
/-- while l: -/
theorem evt_truO {ds : List PyData} (h : Own K H0 F H p ds) (hn : EvV te σ F H (.ref p)) : EvT (fun σ H Q => te σ H fun x H' => ∃ k, TruV K x H' k ∧ Q k H') σ F H (!ds.isEmpty) := by
  obtain ⟨xs, a, b⟩ := h.at_
  refine fun F1 H1 x y z Q q => hn F1 H1 x y z _ fun v F2 H2 g2 e => ?_
  subst e
  refine ⟨!xs.isEmpty, .inl ⟨xs, SqL.of ((y.trans g2.h) _ _ a), rfl⟩, ?_⟩
  have e : xs.isEmpty = ds.isEmpty := by
    have := b.len
    cases xs <;> cases ds <;> simp at this ⊢
  rw [e]
  exact q F2 H2 g2
/-- a while -/
theorem st_while {ts : TS} (M : Nat → St → Hp → Hp → Prop) (m0 : Nat) (F0 : Hp) (f0 : Same F0 F) (z : Same F H) (h0 : M m0 σ F H) (bb : Nat → St → Hp → Hp → Bool)
    (ht : ∀ m σ' F' H', Same F0 F' → Same F' H' → M m σ' F' H' → EvT tt σ' F' H' (bb m σ' F' H'))
    (hs : ∀ m σ' F' H' F'' H'' (N : St → Hp → Prop), Same F0 F' → Same F' H' → M m σ' F' H' → bb m σ' F' H' = true → Gr F' H' F'' H'' → (∀ m2 σ3 F3 H3, m2 < m → Same F0 F3 → Same F3 H3 → M m2 σ3 F3 H3 → N σ3 H3) → ts { D with nx := N, ct := N, bk := D.nx } σ' H'')
    (hd : ∀ m σ' F' H' F'' H'', Same F0 F' → Same F' H' → M m σ' F' H' → bb m σ' F' H' = false → Gr F' H' F'' H'' → D.nx σ' H'') : tWhile tt ts D σ H := by
  refine ⟨fun m σ' H' => ∃ F', Same F0 F' ∧ Same F' H' ∧ M m σ' F' H', ⟨m0, F, f0, z, h0⟩, ?_⟩
  rintro m σ' H' ⟨F', f, z', hm⟩
  refine ht m σ' F' H' f z' hm F' H' (Same.refl _) (Same.refl _) z' _ fun F'' H'' g => ?_
  cases hb : bb m σ' F' H' with
  | false => exact hd m σ' F' H' F'' H'' f z' hm hb g
  | true =>
    refine ⟨fun σ3 H3 => ∃ m2 F3, m2 < m ∧ Same F0 F3 ∧ Same F3 H3 ∧ M m2 σ3 F3 H3, fun σ3 H3 ⟨m2, F3, a, b, c, e⟩ => ⟨m2, a, F3, b, c, e⟩, ?_⟩
    exact hs m σ' F' H' F'' H'' _ f z' hm hb g fun m2 σ3 F3 H3 a b c e => ⟨m2, F3, a, b, c, e⟩
/-! ### dicts with tuple keys -/
/-- a tuple of ints and texts, to be a key -/
def IsKey (k : List Key) : V → Hp → Hp → Prop := fun v _ H => ∃ b, v = .ref b ∧ H b = some (.tup (k.map kV))
theorem IsKey.up {k : List Key} {v : V} {F1 H1 F2 H2 : Hp} (h : IsKey k v F1 H1) (g : Gr F1 H1 F2 H2) : IsKey k v F2 H2 := let ⟨b, e, x⟩ := h; ⟨b, e, g.h _ _ x⟩
abbrev kII (i j : Int) : List Key := [.inl i, .inl j]
theorem evp_key2 (ha : EvD K ta σ F H (.int i)) (hb : EvD K tb σ F H (.int j)) : EvP (tTup (tCons ta (tCons tb tNil))) σ F H (IsKey (kII i j)) :=
  fun F1 H1 x y z Q q => eva_cons ha (eva_one hb) F1 H1 x y z _ fun vs F2 H2 g2 p2 => by
    obtain ⟨v, w, rfl, h1, h2⟩ := DpAll.two_inv p2
    obtain rfl := h1.int_inv
    obtain rfl := h2.int_inv
    exact ⟨show 2 ≤ sizeLine by decide, fun p hp => q _ F2 _ (g2.trans (.own g2.fh hp)) ⟨p, rfl, upd_same⟩⟩
theorem put_keys {m : List (List Key × V)} (k : List Key) (v : V) (h : (m.map (·.1)).Nodup) : ((putK m k v).map (·.1)).Nodup := by
  cases e : valV m k with
  | none => exact nd_putK v h e
  | some u =>
    unfold putK
    rw [if_pos (by rw [valV_any, e]; rfl), List.map_map]
    have q : m.map ((fun x => x.1) ∘ fun kv => if kv.1 = k then (kv.1, v) else kv) = m.map (·.1) := List.map_congr_left fun x _ => by
      show (if x.1 = k then (x.1, v) else x).1 = x.1
      by_cases z : x.1 = k
      · rw [if_pos z]
      · rw [if_neg z]
    rw [q]
    exact h
theorem drop_keys {m : List (List Key × V)} (k : List Key) (h : (m.map (·.1)).Nodup) : ((dropK m k).map (·.1)).Nodup := h.sublist (List.Sublist.map _ (List.filter_sublist))
structure ODict (H0 F H : Hp) (p : Addr) (B : Nat) (g : List Key → Option V) : Prop where
  nw : H0 p = none
  out : F p = none
  at_ : ∃ m, H p = some (.dT m) ∧ (m.length ≤ B ∧ (m.map (·.1)).Nodup) ∧ ∀ k, valV m k = g k
variable {B : Nat} {g : List Key → Option V}
theorem ODict.up (h : ODict H0 F H p B g) (gr : Gr F H F' H') : ODict H0 F' H' p B g :=
  ⟨h.nw, let ⟨_, a, _⟩ := h.at_; gr.out a h.out, let ⟨m, a, b⟩ := h.at_; ⟨m, gr.h _ _ a, b⟩⟩
theorem ODict.other (h : ODict H0 F H p B g) (ne : p ≠ q) : ODict H0 F (upd H q o) p B g :=
  ⟨h.nw, h.out, let ⟨m, a, b⟩ := h.at_; ⟨m, by rw [upd_ne ne]; exact a, b⟩⟩
def NewD (H0 : Hp) (B : Nat) (g : List Key → Option V) : V → Hp → Hp → Prop := fun v F H => ∃ p, v = .ref p ∧ ODict H0 F H p B g
/-- what n stores give, the later over the earlier -/
def dfun (n : Nat) (p : Nat → Bool) (k : Nat → List Key) (f : Nat → V) : List Key → Option V := match n with
  | 0 => fun _ => none
  | n + 1 => fun j => if p n = true ∧ j = k n then some (f n) else dfun n p k f j
theorem evp_dcT {wi : TI} {tg : TG} {tk : TE} {vs : List Nat} {item : Nat → PyData} {P : Nat → St → Hp → Prop} (p : Nat → Bool) (k : Nat → List Key) (f : Nat → V) (hi : IwD K wi σ F H n item) (hn : n ≤ 50000)
    (hg : ∀ i F1 H1, i < n → Same F F1 → Same H H1 → TgD K tg (wipe σ vs) F1 H1 (item i) (P i)) (hw : ∀ i σ2 F1, P i σ2 F1 → wipe σ2 vs = wipe σ vs)
    (ht : ∀ i σ2 F1 H1, i < n → Same F F1 → Same H H1 → Same F1 H1 → P i σ2 F1 → EvT tt σ2 F1 H1 (p i))
    (hk : ∀ i σ2 F1 H1, i < n → p i = true → Same F F1 → Same H H1 → Same F1 H1 → P i σ2 F1 → EvP tk σ2 F1 H1 (IsKey (k i)))
    (he : ∀ i σ2 F1 H1, i < n → p i = true → Same F F1 → Same H H1 → Same F1 H1 → P i σ2 F1 → EvV te σ2 F1 H1 (f i)) : EvP (Ex2.tDcT wi tg tt tk te vs) σ F H (NewD H n (dfun n p k f)) :=
  fun F1 H1 x y z Q q => hi F1 H1 x y z _ fun J F2 H2 g2 go stop yld D hD => by
    refine ⟨fun i m Hc => m = n - i ∧ i ≤ n ∧ ∃ Fc kvs, Gr F2 H2 Fc Hc ∧ Fc D = none ∧ Hc D = some (.dT kvs) ∧ (kvs.length ≤ i ∧ (kvs.map (·.1)).Nodup) ∧ ∀ j, valV kvs j = dfun i p k f j, ⟨n, rfl, Nat.zero_le _, F2, [], .own g2.fh hD, g2.fh.free hD, upd_same, ⟨Nat.le_refl _, List.nodup_nil⟩, fun _ => rfl⟩, ?_⟩
    rintro i m Hc ⟨rfl, hin, Fc, kvs, gc, nD, eD, hz, hx⟩
    have hz1 := hz.1
    by_cases hlt : i < n
    · refine .inr ⟨go i Fc Hc gc.f gc.fh hlt, fun H' => i + 1 ≤ n ∧ ∃ Fc kvs, Gr F2 H2 Fc H' ∧ Fc D = none ∧ H' D = some (.dT kvs) ∧ (kvs.length ≤ i + 1 ∧ (kvs.map (·.1)).Nodup) ∧ ∀ j, valV kvs j = dfun (i + 1) p k f j, fun H' h => ⟨n - (i + 1), by omega, rfl, h.1, h.2⟩, fun u H' hy => ?_⟩
      obtain ⟨F3, g3, hu⟩ := yld i Fc Hc u H' gc.f gc.fh hlt hy
      have s3 : Same F F3 := (x.trans g2.f).trans (gc.f.trans g3.f)
      have t3 : Same H H' := (y.trans g2.h).trans (gc.h.trans g3.h)
      refine hg i F3 H' hlt s3 t3 F3 H' u (Same.refl _) (Same.refl _) g3.fh hu _ fun σ2 hP => ⟨hw i σ2 F3 hP, ?_⟩
      refine ht i σ2 F3 H' hlt s3 t3 g3.fh hP F3 H' (Same.refl _) (Same.refl _) g3.fh _ fun F4 H4 g4 => ?_
      have e4 : H4 D = some (.dT kvs) := g4.h _ _ (g3.h _ _ eD)
      have n4 : F4 D = none := (g3.trans g4).out eD nD
      cases hp : p i with
      | true =>
        refine hk i σ2 F3 H' hlt hp s3 t3 g3.fh hP F4 H4 g4.f g4.h g4.fh _ fun kv F5 H5 g5 ⟨kb, ek, hkb⟩ => ?_
        refine he i σ2 F3 H' hlt hp s3 t3 g3.fh hP F5 H5 (g4.f.trans g5.f) (g4.h.trans g5.h) g5.fh _ fun w F6 H6 g6 hw6 => ?_
        have e6 : H6 D = some (.dT kvs) := g6.h _ _ (g5.h _ _ e4)
        have n6 : F6 D = none := (g5.trans g6).out e4 n4
        refine ⟨kvs, k i, kb, ek, g6.h _ _ hkb, e6, Nat.lt_of_le_of_lt (show kvs.length ≤ 50000 by omega) (by decide), hlt, F6, putK kvs (k i) w, ?_, n6, upd_same, ?_, fun j => ?_⟩
        · have G := (((gc.trans g3).trans g4).trans g5).trans g6
          have hfd : H2 D = none := hD
          exact ⟨G.f, fun b o hb => by rw [upd_ne (ne_of_none hb hfd)]; exact G.h _ _ hb, same_mut G.fh n6, G.nw⟩
        · have := length_putK kvs (k i) w
          exact ⟨by omega, put_keys _ _ hz.2⟩
        · rw [valV_put, hx, hw6]
          simp only [dfun, hp, true_and]
      | false =>
        refine ⟨hlt, F4, kvs, (gc.trans g3).trans g4, n4, e4, ⟨by omega, hz.2⟩, fun j => ?_⟩
        rw [hx]
        simp [dfun, hp]
    · have e : i = n := by omega
      subst e
      exact .inl ⟨stop Fc Hc gc.f gc.fh, q _ Fc Hc (g2.trans gc) ⟨D, rfl, y.free (g2.h.free hD), nD, kvs, eD, hz, hx⟩⟩
/-- d.get(k, x) -/
theorem evd_dget {k : List Key} {x : PyData} (h : ODict H0 F H p B g) (ha : EvV ta σ F H (.ref p)) (hk : EvP tb σ F H (IsKey k)) (hx : EvV tx σ F H v) : EvV (tDGet2 ta tb tx) σ F H ((g k).getD v) := by
  obtain ⟨m, a, _, hg⟩ := h.at_
  refine fun F1 H1 x y z Q q => ha F1 H1 x y z _ fun u F2 H2 g2 e => ?_
  subst e
  refine ⟨p, rfl, .inr ⟨m, .inl ((y.trans g2.h) _ _ a)⟩, ?_⟩
  refine hk F2 H2 (x.trans g2.f) (y.trans g2.h) g2.fh _ fun kv F3 H3 g3 ⟨kb, ek, hkb⟩ => ?_
  refine hx F3 H3 ((x.trans g2.f).trans g3.f) ((y.trans g2.h).trans g3.h) g3.fh _ fun w F4 H4 g4 e => ?_
  subst e ek
  refine ⟨g k, ?_, q _ F4 H4 ((g2.trans g3).trans g4) rfl⟩
  rw [← hg k]
  exact DGet.t (((y.trans g2.h).trans (g3.h.trans g4.h)) _ _ a) (g4.h _ _ hkb)
/-- d[k] = e -/
theorem st_dput {k : List Key} (h : ODict H0 F H p B g) (z : Same F H) (he : EvV te σ F H v) (hn : σ[n]? = some (some (.ref p))) (hk : EvP tb σ F H (IsKey k)) (hl : B ≤ 50000)
    (kk : ∀ o F1 H1, Gr F H F1 H1 → ODict H0 F1 (upd H1 p o) p (B + 1) (fun j => if j = k then some v else g j) → D.nx σ (upd H1 p o)) : sDPut (tVar n) tb te D σ H := by
  obtain ⟨m, a, hm, hg⟩ := h.at_
  refine he F H (Same.refl _) (Same.refl _) z _ fun w F1 H1 g1 e => ?_
  subst e
  refine ⟨.ref p, hn, ?_⟩
  refine hk F1 H1 g1.f g1.h g1.fh _ fun kv F2 H2 g2 ⟨kb, ek, hkb⟩ => ?_
  subst ek
  have gg := g1.trans g2
  refine ⟨p, _, rfl, DPut.t (gg.h _ _ a) hkb (Nat.lt_of_le_of_lt (show m.length ≤ 50000 from Nat.le_trans hm.1 hl) (by decide)), kk _ F2 H2 gg ⟨h.nw, (h.up gg).out, _, upd_same, ?_, fun j => ?_⟩⟩
  · have := length_putK m k w
    exact ⟨by omega, put_keys _ _ hm.2⟩
  · rw [valV_put, hg]
theorem valV_dropK (m : List (List Key × V)) (k j : List Key) : valV (dropK m k) j = if j = k then none else valV m j := by
  induction m with
  | nil => simp [dropK, valV]
  | cons p r ih =>
    unfold dropK at ih ⊢
    by_cases e : p.1 = k
    · rw [List.filter_cons_of_neg (by simp [e]), ih]
      by_cases hj : j = k
      · simp [hj]
      · rw [if_neg hj, if_neg hj, valV_neg (by rw [e]; exact Ne.symm hj)]
    · rw [List.filter_cons_of_pos (by simp [e])]
      by_cases h : p.1 = j
      · rw [valV_pos h, valV_pos h, if_neg (by rw [← h]; exact e)]
      · rw [valV_neg h, valV_neg h, ih]
/-- m = d.pop(k) -/
theorem st_dpop {k : List Key} {m : Nat} {ks : List PyData} (h : ODict H0 F H p B g) (z : Same F H) (hn : σ[n]? = some (some (.ref p))) (hk : EvD K tb σ F H (.tuple [.int i, .int j])) (hg : g (kII i j) = some v)
    (kk : ∀ o F1 H1, Gr F H F1 H1 → ODict H0 F1 (upd H1 p o) p B (fun l => if l = kII i j then none else g l) → D.nx (σ.set m (some v)) (upd H1 p o)) : tAsg (Ex2.tPopK K (tVar n) tb) (gName m) D σ H := by
  obtain ⟨l, a, hm, hgl⟩ := h.at_
  refine ⟨.ref p, hn, p, rfl, .inr ⟨l, .inl a⟩, ?_⟩
  refine hk F H (Same.refl _) (Same.refl _) z _ fun kv F1 H1 g1 hkv => ?_
  obtain ⟨kb, xs, rfl, hs, hx⟩ := hkv.tup_inv
  have hx2 : xs = (kII i j).map kV := by
    have q : DpAll K F1 xs ([i, j].map PyData.int) := hx
    rw [q.ints_inv]; rfl
  subst hx2
  refine ⟨l, kII i j, v, kb, g1.h _ _ a, rfl, sqT_mono g1.fh hs, by rw [hgl]; exact hg, kk _ F1 H1 g1 ⟨h.nw, (h.up g1).out, _, upd_same, ⟨Nat.le_trans (dropK_le _ _) hm.1, drop_keys _ hm.2⟩, fun x => ?_⟩⟩
  rw [valV_dropK, hgl]
theorem valV_foldl (more : List (List Key × V)) (hnd : (more.map (·.1)).Nodup) : ∀ (m : List (List Key × V)) (j : List Key), valV (more.foldl (fun m p => putK m p.1 p.2) m) j = match valV more j with
    | some v => some v
    | none => valV m j := by
  induction more with
  | nil => intro m j; rfl
  | cons p r ih =>
    intro m j
    rw [List.map_cons, List.nodup_cons] at hnd
    rw [List.foldl_cons, ih hnd.2]
    by_cases e : p.1 = j
    · have hn : valV r j = none := by
        cases h : valV r j with
        | none => rfl
        | some v =>
          exfalso
          refine hnd.1 ?_
          rw [e]
          exact valV_in h
      rw [hn, valV_pos e, valV_put, if_pos e.symm]
    · rw [valV_neg e, valV_put, if_neg (Ne.symm e)]
/-- d.update(e) -/
theorem st_dupd {B2 : Nat} {g2 : List Key → Option V} (h : ODict H0 F H p B g) (z : Same F H) (hn : σ[n]? = some (some (.ref p))) (he : EvP te σ F H (NewD H B2 g2)) (h0 : ∃ k, (g k).isSome = true) (hl : B + B2 ≤ 50000)
    (kk : ∀ o F1 H1, Gr F H F1 H1 → ODict H0 F1 (upd H1 p o) p (B + B2) (fun j => match g2 j with | some v => some v | none => g j) → D.nx σ (upd H1 p o)) : tDrop (Ex2.tUpdT (tVar n) te) D σ H := by
  obtain ⟨m, a, hm, hg⟩ := h.at_
  refine ⟨.ref p, hn, p, rfl, .inr ⟨m, .inl a⟩, ?_⟩
  refine he F H (Same.refl _) (Same.refl _) z _ fun w F1 H1 g1 ⟨b, e, hd⟩ => ?_
  subst e
  obtain ⟨m2, a2, hm2, hg2⟩ := hd.at_
  have ne : p ≠ b := fun e => by rw [e] at a; rw [hd.nw] at a; cases a
  have h0' : m ≠ [] := fun e => by
    obtain ⟨k, hk⟩ := h0
    rw [← hg k, e] at hk
    cases hk
  refine ⟨b, m, m2, rfl, ne, g1.h _ _ a, a2, h0', Nat.le_trans (show m.length + m2.length ≤ 50000 by omega) (by decide), kk _ F1 H1 g1 ⟨h.nw, (h.up g1).out, _, upd_same, ⟨?_, ?_⟩, fun j => ?_⟩⟩
  · have := Ex2.foldl_putK_len m2 m
    omega
  · have all : ∀ (l : List (List Key × V)) (m : List (List Key × V)), (m.map (·.1)).Nodup → ((l.foldl (fun m p => putK m p.1 p.2) m).map (·.1)).Nodup := by
      intro l
      induction l with
      | nil => exact fun m h => h
      | cons p r ih => exact fun m h => ih _ (put_keys _ _ h)
    exact all m2 m hm.2
  · rw [valV_foldl m2 hm2.2, hg2, hg]
end
end Dv
set_option maxRecDepth 100000
set_option maxHeartbeats 4000000
/-! Ext3: an own exception over an own base whose __init__ says super().__init__(text), then keeps one field. -/
namespace Sg
def topS (i : Nat) : PySem.Stmt := PySem.Challenge.pw_signrounds_k78_whole_drawn_together.main.body.getD i (.Pass ⟨0, 0, 0, 0⟩)
end Sg
namespace Ex3
open PySem PySem.W PySem.Calls PyProof.Rows PySem.HandSPX
/-- the body of such an __init__, as it stands in the text -/
abbrev nbBody : List Stmt := L2.defBody (L2.inClass (Sg.topS 6) 0)
abbrev nbScope : Scope := { kind := .function, names := [("self", .local), ("ring", .local), ("__class__", .free), ("super", .globalImplicit)], isGenerator := false, isCoroutine := false, more := [] }
section
variable {prog : Program} {w : World} {A : Around} {E : Value → Shared → Prop} {h : Heap} {g : Array GenState} {d : Drawn} {t : Nat} {os : OsState}
variable {nm q : Str} {C N : Addr} {bs bm : List Value} {hdct : Bool} {sn : List Str} {sub : List Value} {ab : Bool} {col : Option Bool} {dd : Option Addr} {k0 k1 k2 k3 k5 : Option Value}
theorem call_mw {u e t0 : Addr} {rest : List Value} {Q : Value → Shared → Prop}
    (hC : h.get? C = some (excClassObj nm q C N bs bm hdct sn sub ab col dd k0 k1 k2 k3 k5 "ValueError.__new__")) (he : h.get? e = some (HandSPX.excO C t0)) (hu : h.get? u = some (kxs_mw "ValueError.__init__" e)) (hrest : rest.length ≤ sizeLine)
    (hq : ∀ h' t1, (∀ b o, b ≠ e → h.get? b = some o → h'.get? b = some o) → h'.get? e = some (HandSPX.excO C t1) → Q .none ⟨h', g, d, t, os⟩) :
    wpAny (model prog w) A (call (.ref u) rest) Q E ⟨h, g, d, t, os⟩ := by
  refine wpAny_call (codeAny_of_tree ?_)
  show wpAny _ A.in1 (callAny (.ref u) ⟨rest, []⟩) _ _ _
  simp only [callAny]
  refine wpAny_bind (wpAny_load hu ?_)
  simp only [kxs_mw, show (Value.type "method-wrapper" == Value.type "method" || Value.type "method-wrapper" == Value.type "builtin_function_or_method" || Value.type "method-wrapper" == Value.type "method-wrapper") = true by decide, if_true]
  refine KFB.if_so (by decide) ?_
  refine wpAny_bind (check_bound_init F.excBase_ValueError.toExcCallFacts hC he rfl ?_)
  refine wpAny_bind (wpAny_pure (wpAny_pure ?_))
  refine ⟨plainId_quiet F.excBase_ValueError.init.plain _, codeAny_builtin F.excBase_ValueError.initEntry ?_⟩
  rw [Around.under_plainId F.excBase_ValueError.init.plain _]
  wp_walk
  refine hq _ h.objs.size (fun b o hb ho => ?_) ?_
  · rw [Heap.get?_update_other _ _ (Ne.symm hb)]
    exact Heap.get?_push_of_some _ ho
  · rw [Heap.get?_update_self _ (Heap.get?_push_of_some _ he) rfl]
    rfl
end
/-- what the written part says of such a class -/
structure NbC (K : Frag) (prog : Program) (C fI : Addr) (fd : FuncData) : Prop where
  cls : L2.OexC K C
  iC : findIn K (.ref C) "__init__" = some (some (.ref fI))
  tI : typeIn K (.ref fI) = some (.type "function")
  fn : ∃ (qual : Str) (params : Arguments) (a1 a2 : Arg) (dV kV doc pm ct oc : Value) (an od : Option Addr) (osl : Array (Option Value)) (cda cc : Addr),
    fd = ksFn "__init__" qual params nbBody nbScope dV kV doc pm an (.ref cda) ct cc ∧
    K.lookup fI = some ⟨oc, od, .func fd, osl⟩ ∧ codeIn K (.ref cda) qual = true ∧ params.posonlyargs ++ params.args = [a1, a2] ∧ a1.arg = "self" ∧
    (∃ ccl cdd vs ccs file tf, K.lookup cda = some ⟨ccl, cdd, .fields vs, ccs⟩ ∧ vs[2]? = some (.str file tf) ∧ ((prog.main.file : Str) == file) = true) ∧ ∃ cl cld csl, K.lookup cc = some ⟨cl, cld, .cell (some (.ref C)), csl⟩
  bind : L2.Binds K fd ["self", "ring"] []
  self : mroIn K C (.ref C) = some true
  sup : ks_superIn K C C "__init__" = some (some (.builtin "ValueError.__init__"))
  isV : subIn K (.ref C) (.type "ValueError") = some true
  opq : nsIn K cStatics "thirdparty.any" = some none
  noF : findIn K (.ref C) "ring" = some none
  top : (prog.main.scope.names.lookup ("super" : Str)).isSome = false
theorem bt_super : bootBuiltins "super" = some (.type "super") := by first | boot_by_name | decide +kernel
theorem nb_init {prog : Program} {w : World} {K : Frag} {C fI : Addr} {fd : FuncData} {mg : Str → Option Value} {base : Heap} {A : Around} {R : Result → Shared → Prop} {h : Heap} {g : Array GenState} {d : Drawn} {t : Nat} {os : OsState} {x t0 : Addr} {u : Value}
    (N : NbC K prog C fI fd) (M : L2.Mod K mg base) (kb : ∀ b o, base.get? b = some o → h.get? b = some o) (hsup : mg "super" = none) (hx : h.get? x = some (excO C t0)) (hbx : base.get? x = none) (hroom : A.depth < recursionLimit)
    (hq : ∀ h' tk' dx t1, (∀ b o, b ≠ x → h.get? b = some o → h'.get? b = some o) → h.objs.size ≤ dx → h'.get? x = some { cls := .ref C, dict := some dx, data := .fields #[.ref t1, .none, .none, .none, .bool false, .none] } →
      h'.Ns1 dx (fun y => if y = "ring" then some u else none) → R (.ok (.ret .none)) ⟨h', g, d, tk', os⟩) :
    codeAny (model prog w) A (.call (.ref fI) ⟨[.ref x, u], []⟩) R ⟨h, g, d, t, os⟩ := by
  obtain ⟨qual, params, a1, a2, dV, kV, doc, pm, ct, oc, an, od, osl, cda, cc, rfl, lk, hcd, hpar, ha1, ⟨ccl, cdd, vs, ccs, file, tf, hcda, hvs, hfile⟩, cl, cld, csl, hcell⟩ := N.fn
  obtain ⟨nm, q, N', bs, bm, sn, sub, ab, col, dd, k0, k1, k2, k3, k5, hC, hbm⟩ := N.cls.cls
  have X : K.In h := M.kin.keeps kb
  have hcl : clsIn K C = some { name := nm, bases := bs, mro := .ref C :: bm, ns := N', qualname := q, hasDict := true, slotNames := sn, subclasses := sub, abstract := ab, collection := col, hasDel := false } := by unfold clsIn; rw [hC] <;> rfl
  have hbnd := N.bind ⟨h, g, d, t, os⟩ [.ref x, u] X rfl
  refine ks_codeAny_call_defAt (fd := ksFn "__init__" qual params nbBody nbScope dV kV doc pm an (.ref cda) ct cc) (body := nbBody) (binds := [("self", .ref x), ("ring", u)])
    hroom (X _ _ lk) rfl (M.nolimit.keeps kb) (codeRec_of X hcd) rfl hbnd ?_ ?_ (fun h1 hns hk1 => ?_)
  · exact fun y hy => by
      simp only [nbScope, List.mem_cons, List.not_mem_nil, or_false] at hy
      rcases hy with e | e | e | e <;> subst e <;> exact fun z => by cases z
  · intro y hy
    have hy' : y = (("self" : Str), Value.ref x) ∨ y = (("ring" : Str), u) := by simpa using hy
    rcases hy' with e | e <;> subst e <;> rfl
  · have hk : (callEnv (ksFn "__init__" qual params nbBody nbScope dV kV doc pm an (.ref cda) ct cc) h.objs.size fI) = ksEnv qual nbScope h.objs.size fI (.ref cda) cc := rfl
    rw [hk]
    have X1 : K.In h1 := X.keeps hk1
    have hx1 : h1.get? x = some (excO C t0) := hk1 _ _ hx
    have lS : (fun y => [(("self" : Str), Value.ref x), ("ring", u)].reverse.lookup y) ("self" : Str) = some (.ref x) := rfl
    have lF : (fun y => [(("self" : Str), Value.ref x), ("ring", u)].reverse.lookup y) ("ring" : Str) = some u := rfl
    have hns1 : h1.Ns h.objs.size (fun y => [(("self" : Str), Value.ref x), ("ring", u)].reverse.lookup y) := hns
    obtain ⟨mb, hb1, hb2⟩ := M.blt
    have xL : x ≠ h.objs.size := Nat.ne_of_lt (Heap.lt_size hx)
    have xC : x ≠ C := ks_ne X (⟨hx, rfl, rfl, trivial⟩ : InstAt h x (excO C t0) C none) hcl
    show PySem.wpAt _ _ _ (execs (_ :: _ :: []) _) _ _ _
    refine ks_wpAt_execs_cons (ks_wpAt_Expr_any (ks_wpAt_MethodCall ?_))
    refine ks_wpAt_super_base (env := ksEnv qual nbScope h.objs.size fI (.ref cda) cc) rfl rfl rfl rfl (X1 _ _ lk) rfl (ar := a1) (by show (params.posonlyargs ++ params.args).head? = _; rw [hpar]; rfl) rfl (X1 _ _ hcda) rfl hvs hfile N.top ?_
    refine ks_loadName_global rfl rfl (loadGlobal_builtin (env := ksEnv qual nbScope h.objs.size fI (.ref cda) cc) ((M.glob.keeps kb).keeps hk1) hsup ((hb1.keeps kb).keeps hk1) ((hb2 _ (by decide)).trans bt_super) ⟨rfl, ?_⟩)
    refine wpAny_loadName_free rfl rfl rfl ⟨_, X1 _ _ hcell, rfl⟩ ?_
    rw [ha1]
    refine wpAny_loadName_local rfl rfl hns1 lS ?_
    refine ks_wpAny_isType_cls (X1 _ _ hC) rfl ⟨rfl, ?_⟩
    refine ks_wpAny_call_super (X1 _ _ hC) rfl hx1 rfl (fun c e => by cases e) (looks_mroIn X1 N.self) fun h2 hso hk2 => ?_
    have X2 : K.In h2 := X1.keeps hk2
    have hx2 : h2.get? x = some (excO C t0) := hk2 _ _ hx1
    have I2 : InstAt h2 x (excO C t0) C none := ⟨hx2, rfl, rfl, trivial⟩
    have hsup' : alongIn K "__init__" (((.ref C :: bm).dropWhile (· != .ref C)).drop 1) = some (some (.builtin "ValueError.__init__")) := by
      have z := N.sup
      unfold ks_superIn at z
      rw [hcl] at z
      exact z
    refine kxs_getMethod kxs_ValueError hso (looks_opaque X2 N.opq) (l₀ := .ref C :: bm) (fun A Q E s k q => wpAny_bind ((looks_clsIn X2 hcl) A _ E s k (wpAny_pure q))) rfl X2 hsup' (I2.type.andThen (looks_subIn X2 N.isV)) xC rfl ?_
    refine kxs_callWith (i := "ValueError.__init__") (x := x) rfl (evalArgs_plain (spliced_cons ?_))
    refine Constant_str (k := 0) (pos := ⟨0, 0, 0, 0⟩) (spliced_nil ⟨?_, ?_⟩)
    · exact Heap.get?_push_size _ rfl
    have hx3 : (h2.push (kxs_mw "ValueError.__init__" x)).get? x = some (excO C t0) := Heap.get?_push_of_some _ hx2
    have hC3 := X2.keeps (h' := h2.push (kxs_mw "ValueError.__init__" x)) (fun b o e => Heap.get?_push_of_some _ e) _ _ hC
    refine call_mw hC3 hx3 (Heap.get?_push_size _ rfl) (by show 1 ≤ sizeLine; decide) fun h4 t1 hk4 hx4 => ?_
    have k14 : ∀ b o, b ≠ x → h1.get? b = some o → h4.get? b = some o := fun b o hb e => hk4 b o hb (Heap.get?_push_of_some _ (hk2 b o e))
    have hns4 : h4.Ns h.objs.size (fun y => [(("self" : Str), Value.ref x), ("ring", u)].reverse.lookup y) := hns1.at fun o e => k14 _ _ (Ne.symm xL) e
    have X4 : K.In h4 := fun b o e => by
      by_cases hb : b = x
      · have z := M.kin b o e
        rw [hb, hbx] at z
        cases z
      · exact k14 b o hb (X1 b o e)
    refine wpAt_of_wpAny (wpAny_execs_cons (plainObj_wpAny_Assign_Attribute ?_))
    have hx4' : InstAt h4 x (excO C t1) C none := ⟨hx4, rfl, rfl, trivial⟩
    refine wpAny_Name (wpAny_loadName_local rfl rfl hns4 lF ?_) (by decide)
    refine wpAny_Name (wpAny_loadName_local rfl rfl hns4 lS ?_) (by decide)
    refine set_plain X4 hx4' N.cls.sa ?_
    refine exc_osa X4 hx4 hcl (show refsVE (.ref C :: bm) = true from hbm) rfl N.noF (fun h' tk' dx k dn dne hx' hn' => ?_)
    refine wpAny_execs_nil ?_
    have z4 : h.objs.size < h4.objs.size := by
      obtain ⟨oL, _, _, hL, _⟩ := hns4
      exact Heap.lt_size hL
    exact hq _ _ dx t1 (fun b o hb e => k b o hb (k14 b o hb (hk1 b o e))) (Nat.le_trans (Nat.le_of_lt z4) dn) hx' hn'
/-! ### NotBalanced(e) -/
open L2 in
def tMkNb (C : Addr) (te : L2.TE) : L2.St → L2.Hp → L2.XK → Prop := fun σ H Q => te σ H fun v H1 => ∀ dx, H1 dx = none → Q (.ref C) (some dx) (L2.upd H1 dx (.xd [("ring", v)]))
section
open L2 hiding Inv RelV St
variable {X : L2.Cx} {C fI : Addr} {fd : FuncData}
theorem pmk_nb {x : Str} {k : Nat} {e : Expr} {te : TE} {p pos : Pos} (T : NbC X.K X.prog C fI fd) (hsup : X.mg "super" = none) (hr : Room (k + 1) X.A) (hg : Gl X x) (hm : X.mg x = some (.ref C)) (he : PE X e te)
    (hdb : (x == ("__debug__" : Str)) = false := by decide) (hs : starEach [e] X.env = (false, eval e X.env) :: starEach [] X.env := by rfl) :
    PMk X (.Call (.Name x p) [e] [] pos) (tMkNb C te) := by
  intro pins s σ H Q I h
  obtain ⟨nm, q, N, bs, bm, sn, sub, ab, col, dd, k0, k1, k2, k3, k5, hC, hbm⟩ := T.cls.cls
  refine wpAny_Call_Name_kw (ld_glob I hg hm ?_ hdb)
  refine PySem.W.callWith_K (h₀ := X.base) I.ok.mod.kin T.cls.kC ?_ hs (by rfl)
  rw [hs]
  show wpAny _ _ (spliced ((false, eval e X.env) :: backTo pos (starEach [] X.env))) _ _ s
  refine Calls.spliced_cons (thn (he.run pins s σ H _ I h) fun u s1 ⟨v, H1, I1, r1, q1⟩ => ?_)
  refine Calls.spliced_nil ⟨I1.kIn, ?_⟩
  show wpAny _ _ (call (.ref C) [u]) _ _ _
  obtain ⟨hp, g, dr, tk, os⟩ := s1
  have hsz : hp.objs.size ≤ hp.objs.size + 1 := Nat.le_succ _
  have hn : H1 (hp.objs.size + 1) = none := I1.hok.fresh hsz
  have kk : ∀ b o, hp.get? b = some o → ((hp.push (PySem.W.kdv_tup [u])).push (PySem.HandSPX.excO C hp.objs.size)).get? b = some o := fun b o e => Heap.get?_push_of_some _ (Heap.get?_push_of_some _ e)
  have hget : ((hp.push (PySem.W.kdv_tup [u])).push (PySem.HandSPX.excO C hp.objs.size)).get? (hp.objs.size + 1) = some (PySem.HandSPX.excO C hp.objs.size) := by heap_get
  have I2 : L2.Inv X pins σ (upd H1 (hp.objs.size + 1) (exo (hp.objs.size + 1) C none)) ⟨(hp.push (PySem.W.kdv_tup [u])).push (PySem.HandSPX.excO C hp.objs.size), g, dr, tk, os⟩ :=
    I1.laid (t' := tk) (a := hp.objs.size + 1) (o := exo (hp.objs.size + 1) C none) (h' := (hp.push (PySem.W.kdv_tup [u])).push (PySem.HandSPX.excO C hp.objs.size)) kk hsz (exo_ok hget)
  refine wpAny_call (PySem.HandSPX.call_own F.excBase_ValueError (fun Y => PySem.HandSPX.refsVE_contains Y bm hbm) (I1.kIn _ _ hC) (PySem.W.looks_findIn I1.kIn T.iC) (fun self => PySem.W.bind_fn I1.kIn self T.tI) (by show 1 ≤ sizeLine; decide)
    (nb_init (x := hp.objs.size + 1) (t0 := hp.objs.size) (u := u) T I1.ok.mod (fun b o e => kk b o (I1.bk b o e)) hsup hget ?_ ?_ fun h' tk' dx t1 k dn hx' hn' => ?_))
  · cases z : X.base.get? (hp.objs.size + 1) with
    | none => rfl
    | some o => exact absurd (Heap.lt_size (I1.bk _ _ z)) (by show ¬ hp.objs.size + 1 < hp.objs.size; omega)
  · exact (hr.make C [u] []).depth
  · generalize hp2e : (hp.push (PySem.W.kdv_tup [u])).push (PySem.HandSPX.excO C hp.objs.size) = hp2 at kk hget I2 k dn
    generalize ae : hp.objs.size + 1 = a at hsz hn hget I2 k hx'
    have e : (upd H1 a (exo a C none)) a = some (exo a C none) := upd_same
    have hnd : (upd H1 a (exo a C none)) dx = none := I2.hok.fresh dn
    have hda : dx ≠ a := fun z => by rw [z, e] at hnd; cases hnd
    have hd1 : H1 dx = none := by rw [upd_ne hda] at hnd; exact hnd
    have nd : ∀ {b : Addr} {o : Obj}, hp2.get? b = some o → b ≠ dx := fun {b o} q => Nat.ne_of_lt (Nat.lt_of_lt_of_le (Heap.lt_size q) dn)
    have na : ∀ {b : Addr}, (upd H1 a (exo a C none)) b = none → b ≠ a := fun {b} n z => by
      rw [z, e] at n
      cases n
    have Un1 : ∀ fs, L2.Un fs [] (upd H1 a (exo a C none)) (upd (upd (upd H1 a (exo a C none)) dx (exd dx [("ring", v)])) a (exo a C (some dx))) hp2 h' := fun fs => {
      keep := fun b o q n _ _ => k b o (na n) q
      slot := fun b o q n _ _ => ⟨o.slots, k b o (na n) q⟩
      free := fun b o q n _ => by rw [upd_ne (na n), upd_ne (nd q)]; exact n
      there := fun b o q _ => by
        by_cases hb : b = a
        · exact ⟨_, by rw [hb]; exact hx'⟩
        · exact ⟨o, k b o hb q⟩
      tups := fun b xs q => by rw [upd_ne (at_ne e q exo_tup), upd_ne (ne_of_none q hnd)]; exact q
      frzs := fun b o v q => by rw [upd_ne (at_ne e q exo_frz), upd_ne (ne_of_none q hnd)]; exact q
      tbls := fun b ps q => ⟨#[], by rw [upd_ne (at_ne e q exo_tbl), upd_ne (ne_of_none q hnd), q]; simp⟩ }
    have hok : HOk X.prog X.w (upd (upd (upd H1 a (exo a C none)) dx (exd dx [("ring", v)])) a (exo a C (some dx))) h' := fun b o q => by
      by_cases hb : b = a
      · subst hb
        rw [upd_same] at q
        cases q
        exact exo_ok hx'
      · rw [upd_ne hb] at q
        by_cases hd : b = dx
        · subst hd
          rw [upd_same] at q
          cases q
          exact exd_ok hn' (relO_put (fs := []) r1 fun g => True.intro)
        · rw [upd_ne hd] at q
          exact (I2.hok b o q).stay (fun c v hc z => k c v (by
              rcases hc with hc | hc
              · rw [hc]
                exact hb
              · exact at_ne e hc exo_own) z)
            (fun c hc => by rw [upd_ne (at_ne e hc exo_own), upd_ne (ne_of_none hc hnd)]; exact hc) (fun c xs hc => by rw [upd_ne (at_ne e hc exo_tup), upd_ne (ne_of_none hc hnd)]; exact hc)
    have eH : ∀ y, (upd (del (upd (upd (upd H1 a (exo a C none)) dx (exd dx [("ring", v)])) a (exo a C (some dx))) a) dx (.xd [("ring", v)])) y = (upd H1 dx (.xd [("ring", v)])) y := fun y => by
      by_cases h1 : y = dx
      · subst h1; rw [upd_same, upd_same]
      · rw [upd_ne h1, upd_ne h1]
        by_cases h2 : y = a
        · subst h2; rw [del_same, hn]
        · rw [del_ne h2, upd_ne h2, upd_ne h1, upd_ne h2]
    refine ⟨rfl, mk_end (d := dx) (fs := [("ring", v)]) (raises_own T.cls.exC T.cls.tyC) I1 hsz kk (Un1 _) hok rfl I1.bare upd_same ?_ hd1 ?_⟩
    · rw [upd_ne hda, upd_same]
    · rw [funext eH]
      exact q1 dx hd1
end
end Ex3
set_option maxRecDepth 100000
set_option maxHeartbeats 4000000
/-! Ext4: an exception caught, and kept behind its clause. -/
namespace Ex4
open PySem PySem.Spec PyProof.Rows
open L2 hiding Inv RelV St
/-- at a: an exception of the class cls, its dict d -/
def excK (a : Addr) (cls : Value) (d : Option Addr) : HO := .ext fun h => ∃ o vs, h.get? a = some o ∧ Zc cls d o ∧ o.data = .fields vs
theorem excK_ok {P : Program} {w : World} {H : Hp} {h : Heap} {a : Addr} {cls : Value} {d : Option Addr} {o : Obj} {vs : Array Value} (e : h.get? a = some o) (z : Zc cls d o) (hd : o.data = .fields vs) : ObjOk P w H h a (excK a cls d) :=
  ⟨⟨o, vs, e, z, hd⟩, ⟨_, e⟩, fun h1 h2 ⟨o, vs, x, y, z⟩ k => ⟨o, vs, k _ x, y, z⟩⟩
theorem excK_at {P : Program} {w : World} {H : Hp} {h : Heap} {a : Addr} {cls : Value} {d : Option Addr} (hok : HOk P w H h) (e : H a = some (excK a cls d)) : ∃ o vs, h.get? a = some o ∧ Zc cls d o ∧ o.data = .fields vs := by
  have x : ObjOk P w H h a (.ext fun h => ∃ o vs, h.get? a = some o ∧ Zc cls d o ∧ o.data = .fields vs) := hok a _ e
  exact x.1
section
variable {X : Cx} {pins : List (Addr × Obj)} {σ : L2.St} {H : Hp} {s : Shared}
theorem keep_exc {a : Addr} {oe : Obj} {vs : Array Value} {cls : Value} {d : Option Addr} (I : L2.Inv X pins σ H s) (ha : s.heap.get? a = some oe) (hd : oe.data = .fields vs) (na : H a = none) (nL : a ≠ X.env.locals) (n0 : X.s_0.heap.get? a = none)
    (npin : ∀ p ∈ X.pn ++ pins, p.1 ≠ a) (hz : Zc cls d oe) : L2.Inv X pins σ (upd H a (excK a cls d)) s := by
  refine ⟨I.ok, I.os, I.bare, ⟨I.base.keep, I.base.slot, fun b o e n hb => ?_, I.base.there, fun b xs q => ?_, fun b o u q => ?_, fun b ps q => ?_⟩, I.loc, I.cell, ?_, fun x c e => ?_, fun p hp => ?_, fun b o q => ?_, I.len⟩
  · rw [upd_ne (fun z => by rw [z, n0] at e; cases e)]
    exact I.base.free b o e n hb
  · have q' := I.base.tups b xs q
    rw [upd_ne (ne_of_none q' na)]
    exact q'
  · have q' := I.base.frzs b o u q
    rw [upd_ne (ne_of_none q' na)]
    exact q'
  · obtain ⟨more, q'⟩ := I.base.tbls b ps q
    exact ⟨more, by rw [upd_ne (ne_of_none q' na)]; exact q'⟩
  · rw [upd_ne (Ne.symm nL)]
    exact I.free
  · rw [upd_ne fun z => ?_]
    · exact I.freeC x c e
    · obtain ⟨v, o, h1, h2⟩ := I.cell x c e
      rw [z, ha] at h1
      cases h1
      rw [hd] at h2
      cases h2
  · obtain ⟨p1, p2, p3⟩ := I.pin p hp
    exact ⟨p1, by rw [upd_ne (npin p hp)]; exact p2, p3⟩
  · by_cases hb : b = a
    · subst hb
      rw [upd_same] at q
      cases q
      exact excK_ok ha hz hd
    · rw [upd_ne hb] at q
      exact (I.hok b o q).stay (fun c v _ z => z) (fun c hc => by rw [upd_ne (ne_of_none hc na)]; exact hc) fun c xs hc => by rw [upd_ne (ne_of_none hc na)]; exact hc
end
/-- what the clause 'except x as n' wishes of an exception of the body, the exception kept behind it -/
def wKeep (K : PySem.W.Frag) (c : Value) (i : Nat) (ts : Addr → Value → Option Addr → TS) (Wout : WX) (D : Ends) : WX := fun cls d σ H =>
  ∃ b, PySem.W.exmOne K cls c = some b ∧ (b = true → ∀ a, H a = none → ts a cls d { nx := fun σ' H' => D.nx (σ'.set i none) (upd H' a (excK a cls d)), rt := fun v H' => D.rt v (upd H' a (excK a cls d)), bk := fun σ' H' => D.bk (σ'.set i none) (upd H' a (excK a cls d)), ct := fun σ' H' => D.ct (σ'.set i none) (upd H' a (excK a cls d)) } (σ.set i (some (.ref a))) H) ∧
    (b = false → Wout cls d σ H)
section
variable {X : Cx} {x n : Str} {c : Value} {i : Nat} {body suite : List Stmt} {b₀ : Stmt} {np pos pos' : Pos} {tb : WX → TS} {ts : Addr → Value → Option Addr → TS} {Wout : WX}
theorem ps_try_keep (hex : X.ex = []) (hs : X.stack = X.env :: X.outer) (hf : X.env.frame = some X.env.locals) (hN : X.N.Nodup) (hi : X.N[i]? = some n) (hln : X.env.kindOf n = some .local) (hc : Names X x c) (tk : Takes X Wout)
    (hb : ∀ (W : WX) (pn : List (Addr × Obj)) (xe : Value → Shared → Prop), Takes (X.tr pn xe) W → PassesOwn (model X.prog X.w) X.A X.env xe → PSs (X.tr pn xe) body (tb W))
    (hsu : ∀ (a : Addr) (oe : Obj) (cls : Value) (d : Option Addr) (pn : List (Addr × Obj)), Zc cls d oe → (∃ vs, oe.data = .fields vs) → PSs (X.suite a ((a, oe) :: pn)) (b₀ :: suite) (ts a cls d)) :
    PS X (.Try body [.ExceptHandler (some (.Name x np)) (some n) (b₀ :: suite) pos'] [] [] pos) (fun D σ H => tb (wKeep X.K c i ts Wout D) D σ H) := by
  refine ⟨fun pins s σ H D I h => ?_⟩
  have ok := I.ok
  have hfr : X.A.frames = some (X.env :: X.outer) := by rw [ok.frames, hs]
  have hloc : Loc X.env.scope n := .inl hln
  refine wpAny_Try_except ?_
  refine wpAny_mono ((hb (wKeep X.K c i ts Wout D) (X.pn ++ pins) (fun e s₁ => wpAny (model X.prog X.w) X.A (noteFrame e X.env) (fun _ s₂ => wpAny (model X.prog X.w) X.A (setFlight e none) (fun _ s₃ =>
    wpAny (model X.prog X.w) X.A (handleBy e X.env [.ExceptHandler (some (.Name x np)) (some n) (b₀ :: suite) pos']) (SP X pins D) X.xe s₃) X.xe s₂) X.xe s₁) (fun u s' xx => ?_) PassesOwn.looking).run [] s σ H D (I.toTry _) h) (fun f s1 hsp => ?_) (fun e s1 he => he)
  · -- the catch
    obtain ⟨a, B, sI, pins', σ', H', cls, d, rfl, J', nb, up, sky, na, os, ag, b, hb1, hyes, hno⟩ := xx
    have J : L2.Inv X pins σ' H' sI := J'.ofTry ok
    have sky' : Sky B (X.env :: X.outer) a (Zc cls d) X.env.locals s'.heap := by rw [← hs]; exact sky
    show wpAny (model X.prog X.w) X.A (noteFrame (.ref a) X.env) _ _ _
    refine Sky.land Zc.steady hfr hf sky' fun h3 fl3 up3 => ?_
    have J3 : L2.Inv X pins σ' H' { s' with heap := h3 } := J.landed nb fl3.1 (up.trans up3) os ag
    obtain ⟨oe3, vs3, he3, hz3, hd3⟩ := fl3.there
    have notFr : ∀ {h : Heap} {o : Obj} {vs : Array Value}, h.FunFrames B (X.env :: X.outer) → h.get? a = some o → o.data = .fields vs → a ∉ frs (X.env :: X.outer) := fun {h o vs} ff e dd hm => by
      obtain ⟨_, o', e', hnf⟩ := ff.mem hm
      rw [e] at e'; cases e'
      exact hnf _ dd
    have nfr := notFr fl3.2.2.1 he3 hd3
    have nL : a ≠ X.env.locals := fun z => nfr (List.mem_filterMap.mpr ⟨X.env, List.mem_cons_self, by rw [hf, z]⟩)
    have nF : a ∉ X.fs := fun hm => by
      obtain ⟨e, he, q⟩ := List.mem_filterMap.mp hm
      exact nfr (List.mem_filterMap.mpr ⟨e, List.mem_cons_of_mem _ he, q⟩)
    have S3 := J3.suite he3 hd3 na nL nF
    have bn : B.get? a = none := by
      rcases sky with ⟨_, hn, _⟩ | fl | hh
      · exact hn
      · exact fl.2.1
      · exact hh.2.1
    have sn : sI.heap.get? a = none := by
      cases z : sI.heap.get? a with
      | none => rfl
      | some o =>
        have y := nb a o z (by rw [hs]; exact nfr)
        rw [bn] at y
        cases y
    have s0n : X.s_0.heap.get? a = none := by
      cases z : X.s_0.heap.get? a with
      | none => rfl
      | some o =>
        obtain ⟨o', y⟩ := J.base.there a o z (by rw [hex]; simp)
        rw [sn] at y
        cases y
    have pnn : ∀ p ∈ X.pn ++ pins, p.1 ≠ a := fun p hp e => by
      have y := (J.pin p hp).1
      rw [e, sn] at y
      cases y
    refine wpAny_handleBy_cons (codeAny_handlers_test ?_) (by intro q; cases q)
    have LT : PySem.W.Looks (model X.prog X.w) h3 (typeOf (.ref a)) cls := fun A Q E s k q => wpAny_typeOf_ref (k _ _ he3) (by rw [hz3.1]; exact q)
    have LM := PySem.W.exm_one (M := model X.prog X.w) (J3.kIn) LT hb1
    have test : ∀ {Q : Value → Shared → Prop} {E : Value → Shared → Prop}, Q c { s' with heap := h3 } → wpAny (model X.prog X.w) (X.A.mark (some (.ref a))) (eval (.Name x np) X.env) Q E { s' with heap := h3 } := fun {Q E} q => by
      obtain ⟨hg, hdbg, hm | ⟨hm, hv, hnn⟩⟩ := hc
      · exact ld_glob (X := X.suite a ((a, oe3) :: (X.pn ++ pins))) S3 hg hm q hdbg
      · exact ld_blt (X := X.suite a ((a, oe3) :: (X.pn ++ pins))) S3 hg hm hv q hnn hdbg
    refine test (LM.here ?_)
    cases b with
    | true =>
      refine codeAny_handlers_suite_as ?_
      refine HandSPX.lands_againZ fl3 fun h4 fl4 up4 => ?_
      have J4 : L2.Inv X pins σ' H' { s' with heap := h4 } := J.landed nb fl4.1 ((up.trans up3).trans up4) os ag
      obtain ⟨oe4, vs4, he4, hz4, hd4⟩ := fl4.there
      have S4 := J4.suite he4 hd4 na nL nF
      refine store_ok (X := X.suite a ((a, oe4) :: (X.pn ++ pins))) (v := .ref a) S4 hN hi hloc rfl (fun s5 S5 => ?_) (.inr hln)
      refine wpAny_mono ((hsu a oe4 cls d (X.pn ++ pins) hz4 ⟨_, hd4⟩).run [] s5 _ H' _ S5 (hyes rfl a na)) (fun f s6 hsp => ?_) (fun _ _ z => False.elim z)
      have end_ : ∀ {σ6 : L2.St} {H6 : Hp} {Q : Shared → Prop}, L2.Inv (X.suite a ((a, oe4) :: (X.pn ++ pins))) [] σ6 H6 s6 → (∀ s7, L2.Inv X pins (σ6.set i none) (upd H6 a (excK a cls d)) s7 → Q s7) →
          wpAny (model X.prog X.w) X.A (do bindName X.env n .none; unbindBehindTheSuite X.env n pos') (fun _ s7 => Q s7) X.xe s6 := fun {σ6 H6 Q} S6 hq =>
        gone_ok (X := X.suite a ((a, oe4) :: (X.pn ++ pins))) S6 hN hi hln fun s7 S7 => hq s7 (keep_exc (S7.unsuite ok) (S7.pin (a, oe4) (by simp)).1 hd4 (S7.pin (a, oe4) (by simp)).2.1 nL s0n pnn hz4)
      cases f with
      | next =>
        obtain ⟨σ6, H6, S6, q6⟩ := hsp
        exact end_ S6 fun s7 J7 => ⟨_, _, J7, q6⟩
      | brk =>
        obtain ⟨σ6, H6, S6, q6⟩ := hsp
        exact end_ S6 fun s7 J7 => ⟨_, _, J7, q6⟩
      | cont =>
        obtain ⟨σ6, H6, S6, q6⟩ := hsp
        exact end_ S6 fun s7 J7 => ⟨_, _, J7, q6⟩
      | ret u =>
        obtain ⟨v6, σ6, H6, S6, r6, q6⟩ := hsp
        exact end_ S6 fun s7 J7 => ⟨_, _, _, J7, r6, q6⟩
    | false =>
      show wpAny _ X.A (handleBy (.ref a) X.env []) _ _ _
      refine wpAny_handleBy_nil ?_
      obtain ⟨k1, k2, k3, oe, vs, T, oT, ts', he, hz, hd, h1, hr⟩ := id fl3
      unfold PySem.passOn
      refine wpAny_bind (wpAny_field he hd h1 ?_)
      rw [if_neg (show ¬ ((Value.ref T == Value.none) = true) from by simp)]
      have fin : wpAny (model X.prog X.w) X.A (setFlight (.ref a) X.env.frame) (fun _ s4 => wpAny (model X.prog X.w) X.A (throw (.ref a) : Sem Flow) (SP X pins D) X.xe s4) X.xe { s' with heap := h3 } := by
        rw [hf]
        refine HandSPX.setFlight_upZ fl3 fun h4 hh4 up4 => wpAny_throw (tk _ _ ?_)
        exact ⟨a, B, sI, pins, σ', H', cls, d, rfl, J, nb, (up.trans up3).trans up4, .inr (.inr (by rw [hs]; exact hh4)), na, os, ag, hno rfl⟩
      first
        | exact wpAny_bind (wpAny_pure (wpAny_bind fin))
        | exact wpAny_bind fin
  · cases f with
    | next =>
      obtain ⟨σ', H', J', q⟩ := hsp
      exact wpAny_execs_nil ⟨σ', H', J'.ofTry ok, q⟩
    | brk =>
      obtain ⟨σ', H', J', q⟩ := hsp
      exact ⟨σ', H', J'.ofTry ok, q⟩
    | cont =>
      obtain ⟨σ', H', J', q⟩ := hsp
      exact ⟨σ', H', J'.ofTry ok, q⟩
    | ret u =>
      obtain ⟨v, σ', H', J', r, q⟩ := hsp
      exact ⟨v, σ', H', J'.ofTry ok, r, q⟩
end
/-! ### isinstance(e, C), e.f of a kept exception -/
structure KxC (K : PySem.W.Frag) (D : Addr) : Prop where
  hc : (PySem.W.clsIn K D).isSome = true
  hg : PySem.W.findIn K (.ref D) "__getattribute__" = some (some (.builtin "BaseException.__getattribute__"))
  hk : PySem.W.findIn K (.ref D) "__getattr__" = some none
  hs : PySem.W.subIn K (.ref D) (.type "BaseException") = some true
  ha : PySem.W.findIn K (.ref D) "__class__" = some (some (.builtin "object.__class__"))
  hn : PySem.W.specialIn K (.builtin "object.__class__") "__get__" = some (some (.builtin "getset_descriptor.__get__"))
  ht : PySem.W.takesIn K (.builtin "object.__class__") = some true
  hm : PySem.W.mroIn K D (.type "object") = some true
/-- the exception at a stands, with what its dict holds -/
def StE (a D : Addr) (d : Option Addr) (H : Hp) : Prop := H a = some (excK a (.ref D) d) ∧ ∀ dd, d = some dd → ∃ fs, H dd = some (.xd fs)
def rIsX (K : PySem.W.Frag) : List V → Hp → VK → Prop := fun xs H Q => ∃ (a D : Addr) (d : Option Addr) (c : V) (u : Value) (b : Bool), xs = [.ref a, c] ∧ ClsV c u ∧ StE a D d H ∧ KxC K D ∧ PySem.W.kitOne K (.ref D) u = some b ∧ Q (.bl b) H
section
variable {X : Cx}
theorem inst_of {pins : List (Addr × Obj)} {σ : L2.St} {H : Hp} {s : Shared} {a D : Addr} {d : Option Addr} (I : L2.Inv X pins σ H s) (h : StE a D d H) : ∃ ox od, PySem.W.InstAt s.heap a ox D od := by
  obtain ⟨o, vs, ho, hz, hd⟩ := excK_at I.hok h.1
  obtain ⟨oc, od, oda, osl⟩ := o
  obtain ⟨h1, h2⟩ := hz
  dsimp only at h1 h2 hd
  subst h1 h2 hd
  cases od with
  | none => exact ⟨_, none, ho, rfl, rfl, trivial⟩
  | some dd =>
    obtain ⟨fs, hf⟩ := h.2 dd rfl
    obtain ⟨mA, hns, hr⟩ := (show ObjOk X.prog X.w H s.heap dd (.xd fs) from I.hok dd _ hf)
    obtain ⟨od, ho2, hl⟩ := lookIn_ns hns
    exact ⟨_, some od, ho, rfl, rfl, ho2⟩
theorem call_isX : CallR X (.builtin "isinstance") (rIsX X.K) := by
  intro pins s σ H xs us Q I r h
  obtain ⟨a, D, d, c, u, b, rfl, k, hst, C, e, q⟩ := h
  obtain ⟨u1, u2, rfl, r1, r2⟩ := vals2 r
  have e2 := k.eq r2
  subst e2
  cases r1
  obtain ⟨ox, od, J⟩ := inst_of I hst
  exact PySem.W.kia_one (PySem.W.kitx_exc C.hc C.hg C.hk C.hs C.ha C.hn C.ht C.hm) I.kIn J e (fun z => nomatch z) fun tk => ⟨.bl b, H, I.tok tk, rfl, q⟩
/-- e.f -/
def tXk (K : PySem.W.Frag) (f : Str) (te : TE) : TE := fun σ H Q => te σ H fun x H1 => ∃ (a C dd : Addr) (fs : List (Str × V)) (v : V), x = .ref a ∧ H1 a = some (excK a (.ref C) (some dd)) ∧ H1 dd = some (.xd fs) ∧ XfC K C ∧ PySem.W.findIn K (.ref C) f = some none ∧ fs.lookup f = some v ∧ Q v H1
theorem pe_attrK {e : Expr} {te : TE} {pos : Pos} {n : Str} (he : PE X e te) (hb : attributeBase e n X.env (eval e X.env) = eval e X.env := by rfl) : PE X (.Attribute e n pos) (tXk X.K n te) := by
  refine ⟨fun pins s σ H Q I h => ?_⟩
  refine attr_of hb (thn (he.run pins s σ H _ I h) fun u s1 hh => ?_)
  obtain ⟨x, H1, I1, rx, a, C, dd, fs, v, ex, ea, ed, T, hno, l, q⟩ := hh
  subst ex
  obtain rfl : u = Value.ref a := rx
  obtain ⟨o, vs, ho, hz, hd⟩ := excK_at I1.hok ea
  obtain ⟨mA, hns, hr⟩ := (show ObjOk X.prog X.w H1 s1.heap dd (.xd fs) from I1.hok dd _ ed)
  obtain ⟨od, ho2, hl⟩ := lookIn_ns hns
  obtain ⟨u, hu, ru⟩ := RelO.some_of (v := v) (o := mA n) (by rw [← l]; exact hr n)
  have J : PySem.W.InstAt s1.heap a o C (some od) := ⟨ho, hz.1, by unfold PySem.W.notCls; rw [hd] <;> rfl, by rw [hz.2]; exact ho2⟩
  exact HandSPX.exc_get I1.kIn J T.ga T.gg T.exC (PySem.W.findObj_own T.hdC hno rfl (by rw [hl, hu])) (handed_of ru) ⟨v, H1, I1.tok _, ru, q⟩
end
end Ex4
set_option maxRecDepth 100000
set_option maxHeartbeats 4000000
/-! Ext5: keyword calls, slices with a step, sorted data, t * 1, t.index, min of a tuple. -/
namespace Ex5
open PySem PySem.Spec PyProof.Rows
open L2 hiding Inv RelV St
/-! ### f(k = v, ..), no positional argument, its exceptions at the slots -/
def tCallKS (sp : Sp) (gV : List V → List V → List V) (E : L2.St → XK) (tk : TA) : TE := fun σ H Q => tk σ H fun zs H1 => sp (gV [] zs) H1 Q (E σ)
section
variable {X : Cx} {CX : CXT} {k : Nat} {f : Addr} {fd : FuncData} {ps ks : List Str} {sp : Sp} {E : L2.St → XK} {x : Str} {p pos : Pos} {kws : List Keyword} {tk : TA}
variable {g : List Value → List Value → List Value} {gV : List V → List V → List V}
theorem pe_callKS (F : FnOk X.prog X.w X.K X.mg X.base CX k f fd ps sp) (hr : Room k X.A) (hg : Gl X x) (hm : X.mg x = some (.ref f)) (hk : PySem.W.keepIn X.K (.ref f) = true) (hb : KBinds X.K fd ps ks g gV) (hx : ∀ σ, PassesAt CX X σ (E σ))
    (hkw : PK X kws tk) (hall : (backToKw pos (keywordEach kws X.env)).all (·.1.isSome) = true := by rfl) (hks : (backToKw pos (keywordEach kws X.env)).filterMap (·.1) = ks := by rfl)
    (hdb : (x == ("__debug__" : Str)) = false := by decide) (hpl : ((backTo pos (starEach [] X.env)).any (·.1) || (backToKw pos (keywordEach kws X.env)).any (·.1.isNone)) = false := by rfl) :
    PE X (.Call (.Name x p) [] kws pos) (tCallKS sp gV E tk) := by
  refine ⟨fun pins s σ H Q I h => ?_⟩
  refine wpAny_Call_Name_kw (ld_glob I hg hm ?_ hdb)
  refine PySem.W.callWith_KW0 (h₀ := X.base) I.ok.mod.kin hk hall ?_ hpl
  refine thn (hkw.run pos pins s σ H _ I h) fun ws s2 ⟨zs, H2, I2, rz, q2⟩ => ⟨I2.kIn, ?_⟩
  rw [hks]
  have r2 := hb.rel (vs := []) (us := []) .nil rz
  have hl : (g [] ws).length = ps.length := by rw [← r2.length]; exact F.len _ _ _ _ q2
  refine wpAny_call (codeAny_mono (F.run X.A X.stack s2 H2 ⟨[], ks.zip ws⟩ (g [] ws) (gV [] zs) Q (E σ) hr I2.env0 (hb.to s2 [] ws I2.kIn hl) r2 q2) fun r s' hq => ?_)
  cases r with
  | error e => exact hx σ pins H2 s2 e s' I2 hq
  | ok fl =>
    cases fl with
    | ret u => exact I2.after hq
    | next => exact False.elim hq
    | brk => exact False.elim hq
    | cont => exact False.elim hq
end
/-! ### t * 1 -/
theorem tuple_mul1 (l : Addr) (items : Array Value) (n : Nat) (dd : Option Addr) (sl : Array (Option Value)) (u : Tok) :
    Meets (Builtin.«tuple.__mul__» ⟨[.ref l, .int 1 u], []⟩) (fun _ R s => s.heap.get? l = some { cls := .type "tuple", dict := dd, data := .seq items n, slots := sl } ∧ R (.ok (.ret (Value.ref l))) s) :=
  .of_wp fun prog w A R s h => by
    obtain ⟨hp, g, d, tk, os⟩ := s
    obtain ⟨hl, h⟩ := h
    have f1 := AutoSeq1.idx_int
    have c1 : (items.isEmpty || (1 : Int) == 1) = true := by cases items.isEmpty <;> rfl
    wp_walk using wpAny_loadPart' hl
    exact ⟨_, rfl, h⟩
def rRep1 (K : PySem.W.Frag) : R2 := fun x y H Q => ∃ l xs, x = .ref l ∧ y = .int 1 ∧ SqT K H l xs ∧ Q (.ref l) H
section
variable {X : Cx}
theorem op_rep1 : OpR X (binaryOp .Mult) (rRep1 X.K) := by
  intro pins s σ H x y v u Q I rx ry h
  obtain ⟨l, xs, rfl, rfl, hT, q⟩ := h
  cases rx
  obtain ⟨t, rfl⟩ := ry
  obtain ⟨its, r, ⟨⟨cls, dd, data, sl⟩, ho, hc, n, hd⟩, hs⟩ := I.tuple hT
  simp only at hc hd
  subst hc hd
  refine wpAny_binaryOp_repeat_ref (T := "tuple") (U := "int") (by decide) ⟨_, ho, rfl⟩ (fun s' => typeIs_int s' 1 t) noFill_tuple_mul F.fills_int_mul F.slot_int_rmul repeat_tuple F.slot_int_index.lookup
    (call_meets F.slot_int_rmul (typeIs_int s 1 t) F.entry_int_rmul (F.args_int_rmul_2 _ _) (int_rmul_tuple 1 t l its.toArray n dd sl)
      ⟨ho, rfl, ⟨_, ho, rfl⟩, call_meets F.slot_tuple_mul ⟨_, ho, rfl⟩ F.entry_tuple_mul (F.args_tuple_mul_2 _ _) (tuple_mul1 l its.toArray n dd sl t) ⟨ho, ?_⟩⟩)
  exact ⟨.ref l, H, I, rfl, q⟩
/-- t * k, k at least 1 -/
def rRepA (K : PySem.W.Frag) : R2 := fun x y H Q => ∃ l k xs, x = .ref l ∧ y = .int k ∧ SqT K H l xs ∧ xs ≠ [] ∧ 1 ≤ k ∧ k ≤ 1000 ∧ xs.length ≤ 1000 ∧ (k = 1 → Q (.ref l) H) ∧ (2 ≤ k → ∀ p, H p = none → Q (.ref p) (upd H p (.tup (List.replicate k.toNat xs).flatten)))
theorem op_repA : OpR X (binaryOp .Mult) (rRepA X.K) := by
  intro pins s σ H x y v u Q I rx ry h
  obtain ⟨l, k, xs, rfl, rfl, hT, hne, h1, h2, h3, q1, q2⟩ := h
  by_cases hk : k = 1
  · subst hk
    exact op_rep1 pins s σ H _ _ v u Q I rx ry ⟨l, xs, rfl, rfl, hT, q1 rfl⟩
  · exact op_repT pins s σ H _ _ v u Q I rx ry ⟨l, k, xs, rfl, rfl, hT, hne, by omega, h2, h3, q2 (by omega)⟩

/-! ### sorted(data) -/
theorem each_pair {K : PySem.W.Frag} {H : Hp} : ∀ {xs : List V} {its : List Value} {ds : List PyData}, Vals xs its → DpAll K H xs ds → PySem.W.EachIs (fun v (b : V × PyData) => L2.RelV b.1 v ∧ Dp K H b.1 b.2) its (xs.zip ds)
  | _, _, _, .nil, .nil => .nil
  | _, _, _, .cons r t, .cons h u => .cons ⟨r, h⟩ (each_pair t u)
theorem vals_each {K : PySem.W.Frag} {H : Hp} : ∀ {its : List Value} {bs : List (V × PyData)}, PySem.W.EachIs (fun v (b : V × PyData) => L2.RelV b.1 v ∧ Dp K H b.1 b.2) its bs → Vals (bs.map (·.1)) its ∧ DpAll K H (bs.map (·.1)) (bs.map (·.2))
  | _, _, .nil => ⟨.nil, .nil⟩
  | _, _, .cons h t => ⟨.cons h.1 (vals_each t).1, .cons h.2 (vals_each t).2⟩
theorem zip_snd {α β : Type} : ∀ {xs : List α} {ds : List β}, xs.length = ds.length → (xs.zip ds).map (·.2) = ds
  | [], [], _ => rfl
  | x :: xs, d :: ds, h => by
    rw [List.zip_cons_cons, List.map_cons, zip_snd (by simpa using h)]
def rSortD (K : PySem.W.Frag) (B : Nat) : List V → Hp → VK → Prop := fun vs H Q => ∃ (a : Addr) (F : Hp) (ds : List PyData), vs = [V.ref a] ∧ (∀ b o, F b = some o → H b = some o) ∧ Dp K F (.ref a) (.list ds) ∧ PySem.W.AllAlike ds ∧ PySem.W.Sortable ds ∧ (∀ d ∈ ds, d.depth ≤ B) ∧
  ∀ (xs' : List V) (ds' : List PyData) (p : Addr), ds'.Perm ds → DpAll K F xs' ds' → H p = none → Q (.ref p) (upd H p (.lst xs'))
theorem cr_sortD {B : Nat} (hu : X.A.units + 2 + B < cLine) : CallR X (.builtin "sorted") (rSortD X.K B) := by
  intro pins s σ H vs us Q I r h
  obtain ⟨a, F, ds, rfl, hF, hd, hal, hso, hB, q⟩ := h
  obtain ⟨u, rfl, ru⟩ := vals1 r
  cases ru
  obtain ⟨a', xs, e, hs, hx⟩ := hd.lst_inv
  cases e
  obtain ⟨its, rv, hl, hz⟩ := I.list (Same.seq hF hs)
  have hlen := hx.len
  have hm : (xs.zip ds).map (fun b => b.2) = ds := zip_snd hlen
  have e1 := each_pair rv hx
  have hn : (xs.zip ds).length = xs.length := by rw [List.length_zip, hlen, Nat.min_self]
  have er : PySem.W.EachIs (fun v (b : V × PyData) => ∃ as, Reads s.heap v b.2 as) its (xs.zip ds) := e1.mono fun v b z => by
    obtain ⟨as, rd⟩ := Dp.reads I _ _ _ (z.2.up hF) z.1
    exact ⟨as, rd⟩
  have hu2 : ∀ b, b ∈ xs.zip ds → X.A.units + 2 + b.2.depth < cLine := fun b hb => by
    have := hB b.2 (by rw [← hm]; exact List.mem_map_of_mem hb)
    omega
  refine PySem.W.sorted_data (enc := fun b : V × PyData => b.2) hl.isList e1 er (by rw [hm]; exact hal) (by rw [hm]; exact hso) (by rw [hn]; exact hz) hu2 fun out h1 h2 => ?_
  · obtain ⟨w1, w2⟩ := vals_each h2
    obtain ⟨ep, he'⟩ := PyProof.Rows.sortedAll_at s.heap its (List.toArray out)
    have hp : (((xs.zip ds).mergeSort (PySem.W.dataLe false fun b : V × PyData => b.2)).map (·.2)).Perm ds := by
      have z := (List.mergeSort_perm (xs.zip ds) (PySem.W.dataLe false fun b : V × PyData => b.2)).map (fun b => b.2)
      rw [hm] at z
      exact z
    have hl2 : (((xs.zip ds).mergeSort (PySem.W.dataLe false fun b : V × PyData => b.2)).map (·.1)).length ≤ sizeLine := by
      rw [List.length_map, List.length_mergeSort, hn]; exact hz
    exact ⟨.ref _, upd H (s.heap.objs.size + 1) (.lst (((xs.zip ds).mergeSort (PySem.W.dataLe false fun b : V × PyData => b.2)).map (·.1))), I.laid (t' := s.toks) (fun _ _ => PyProof.Rows.sortedAll_old) (Nat.le_succ _) ⟨hl2, out, ep, w1, he'⟩, rfl, q _ _ _ hp w2 (I.hok.fresh (Nat.le_succ _))⟩
end
/-! ### slices with the step -1 -/
/-- the items at the places, those that are there -/
def atAll {α : Type} (idx : List Nat) (xs : List α) : List α := idx.filterMap (xs[·]?)
theorem vals_atAll {xs : List V} {its : List Value} (r : Vals xs its) : ∀ idx : List Nat, Vals (atAll idx xs) (atAll idx its)
  | [] => .nil
  | i :: idx => by
    have ih := vals_atAll r idx
    unfold atAll at ih ⊢
    cases h : xs[i]? with
    | none =>
      have h2 : its[i]? = none := by
        rw [List.getElem?_eq_none_iff] at h ⊢
        rw [← r.length]; exact h
      rw [List.filterMap_cons_none h, List.filterMap_cons_none h2]
      exact ih
    | some x =>
      obtain ⟨u, hu, ru⟩ := r.get h
      rw [List.filterMap_cons_some h, List.filterMap_cons_some hu]
      exact .cons ru ih
theorem dp_atAll {K : PySem.W.Frag} {F : Hp} {xs : List V} {ds : List PyData} (r : DpAll K F xs ds) : ∀ idx : List Nat, DpAll K F (atAll idx xs) (atAll idx ds)
  | [] => .nil
  | i :: idx => by
    have ih := dp_atAll r idx
    unfold atAll at ih ⊢
    cases h : xs[i]? with
    | none =>
      have h2 : ds[i]? = none := by
        rw [List.getElem?_eq_none_iff] at h ⊢
        rw [← r.len]; exact h
      rw [List.filterMap_cons_none h, List.filterMap_cons_none h2]
      exact ih
    | some x =>
      obtain ⟨d, hd, rd⟩ := r.atV h
      rw [List.filterMap_cons_some h, List.filterMap_cons_some hd]
      exact .cons rd ih
theorem atAll_map {α β : Type} (f : α → β) (idx : List Nat) (xs : List α) : atAll idx (xs.map f) = (atAll idx xs).map f := by
  unfold atAll
  rw [List.map_filterMap]
  congr 1
  funext i
  rw [List.getElem?_map]
theorem atAll_len {α : Type} (idx : List Nat) (xs : List α) : (atAll idx xs).length ≤ idx.length := List.length_filterMap_le _ _
def idxL (lo hi : Option Int) (n : Nat) : List Nat := sliceRange (sliceBounds lo hi (some (-1)) n).1 (sliceBounds lo hi (some (-1)) n).2.1 (sliceBounds lo hi (some (-1)) n).2.2
def idxT (lo hi : Option Int) (n : Nat) : List Nat := (List.range (Builtin.Slice.slicePlaces (Builtin.Slice.sliceAdjust lo hi (-1) n).1 (Builtin.Slice.sliceAdjust lo hi (-1) n).2 (-1))).map fun (m : Nat) => ((Builtin.Slice.sliceAdjust lo hi (-1) n).1 + (m : Int) * (-1)).toNat
theorem pick_atAll (items : Array Value) (lo hi : Option Int) : slicePick items lo hi (some (-1)) = (atAll (idxL lo hi items.size) items.toList).toArray := by
  unfold slicePick atAll idxL
  have e : (fun i : Nat => items[i]?) = fun i : Nat => items.toList[i]? := by
    funext i
    simp
  rw [e]
section
variable {prog : Program} {w : World} {A : Around} {E : Value → Shared → Prop} {s : Shared}
theorem sliceApplied_rev {sl : Addr} {vl vu vs : Value} {lo hi : Option Int} {n : Nat} {Q : Int × Int × Nat → Shared → Prop} (hs : s.heap.IsSliceOf sl vl vu vs) (pl : IsPart vl lo) (pu : IsPart vu hi) (ps : IsPart vs (some (-1)))
    (h : Q ((Builtin.Slice.sliceAdjust lo hi (-1) n).1, -1, Builtin.Slice.slicePlaces (Builtin.Slice.sliceAdjust lo hi (-1) n).1 (Builtin.Slice.sliceAdjust lo hi (-1) n).2 (-1)) s) : wpAny (model prog w) A (Builtin.Slice.sliceApplied (.ref sl) (pure (n : Int))) Q E s := by
  obtain ⟨os, hos, hcs, hds⟩ := id hs
  unfold Builtin.Slice.sliceApplied Builtin.Slice.sliceFields
  refine wpAny_bind (wpAny_bind (wpAny_field hos hds (x := vl) rfl (wpAny_bind (wpAny_field hos hds (x := vu) rfl (wpAny_bind (wpAny_field hos hds (x := vs) rfl (wpAny_pure ?_)))))))
  refine wpAny_bind (HT.slicePart_ ps ?_)
  show wpAny _ _ (if ((-1 : Int) == 0) = true then _ else _) _ _ s
  rw [if_neg (by decide)]
  refine wpAny_bind (HT.slicePart_ pl (wpAny_bind (HT.slicePart_ pu (wpAny_bind (wpAny_pure ?_)))))
  exact wpAny_pure h
theorem getItem_tuple_rev {t sl : Addr} {items : Array Value} {vl vu vs : Value} {lo hi : Option Int} {Q : Value → Shared → Prop} (ht : IsTup s.heap t items) (hs : s.heap.IsSliceOf sl vl vu vs) (pl : IsPart vl lo) (pu : IsPart vu hi) (ps : IsPart vs (some (-1)))
    (h : Q (.ref s.heap.objs.size) { s with heap := s.heap.push { cls := .type "tuple", data := .seq (atAll (idxT lo hi items.size) items.toList).toArray } })
    (hsz : (idxT lo hi items.size).length ≤ sizeLine) : wpAny (model prog w) A (getItem (.ref t) (.ref sl)) Q E s := by
  have htake : sizeOk (.seq (atAll (idxT lo hi items.size) items.toList).toArray) := by
    show (atAll (idxT lo hi items.size) items.toList).toArray.size ≤ sizeLine
    rw [List.size_toArray]
    exact Nat.le_trans (atAll_len _ _) hsz
  obtain ⟨os, hos, hcs, hds⟩ := id hs
  have hTs : s.TypeIs (.ref sl) "slice" := ⟨os, hos, hcs⟩
  unfold getItem
  try with_reducible refine wpAny_holding ?_
  first | refine wpAny_bind (wpAny_pure ?_) | skip
  refine wpAny_bind (wpAny_sequenceKey ht.typeIs (by decide) ?_)
  refine wpAny_bind (wpAny_callSpecial?_slot (name := Str.ofString "__getitem__") ht.typeIs PyProof.Rows.slot_tuple_getitem
    (wpAny_call_entry PyProof.Rows.slot_tuple_getitem ht.typeIs entry_tuple_getitem ?_ (args_tuple_getitem _ _)))
  show wpAny _ _ (Builtin.Tuple.tupleItemsOf (.ref t) >>= _) _ _ s
  refine wpAny_bind (tupleItemsOf_ ht ?_)
  refine wpAny_bind (wpAny_typeOf hTs ?_)
  rw [if_pos (by decide)]
  refine wpAny_bind (sliceApplied_rev hs pl pu ps ?_)
  have hno : ¬ (((Builtin.Slice.sliceAdjust lo hi (-1) items.size).1 == 0 && (-1 : Int) == 1 && Builtin.Slice.slicePlaces (Builtin.Slice.sliceAdjust lo hi (-1) items.size).1 (Builtin.Slice.sliceAdjust lo hi (-1) items.size).2 (-1) == items.size) = true) := by
    rw [show ((-1 : Int) == 1) = false from rfl]
    simp
  show wpAny _ _ (if ((Builtin.Slice.sliceAdjust lo hi (-1) items.size).1 == 0 && (-1 : Int) == 1 && Builtin.Slice.slicePlaces (Builtin.Slice.sliceAdjust lo hi (-1) items.size).1 (Builtin.Slice.sliceAdjust lo hi (-1) items.size).2 (-1) == items.size) = true then _ else _) _ _ s
  rw [if_neg hno]
  have e : ((List.range (Builtin.Slice.slicePlaces (Builtin.Slice.sliceAdjust lo hi (-1) items.size).1 (Builtin.Slice.sliceAdjust lo hi (-1) items.size).2 (-1))).filterMap fun (m : Nat) => items[((Builtin.Slice.sliceAdjust lo hi (-1) items.size).1 + (m : Int) * (-1)).toNat]?).toArray = (atAll (idxT lo hi items.size) items.toList).toArray := by
    unfold atAll idxT
    rw [List.filterMap_map]
    have e : (fun i : Nat => items[i]?) = fun i : Nat => items.toList[i]? := by
      funext i
      simp
    rw [← e]
    rfl
  rw [e]
  first
    | exact wpAny_bind (m := Builtin.Tuple.tupleExact _) (wpAny_newObj_type (wpAny_pure ⟨_, rfl, wpAny_pure h⟩) htake)
    | exact wpAny_bind (m := Builtin.Tuple.tupleExact _) (wpAny_newObj_type (wpAny_bind (wpAny_pure (wpAny_pure ⟨_, rfl, wpAny_pure h⟩))) htake)
    | exact wpAny_bind (wpAny_bind (m := Builtin.Tuple.tupleExact _) (wpAny_newObj_type (wpAny_pure (wpAny_pure ⟨_, rfl, wpAny_pure h⟩)) htake))
    | exact wpAny_bind (wpAny_bind (m := Builtin.Tuple.tupleExact _) (wpAny_newObj_type (wpAny_pure ⟨_, rfl, wpAny_pure h⟩) htake))
end
section
variable {X : Cx}
def tRevS (K : PySem.W.Frag) (te : TE) (tl th : TO) : TE := fun σ H Q => te σ H fun x H1 => tl σ H1 fun l H2 => th σ H2 fun u H3 =>
  (∃ a xs, x = .ref a ∧ SqL K H3 a xs ∧ ∀ p, H3 p = none → Q (.ref p) (upd H3 p (.lst (atAll (idxL l u xs.length) xs)))) ∨
  ∃ a xs, x = .ref a ∧ SqT K H3 a xs ∧ (idxT l u xs.length).length ≤ sizeLine ∧ ∀ p, H3 p = none → Q (.ref p) (upd H3 p (.tup (atAll (idxT l u xs.length) xs)))
theorem pe_revS {e : Expr} {te : TE} {lo hi : Option Expr} {tl th : TO} {k : Nat} {p1 p2 p3 pos : Pos} (he : PE X e te) (hl : PO X lo tl) (hu : PO X hi th) :
    PE X (.Subscript e (.Slice lo hi (some (.UnaryOp .USub (.Constant (.int 1) k p1) p2)) p3) pos) (tRevS X.K te tl th) := by
  refine ⟨fun pins s σ H Q I h => ?_⟩
  refine Subscript_ (thn (he.run pins s σ H _ I h) fun v s1 ⟨x, H1, I1, r1, q1⟩ => ?_)
  have hst : PO X (some (.UnaryOp .USub (.Constant (.int 1) k p1) p2)) (tPart (tUn (rU fun i => .int (-i)) (tC (.int 1)))) := po_some (pe_un un_neg pe_int)
  refine wpAny_Slice (thn (hl.run pins s1 σ H1 _ I1 q1) fun vl s2 ⟨l, H2, I2, pl, q2⟩ => thn (hu.run pins s2 σ H2 _ I2 q2) fun vu s3 ⟨u, H3, I3, pu, q3⟩ => ?_)
  refine thn (hst.run pins s3 σ H3 (fun o H4 => o = some (-1) ∧ H4 = H3) I3 ⟨1, rfl, -1, rfl, rfl, rfl⟩) fun vs s4 ⟨o, H4, I4, ps, eo, e4⟩ => ?_
  subst eo e4
  have I5 : L2.Inv X pins σ H4 { s4 with heap := s4.heap.push { cls := .type "slice", data := .fields #[vl, vu, vs] } } := I4.kept (t' := s4.toks) fun b ob q => Heap.get?_push_of_some _ q
  rcases q3 with ⟨a, xs, ex, hx, q⟩ | ⟨a, xs, ex, hx, hn, q⟩
  · subst ex
    cases r1
    obtain ⟨its, r, ht, hz⟩ := I5.list hx
    have hlen : its.toArray.size = xs.length := by rw [List.size_toArray]; exact r.length.symm
    show wpAny (model X.prog X.w) X.A (subscriptTail e (.Slice lo hi (some (.UnaryOp .USub (.Constant (.int 1) k p1) p2)) p3) (.ref a) (.ref s4.heap.objs.size)) (EP X pins σ Q) X.xe { s4 with heap := s4.heap.push { cls := .type "slice", data := .fields #[vl, vu, vs] } }
    refine tail_any (ops := [.ref a, .ref s4.heap.objs.size]) ht.isList.typeIs (PySem.slot_list_getitem.lookup) ?_ (by with_unfolding_all rfl)
    refine wpAny_getItem_list_slice ht.isList (Heap.IsSliceOf.new _ vl vu vs) pl pu ps (by decide) ?_ (by rw [hlen]; exact hz)
    have hz2 : (atAll (idxL l u xs.length) xs).length ≤ sizeLine := by
      have z := slicePick_size_le its.toArray l u (some (-1))
      rw [pick_atAll, List.size_toArray] at z
      have z2 := (vals_atAll r (idxL l u its.toArray.size)).length
      rw [← hlen]
      have z3 : its.toArray.toList = its := rfl
      rw [z3] at z
      omega
    rw [pick_atAll]
    refine ⟨.ref _, _, I5.laid (t' := s4.toks) (o := .lst (atAll (idxL l u xs.length) xs)) (fun b ob q => Heap.get?_push_of_some _ q) (Nat.le_refl _) ?_, rfl, q _ (I5.hok.fresh (Nat.le_refl _))⟩
    refine ⟨hz2, atAll (idxL l u its.toArray.size) its, 0, ?_, Heap.get?_push_size _ rfl⟩
    rw [hlen]
    exact vals_atAll r _
  · subst ex
    cases r1
    obtain ⟨its, r, ht, hz⟩ := I5.tuple hx
    have hlen : its.toArray.size = xs.length := by rw [List.size_toArray]; exact r.length.symm
    show wpAny (model X.prog X.w) X.A (subscriptTail e (.Slice lo hi (some (.UnaryOp .USub (.Constant (.int 1) k p1) p2)) p3) (.ref a) (.ref s4.heap.objs.size)) (EP X pins σ Q) X.xe { s4 with heap := s4.heap.push { cls := .type "slice", data := .fields #[vl, vu, vs] } }
    refine tail_any (ops := [.ref a, .ref s4.heap.objs.size]) ht.typeIs (PyProof.Rows.slot_tuple_getitem.lookup) ?_ (by with_unfolding_all rfl)
    refine getItem_tuple_rev ht (Heap.IsSliceOf.new _ vl vu vs) pl pu ps ?_ (by rw [hlen]; exact hn)
    refine ⟨.ref _, _, I5.laid (t' := s4.toks) (o := .tup (atAll (idxT l u xs.length) xs)) (fun b ob q => Heap.get?_push_of_some _ q) (Nat.le_refl _) ?_, rfl, q _ (I5.hok.fresh (Nat.le_refl _))⟩
    refine ⟨Nat.le_trans (atAll_len _ _) hn, atAll (idxT l u its.toArray.size) its, ?_, IsTup.new _ _⟩
    rw [hlen]
    exact vals_atAll r _
end
end Ex5
set_option maxRecDepth 100000
set_option maxHeartbeats 4000000
/-! Ext6: tuples without a dict, t.index, min of a tuple; defs that ask for no guard ahead. -/
namespace Ex6
open PySem PySem.Spec PyProof.Rows
open L2 hiding Inv RelV St
section
variable {X : Cx} {e o : Expr} {es : List Expr} {te to : TE} {t : TA} {apos cpos pos : Pos}
def tTupZ (t : TA) : TE := fun σ H Q => t σ H fun vs H1 => vs.length ≤ sizeLine ∧ ∀ p o, H1 p = none → o.dict = none → Q (.ref p) (upd H1 p (.frz o (.tup vs)))
theorem pe_tupZ {x1} (h : PA X es t) : PE X (.Tuple es x1 pos) (tTupZ t) := by
  refine ⟨fun pins s σ H Q I hq => ?_⟩
  refine wpAny_Tuple_spliced (thn (h.run pos pins s σ H _ I hq) fun us s1 ⟨xs, H1, I1, r, z, q⟩ => ⟨by rw [← r.length]; exact z, ?_⟩)
  have hf : H1 s1.heap.objs.size = none := I1.hok.fresh (Nat.le_refl _)
  refine ⟨.ref s1.heap.objs.size, upd H1 s1.heap.objs.size (.frz { cls := .type "tuple", data := .seq us.toArray } (.tup xs)), I1.laid (t' := s1.toks) (fun b u e => Heap.get?_push_of_some _ e) (Nat.le_refl _) ?_, rfl, q _ _ hf rfl⟩
  exact ⟨Heap.get?_push_size _ rfl, z, us, r, ⟨_, Heap.get?_push_size _ rfl, rfl, _, rfl⟩⟩
def tTidx (to te : TE) : TE := fun σ H Q => to σ H fun x H1 => ∃ (p : Addr) (o : Obj) (ns : List Int), x = .ref p ∧ H1 p = some (.frz o (.tup (ns.map V.int))) ∧ o.dict = none ∧ te σ H1 fun y H2 => ∃ (m : Int) (j : Nat), y = .int m ∧ H2 p = some (.frz o (.tup (ns.map V.int))) ∧ ns[j]? = some m ∧ (∀ i, i < j → ns[i]? ≠ some m) ∧ Q (.int (j : Nat)) H2
theorem flat_ints (ns : List Int) : (ns.map V.int).all flatV = true := by
  rw [List.all_map]
  exact List.all_eq_true.mpr fun _ _ => rfl
theorem pe_tidx (ho : PE X o to) (he : PE X e te) (m : M1 X o "index" apos e cpos) : PE X (.Call (.Attribute o "index" apos) [e] [] cpos) (tTidx to te) := by
  refine ⟨fun pins s σ H Q I h => ?_⟩
  refine wpAny_Call_method m.base m.few m.line PySem.F.plainAttrs_tuple PySem.F.slot_tuple_index PySem.F.type_tuple_index (thn (ho.run pins s σ H _ I h) fun u s1 ⟨x, H1, I1, rx, p, o, ns, ex, ep, hd, q1⟩ => ?_)
  subst ex
  obtain rfl : u = Value.ref p := rx
  obtain ⟨g1, g2⟩ := (show ObjOk X.prog X.w H1 s1.heap p (.frz o (.tup (ns.map V.int))) from I1.hok p _ ep)
  obtain ⟨_, its, _, o', h1, h2, n, h3⟩ := g2
  rw [g1] at h1
  cases h1
  refine ⟨⟨o, g1, h2⟩, fun b e => by cases e; exact ⟨o, g1, hd⟩, ?_⟩
  rw [m.trees]
  refine Calls.callWith_builtin rfl (Calls.evalArgs_plain (Calls.spliced_cons (thn (he.run pins s1 σ H1 _ I1 q1) fun iv s2 ⟨y, H2, I2, ry, mm, j, ey, ep2, hj, hno, q2⟩ => Calls.spliced_nil ?_)))
  subst ey
  obtain ⟨t, rfl⟩ := ry
  obtain ⟨g3, _, its2, r, o2, k1, k2, n2, k3⟩ := (show ObjOk X.prog X.w H2 s2.heap p (.frz o (.tup (ns.map V.int))) from I2.hok p _ ep2)
  obtain ⟨cls, dd, data, sl⟩ := o2
  simp only at k2 k3
  subst k2 k3
  have hl : its2.toArray.size = ns.length := by rw [List.size_toArray, ← r.length, List.length_map]
  have hjl : j < its2.toArray.size := by rw [hl]; exact (List.getElem?_eq_some_iff.mp hj).1
  have at' : ∀ (m : Nat) (hm : m < its2.toArray.size), ∃ y t', ns[m]? = some y ∧ its2.toArray[m] = Value.int y t' := fun m hm => by
    have hm' : m < ns.length := by rw [← hl]; exact hm
    obtain ⟨w, hw, t', hw'⟩ := r.get (i := m) (x := .int ns[m]) (by simp [hm'])
    refine ⟨ns[m], t', List.getElem?_eq_getElem hm', ?_⟩
    have e := (List.getElem?_eq_some_iff.mp hw).2
    rw [← hw', ← e]
    simp
  refine call_meets PySem.F.slot_tuple_index ⟨_, k1, rfl⟩ PySem.F.entry_tuple_index (PySem.F.args_tuple_index_2 _ _) (TI.tuple_indexAt p its2.toArray n2 dd sl (.int mm t) (eqU (.int mm)) j hjl ?_ ?_)
    ⟨k1, fun w hw => mem_eqAt (x := .int mm) ⟨t, rfl⟩ rfl r (flat_ints ns) w (by simpa using hw), ⟨.int (j : Nat), H2, I2.tok _, ⟨_, rfl⟩, q2⟩⟩
  · obtain ⟨y, t', h1, h2⟩ := at' j hjl
    rw [hj] at h1
    cases h1
    rw [h2]
    show (mm == mm) = true
    exact beq_self_eq_true mm
  · intro i hm hmj
    obtain ⟨y, t', h1, h2⟩ := at' i hm
    rw [h2]
    show (y == mm) = false
    exact beq_eq_false_iff_ne.mpr fun e => hno i hmj (e ▸ h1)
/-- min(t), t a tuple of ints -/
def rMinT (K : PySem.W.Frag) : List V → Hp → VK → Prop := fun vs H Q => ∃ (a : Addr) (n : Int) (ns : List Int), vs = [V.ref a] ∧ SqT K H a ((n :: ns).map V.int) ∧ Q (.int (ns.foldl min n)) H
theorem cr_minT (hc : X.calm = true) (hu : X.A.units + 2 < cLine) : CallR X (.builtin "min") (rMinT X.K) := by
  intro pins s σ H vs us Q I r h
  obtain ⟨a, n, ns, rfl, hs, q⟩ := h
  obtain ⟨its, rv, ht, _⟩ := I.tuple hs
  rw [Vals.ref1 r]
  obtain ⟨as, rd⟩ : ∃ as, ReadsAll s.heap its ((n :: ns).map PyData.int) as := by
    have all : ∀ (l : List Int) (us : List Value), Vals (l.map V.int) us → ∃ as, ReadsAll s.heap us (l.map PyData.int) as := by
      intro l
      induction l with
      | nil => intro us r; cases r; exact ⟨[], .nil⟩
      | cons m l ih =>
        intro us r
        cases r with
        | cons r1 r2 =>
          obtain ⟨t, rfl⟩ := r1
          obtain ⟨as, h⟩ := ih _ r2
          exact ⟨_, .cons (.int m t) h⟩
    exact all _ _ rv
  have hdep : PyData.depthAll (PyData.int n :: ns.map PyData.int) = 0 := PySem.W.depth_ints (n :: ns)
  refine PySem.W.min_tuple_data (x := .int n) (xs := ns.map .int) (I.ok.hd hc) ht rd ?_ (by rw [hdep]; omega) fun i v h' tk bs _ rd' hk => ?_
  · have inn : ∀ x ∈ (PyData.int n :: ns.map PyData.int), ∃ i, x = .int i := fun x hx => by
      rcases List.mem_cons.mp hx with e | hx
      · exact ⟨n, e⟩
      · obtain ⟨i, _, rfl⟩ := List.mem_map.mp hx
        exact ⟨i, rfl⟩
    refine ⟨fun x hx y hy => ?_, fun x hx => ?_⟩
    · obtain ⟨i, rfl⟩ := inn x hx
      obtain ⟨j, rfl⟩ := inn y hy
      rfl
    · obtain ⟨i, rfl⟩ := inn x hx
      exact fun z => by cases z
  · rw [PySem.W.minD_ints] at rd'
    cases rd' with
    | int m t => exact ⟨.int _, H, I.kept hk, ⟨t, rfl⟩, q⟩
end
end Ex6
set_option maxRecDepth 100000
set_option maxHeartbeats 4000000
/-! Ext7: defs run where no guard is up: what repr asks for. -/
namespace Ex7
open PySem PySem.Spec PyProof.Rows L2
open L2 (Inv RelV St)
/-- a def that keeps its promise where no guard is up -/
structure FnOkG (P : Program) (w : World) (K : PySem.W.Frag) (mg : Str → Option Value) (base : Heap) (CX : CXT) (k : Nat) (f : Addr) (fd : FuncData) (ps : List Str) (sp : Sp) : Prop where
  len : ∀ vs H Q E, sp vs H Q E → vs.length = ps.length
  run : ∀ (A : Around) (outer : List Env) (s : Shared) (H : Hp) (args : Args) (us : List Value) (vs : List V) (Q : VK) (E : XK), Room k A → A.guards = some [] → Env0 P w K mg base A outer s H → BindsTo s fd args (ps.zip us) → Vals vs us → sp vs H Q E →
    codeAny (model P w) A (.call (.ref f) args) (CR CX outer P w H s Q E) s
theorem fn_ofG {CX : CXT} {P : Program} {w : World} {K : PySem.W.Frag} {mg : Str → Option Value} {base : Heap} {k : Nat} {f : Addr} {name qual : Str} {params : Arguments} {body : List Stmt} {scope : Scope} {dV kV doc pm cdv ct oc : Value} {an od : Option Addr}
    {osl : Array (Option Value)} {N ps : List Str} {sp : Sp} (lk : K.lookup f = some ⟨oc, od, .func (PySem.W.fnOf name qual params body scope dV kV doc pm an cdv ct), osl⟩) (hcd : PySem.W.codeIn K cdv qual = true) (S : FnScope N ps scope)
    (len : ∀ vs H Q E, sp vs H Q E → vs.length = ps.length)
    (hbody : ∀ (A : Around) (outer : List Env) (s : Shared) (H : Hp) (vs : List V) (Q : VK) (E : XK), (A.deeper (envOfC qual scope s.heap.objs.size f cdv)).guards = some [] → Room k (A.deeper (envOfC qual scope s.heap.objs.size f cdv)) → sp vs H Q E →
      ∃ t, PSs (cxOf CX P w K mg base N qual scope f cdv A outer s H E) body t ∧ t { nx := fun _ H' => Q .non H', rt := Q } (start N vs) H) :
    FnOkG P w K mg base CX (k + 1) f (PySem.W.fnOf name qual params body scope dV kV doc pm an cdv ct) ps sp := by
  refine ⟨len, fun A outer s H args us vs Q E hr hG e0 hb r hsp => ?_⟩
  have hl := len _ _ _ _ hsp
  have KX : K.In s.heap := e0.mod.kin.keeps fun b o e => (e0.bs b o e).1
  have lim : s.heap.NoLimit := e0.mod.nolimit.keeps fun b o e => (e0.bs b o e).1
  have hkind : ∀ y ∈ ps.zip us, scope.names.lookup y.1 = some .local ∨ (scope.names.lookup y.1 = some .cell ∧ ((cellsFrom (s.heap.objs.size + 1) scope.names []).lookup y.1).isSome = true) := fun ⟨n, v⟩ hy => by
    rcases S.par n (List.of_mem_zip hy).1 with q | q
    · exact .inl q
    · exact .inr ⟨q, PySem.W.cellsFrom_some _ _ _ (.inl q)⟩
  refine codeAny_call_function hr.depth (KX _ _ lk) rfl S.co S.gen rfl (PySem.W.codeRec_of KX hcd) (hb _ _ _ _ ?_)
  refine wpAny_newFunctionEnv_cells S.kind hkind fun env he s1 x => ?_
  subst he
  refine ⟨lim.keeps x.toInCall.keep, codeAny_func ?_⟩
  obtain ⟨t, ht, hq⟩ := hbody A outer s H vs Q E hG (hr.deeper _) hsp
  have I : L2.Inv (cxOf CX P w K mg base N qual scope f cdv A outer s H E) [] (start N vs) H s1 := inv_start S hr.hd e0 hl r x
  refine wpAny_mono (ht.run [] s1 (start N vs) H _ I hq) (fun fl s' hs => ?_) fun e s' hs => hs
  have fin : ∀ {σ' : L2.St} {H' : Hp} {v : V} {u : Value}, L2.Inv (cxOf CX P w K mg base N qual scope f cdv A outer s H E) [] σ' H' s' → L2.RelV v u → Q v H' → CE outer P w H s Q u s' :=
    fun {σ' H' v u} J rv q => ⟨v, H', J.os, J.bare, J.base, J.hok, rv, q⟩
  cases fl with
  | ret u =>
    obtain ⟨v, σ', H', J, rv, q⟩ := hs
    exact fin J rv q
  | next =>
    obtain ⟨σ', H', J, q⟩ := hs
    exact fin (v := V.non) (u := Value.none) J rfl q
  | brk =>
    obtain ⟨_, _, _, q⟩ := hs
    exact False.elim q
  | cont =>
    obtain ⟨_, _, _, q⟩ := hs
    exact False.elim q

section
variable {P : Program} {w : World} {K : PySem.W.Frag} {mg : Str → Option Value} {base : Heap}
theorem okXG {x qual : Str} {st : Stmt} {f : Addr} {fd : FuncData} {N ps : List Str} {k : Nat} {sp : Sp} (F : Fun K x qual st f fd) (S : FnScope N ps (defScope st)) (len : ∀ vs H Q E, sp vs H Q E → vs.length = ps.length)
    (hbody : ∀ (cdv : Value) (A : Around) (outer : List Env) (s : Shared) (H : Hp) (vs : List V) (Q : VK) (E : XK), (A.deeper (envOfC qual (defScope st) s.heap.objs.size f cdv)).guards = some [] → Room k (A.deeper (envOfC qual (defScope st) s.heap.objs.size f cdv)) → sp vs H Q E →
      ∃ t, PSs (cxOf (L2.CX P w) P w K mg base N qual (defScope st) f cdv A outer s H E) (defBody st) t ∧ t { nx := fun _ H' => Q .non H', rt := Q } (start N vs) H) : FnOkG P w K mg base (L2.CX P w) (k + 1) f fd ps sp := by
  obtain ⟨oc, od, kV, doc, pm, an, cdv, ct, osl, rfl, lk, hcd⟩ := F.ex
  exact fn_ofG lk hcd S len fun A outer s H vs Q E hg hr hsp => hbody cdv A outer s H vs Q E hg hr hsp
end
section
variable {X : Cx} {CX : CXT} {k : Nat} {f : Addr} {fd : FuncData} {ps : List Str} {sp : Sp} {E : XK} {x : Str} {p pos : Pos} {e : Expr} {es : List Expr} {t : TA}
theorem pe_callG (F : FnOkG X.prog X.w X.K X.mg X.base CX k f fd ps sp) (hr : Room k X.A) (hG : X.A.guards = some []) (hg : Gl X x) (hm : X.mg x = some (.ref f)) (hk : PySem.W.keepIn X.K (.ref f) = true) (hb : Binds X.K fd ps []) (hx : Passes CX X E)
    (ha : PA X (e :: es) t) (hdb : (x == ("__debug__" : Str)) = false := by decide) (he : starEach (e :: es) X.env = (false, eval e X.env) :: starEach es X.env := by rfl) (hpl : (backTo pos (starEach es X.env)).any (·.1) = false := by rfl) :
    PE X (.Call (.Name x p) (e :: es) [] pos) (tCall sp [] E t) := by
  refine ⟨fun pins s σ H Q I h => ?_⟩
  refine wpAny_Call_Name_kw (ld_glob I hg hm ?_ hdb)
  refine PySem.W.callWith_K (h₀ := X.base) I.ok.mod.kin hk (thn (ha.run pos pins s σ H _ I h) fun us s1 ⟨vs, H1, I1, r, q⟩ => ⟨I1.kIn, ?_⟩) he hpl
  have q' : sp (vs ++ []) H1 Q E := q
  rw [List.append_nil] at q'
  have hl : us.length = ps.length := by rw [← r.length]; exact F.len _ _ _ _ q'
  have b := hb s1 us I1.kIn (by rw [List.append_nil]; exact hl)
  rw [List.append_nil] at b
  refine wpAny_call (codeAny_mono (F.run X.A X.stack s1 H1 ⟨us, []⟩ us vs Q E hr hG I1.env0 b r q') fun r s' hq => ?_)
  cases r with
  | error e => exact hx pins σ H1 s1 e s' I1 hq
  | ok fl =>
    cases fl with
    | ret u => exact I1.after hq
    | next => exact False.elim hq
    | brk => exact False.elim hq
    | cont => exact False.elim hq
end
theorem law_callG {P : Program} {w : World} {K : PySem.W.Frag} {mg mb : Str → Option Value} {CX : CXT} {k : Nat} {fa a : Addr} {fd : FuncData} {x : Str} {sp : Sp} {s₁ : Shared} {vs : List Value} {ns : List Int}
    (KX : K.In s₁.heap) (hns : s₁.heap.Ns mainGlobals mg) (hb : s₁.heap.Ns builtinsNs mb) (hbb : ∀ x : Str, x ≠ "__name__" → mb x = bootBuiltins x) (hlim : s₁.heap.NoLimit) (hg : s₁.gens = #[])
    (ha : s₁.heap.get? a = some { cls := .type "list", data := .seq vs.toArray }) (hi : IntsAre vs ns) (hl : ns.length ≤ sizeLine) (hr : Room k callerA)
    (F : ∀ base : Heap, K.In base → base.Ns mainGlobals mg → FnOkG P w K mg base CX k fa fd [x] sp) (hbind : ∀ (s : Shared) (u : Value), BindsTo s fd ⟨[u], []⟩ [(x, u)])
    (hsp : ∀ H : Hp, Only H → SqL K H a (ns.map V.int) → sp [.ref a] H (fun v _ => v = .bl true) fun _ _ _ => False)
    (hCX : ∀ H e s', CX [] H s₁ (fun _ _ _ => False) e s' → False) :
    codeAny (model P w) callerA (.call (.ref fa) ⟨[.ref a], []⟩) (fun r s' => r = .ok (.ret (.bool true)) ∧ OldK s₁.heap s'.heap ∧ s'.os = s₁.os ∧ AllBare s'.gens) s₁ := by
  have rv := vals_ints hi
  have lenV := hi.length
  -- from an abstract heap in which nothing but the script may be tracked
  have core : ∀ H : Hp, Only H → SqL K H a (ns.map V.int) → HOk P w H s₁.heap → (∀ b, H b ≠ none → b = a) → (H a ≠ none → K.lookup a = none) →
      codeAny (model P w) callerA (.call (.ref fa) ⟨[.ref a], []⟩) (fun r s' => r = .ok (.ret (.bool true)) ∧ OldK s₁.heap s'.heap ∧ s'.os = s₁.os ∧ AllBare s'.gens) s₁ := by
    intro H hO hS hok hA hK
    have base_of : ∀ {b : Addr} {o : Obj}, s₁.heap.get? b = some o → H b = none → (hidT s₁.heap H).get? b = some o := fun e n => hidT_get e n
    have noA : ∀ {b : Addr} {o : Obj} {es : Array DictEntry} {ep : Nat}, s₁.heap.get? b = some o → o.data = .dict es ep → H b = none := fun {b o es ep} e d => by
      cases q : H b with
      | none => rfl
      | some u =>
        have e' : b = a := hA b (by rw [q]; simp)
        subst e'
        rw [ha] at e; cases e
        have d' : Data.seq vs.toArray _ = Data.dict es ep := d
        cases d'
    have nsK : ∀ {b : Addr} {m : Str → Option Value}, s₁.heap.Ns b m → (hidT s₁.heap H).Ns b m := fun {b m} ⟨o, es, ep, e, d, r⟩ => ⟨o, es, ep, base_of e (noA e d), d, r⟩
    have hKb : K.In (hidT s₁.heap H) := fun b o e => base_of (KX b o e) (by
      cases q : H b with
      | none => rfl
      | some u =>
        have e' : b = a := hA b (by rw [q]; simp)
        subst e'
        rw [hK (by rw [q]; simp)] at e; cases e)
    have hM : Mod K mg (hidT s₁.heap H) := ⟨hKb, nsK hns, ⟨mb, nsK hb, hbb⟩, let ⟨mc, h1, h2⟩ := hlim; ⟨mc, nsK h1, h2⟩⟩
    have e0 : Env0 P w K mg (hidT s₁.heap H) callerA [] s₁ H := ⟨rfl, hM, fun b o e => of_hidT e, Nat.le_of_eq (hidT_size _ _), trivial, fun b hb => absurd (show b ∈ ([] : List Addr) from hb) (by simp), hok, .of_eq hg⟩
    refine codeAny_mono ((F _ hKb (nsK hns)).run callerA [] s₁ H ⟨[.ref a], []⟩ [.ref a] [.ref a] _ _ hr rfl e0 (hbind s₁ (.ref a)) (.cons rfl .nil) (hsp H hO hS)) fun r s' h => ?_
    cases r with
    | error e => exact (hCX H e s' h).elim
    | ok fl =>
      cases fl with
      | next => exact False.elim h
      | brk => exact False.elim h
      | cont => exact False.elim h
      | ret u =>
        obtain ⟨v, H', os, bare, un, hok', r', q⟩ := h
        have q' : v = .bl true := q
        subst q'
        obtain rfl : u = Value.bool true := r'
        refine ⟨rfl, OldK.of_keep fun b o e => ?_, os, bare⟩
        cases q : H b with
        | none => exact un.keep b o e q (by intro z; exact absurd (show b ∈ ([] : List Addr) from z) (by simp)) (by simp)
        | some u =>
          rcases hO b with z | ⟨ob, xs, z⟩
          · rw [q] at z; cases z
          · have z2 := un.frzs b ob _ z
            obtain ⟨e1, _⟩ := hok b _ z
            obtain ⟨e2, _⟩ := hok' b _ z2
            rw [e] at e1; cases e1
            exact e2
  cases hk : K.lookup a with
  | some o =>
    -- the script is one of the module's own objects
    have e := KX a o hk
    rw [ha] at e
    cases e
    refine core (fun _ => none) (fun _ => .inl rfl) (.inr ⟨_, vs.toArray, _, hk, rfl, rfl, rfl, by rw [List.size_toArray, lenV]; exact hl, by simpa using rv⟩) (fun b u z => by have z' : (none : Option HO) = some u := z; cases z') (fun b z => absurd rfl z) fun z => absurd rfl z
  | none =>
    refine core (fun b => if b = a then some (.frz { cls := .type "list", data := .seq vs.toArray } (.lst (ns.map V.int))) else none) (fun b => ?_) (.inl (.inr ⟨{ cls := .type "list", data := .seq vs.toArray }, if_pos rfl⟩)) (fun b u z => ?_) (fun b z => ?_) fun _ => hk
    · by_cases hb : b = a
      · exact .inr ⟨_, _, if_pos hb⟩
      · exact .inl (if_neg hb)
    · by_cases hb : b = a
      · have z' := (if_pos hb).symm.trans z
        cases z'
        subst hb
        exact ⟨ha, by rw [List.length_map]; exact hl, vs, _, rv, ha⟩
      · have z' := (if_neg hb).symm.trans z
        cases z'
    · by_cases hb : b = a
      · exact hb
      · exact absurd (if_neg hb) z
theorem walk_ofBG {l : PySem.W.OpenLaw} {n k : Nat} {q : Program} {loose : List Str} {XP : (Str → Option Value) → Heap → Prop} {YP : World → Heap → Prop} {d : DefRec} {K : Params → PySem.W.Frag} {CX : World → CXT} {sp : World → Sp} {x : Str}
    (hn : l.most = some n) (hn2 : n ≤ sizeLine) (hdf : d.params.defaults = []) (hr : Room k callerA)
    (hY : ∀ (w : World) (h : Heap), YP w h → (K w.params).In h)
    (F : ∀ (w : World) (mg : Str → Option Value) (fa : Addr) (h : Heap), (K w.params).In h → h.Ns mainGlobals mg → mg d.name = some (.ref fa) →
      ∃ fd : FuncData, (∀ (s : Shared) (u : Value), BindsTo s fd ⟨[u], []⟩ [(x, u)]) ∧
        ∀ base : Heap, (K w.params).In base → base.Ns mainGlobals mg → FnOkG l.prog w (K w.params) mg base (CX w) k fa fd [x] (sp w))
    (hsp : ∀ (w : World) (H : Hp) (a : Addr) (ns : List Int), ns.length ≤ n → (∀ z ∈ ns, Builtin.Int.intBits z ≤ 1048576) → Only H → SqL (K w.params) H a (ns.map V.int) → sp w [.ref a] H (fun v _ => v = .bl true) fun _ _ _ => False)
    (hCX : ∀ (w : World) (H : Hp) (s : Shared) (e : Value) (s' : Shared), CX w [] H s (fun _ _ _ => False) e s' → False) :
    PySem.W.WalkO q loose XP YP l.row.toRowW d [] (fun f vs => PySem.call f vs) := by
  refine Att.attach_callB hn hdf fun w s₀ s₁ mg mb fa o pm cd doc a vs ns G Y ho hd hcd hmg hobj hints hlen hbits hg => ?_
  have KX := hY w _ Y
  obtain ⟨fd, hb, hF⟩ := F w mg fa _ KX G.T.g hmg
  exact law_callG KX G.T.g G.T.b G.T.builtins G.T.nolimit hg hobj hints (Nat.le_trans hlen hn2) hr hF hb (fun H hO hS => hsp w H a ns hlen hbits hO hS) fun H e s' => hCX w H s₁ e s'
end Ex7
set_option maxRecDepth 100000
set_option maxHeartbeats 2000000
/-! Dv8: promises with exceptions, further readings by data. -/
namespace Dv
open PySem PySem.Spec L2
/-- a promise with exceptions: for data of which Pre holds, a datum of which R holds, or an exception of which X holds -/
def spE (K : PySem.W.Frag) (Pre : List PyData → Prop) (R : List PyData → PyData → Prop) (X : List PyData → Value → Option Addr → Hp → Hp → Prop) : Sp := fun vs H Q E => ∃ (F : Hp) (ds : List PyData), Same F H ∧ DpAll K F vs ds ∧ Pre ds ∧
  (∀ v F' H' d, R ds d → Gr F H F' H' → Dp K F' v d → Q v H') ∧ ∀ cls d F' H', X ds cls d F' H' → Gr F H F' H' → E cls d H'
/-- .. of which no exception comes -/
def spE0 (sp : Sp) : Sp := fun vs H Q _ => sp vs H Q fun _ _ _ => False
/-- a promise of a value by a property -/
def spP (K : PySem.W.Frag) (R : List PyData → (V → Hp → Hp → Prop) → Prop) : Sp := fun vs H Q _ => ∃ (F : Hp) (ds : List PyData) (P : V → Hp → Hp → Prop), Same F H ∧ DpAll K F vs ds ∧ R ds P ∧ ∀ v F' H', Gr F H F' H' → P v F' H' → Q v H'
section
variable {K : PySem.W.Frag} {σ : St} {F F' H H' H0 F0 : Hp} {te ta tb tx : TE} {tt tu : TT} {tr : TA} {d e : PyData} {ds : List PyData} {v : V} {b c : Bool} {i j : Int} {r : R2} {p q : Addr} {o : HO} {n : Nat} {E : XK} {D : Ends}
theorem spE_len {Pre : List PyData → Prop} {R : List PyData → PyData → Prop} {X : List PyData → Value → Option Addr → Hp → Hp → Prop} {ps : List Str} (h : ∀ ds, Pre ds → ds.length = ps.length) : ∀ vs H Q E, spE K Pre R X vs H Q E → vs.length = ps.length := fun vs H Q E ⟨F, ds, _, a, r, _⟩ => by rw [a.len]; exact h ds r
theorem spP_len {R : List PyData → (V → Hp → Hp → Prop) → Prop} {ps : List Str} (h : ∀ ds P, R ds P → ds.length = ps.length) : ∀ vs H Q E, spP K R vs H Q E → vs.length = ps.length := fun vs H Q E ⟨F, ds, P, _, a, r, _⟩ => by rw [a.len]; exact h ds P r
theorem evp_callP {R : List PyData → (V → Hp → Hp → Prop) → Prop} {P : V → Hp → Hp → Prop} (h : EvA K tr σ F H ds) (hr : R ds P) : EvP (tCall (spP K R) [] E tr) σ F H P :=
  fun F1 H1 x y z Q q => h F1 H1 x y z _ fun vs F2 H2 g2 p2 => by
    show spP K R (vs ++ []) H2 Q E
    rw [List.append_nil]
    exact ⟨F2, ds, P, g2.fh, p2, hr, fun v F3 H3 g3 p3 => q v F3 H3 (g2.trans g3) p3⟩
theorem evp_callE0 {Pre : List PyData → Prop} {R : List PyData → PyData → Prop} {X : List PyData → Value → Option Addr → Hp → Hp → Prop} (h : EvA K tr σ F H ds) (hp : Pre ds) (hx : ∀ cls d F' H', ¬ X ds cls d F' H') :
    EvP (tCall (spE0 (spE K Pre R X)) [] E tr) σ F H (fun v F2 _ => ∃ d, R ds d ∧ Dp K F2 v d) :=
  fun F1 H1 x y z Q q => h F1 H1 x y z _ fun vs F2 H2 g2 p2 => by
    show spE K Pre R X (vs ++ []) H2 Q _
    rw [List.append_nil]
    exact ⟨F2, ds, g2.fh, p2, hp, fun v F3 H3 d hr g3 p3 => q v F3 H3 (g2.trans g3) ⟨d, hr, p3⟩, fun cls d F3 H3 hX _ => (hx cls d F3 H3 hX).elim⟩
theorem evd_callE0 {Pre : List PyData → Prop} {R : List PyData → PyData → Prop} {X : List PyData → Value → Option Addr → Hp → Hp → Prop} (h : EvA K tr σ F H ds) (hp : Pre ds) (hx : ∀ cls d F' H', ¬ X ds cls d F' H') (hu : ∀ e, R ds e → e = d) :
    EvD K (tCall (spE0 (spE K Pre R X)) [] E tr) σ F H d := (evp_callE0 h hp hx).imp fun v F2 _ ⟨e, hr, he⟩ => by rw [← hu e hr]; exact he
/-- a call as a statement, in a def that lets its exceptions out -/
theorem st_callE {Pre : List PyData → Prop} {R : List PyData → PyData → Prop} {X : List PyData → Value → Option Addr → Hp → Hp → Prop} (z : Same F H) (h : EvA K tr σ F H ds) (hp : Pre ds)
    (hn : ∀ d F1 H1, R ds d → Gr F H F1 H1 → D.nx σ H1) (hx : ∀ cls d F1 H1, X ds cls d F1 H1 → Gr F H F1 H1 → E cls d H1) : tDrop (tCall (spE K Pre R X) [] E tr) D σ H :=
  h F H (Same.refl _) (Same.refl _) z _ fun vs F2 H2 g2 p2 => by
    show spE K Pre R X (vs ++ []) H2 _ E
    rw [List.append_nil]
    exact ⟨F2, ds, g2.fh, p2, hp, fun v F3 H3 d hr g3 _ => hn d F3 H3 hr (g2.trans g3), fun cls d F3 H3 hX g3 => hx cls d F3 H3 hX (g2.trans g3)⟩
/-- the target of a pair of data, stored -/
theorem st_asg2 {n m : Nat} {d1 d2 : PyData} (z : Same F H) (h : EvD K te σ F H (.tuple [d1, d2])) (k : ∀ x y F1 H1, Gr F H F1 H1 → Dp K F1 x d1 → Dp K F1 y d2 → D.nx ((σ.set n (some x)).set m (some y)) H1) :
    tAsg te (gTup K 2 (gCons (gName n) (gCons (gName m) gNil))) D σ H :=
  h F H (Same.refl _) (Same.refl _) z _ fun v F1 H1 g hv => tgd_two (σ := σ) (F := F1) (H := H1) F1 H1 v (Same.refl _) (Same.refl _) g.fh hv _ fun σ2 ⟨x, y, e, hx, hy⟩ => by
    rw [e]
    exact k x y F1 H1 g hx hy
/-- list + list, both new lists -/
theorem evp_own_cat {ds es : List PyData} (ha : EvP ta σ F H (OwnL K ds)) (hb : EvP tb σ F H (OwnL K es)) (hl : ds.length + es.length ≤ 100000) : EvD K (tOp rCat ta tb) σ F H (.list (ds ++ es)) :=
  evp_op ha hb (fun _ _ _ _ _ p g => p.up g) fun x y F1 H1 _ _ z p1 p2 Q q => by
    obtain ⟨a, xs, rfl, _, h1, h2⟩ := p1
    obtain ⟨a', ys, rfl, _, h3, h4⟩ := p2
    refine ⟨a, a', xs, ys, rfl, rfl, h1, h3, ?_, fun p hp => q _ (upd F1 p (.lst (xs ++ ys))) _ (.new z hp) (.lst (SqL.of upd_same) ((h2.app h4).up (same_upd (z.free hp))))⟩
    rw [h2.len, h4.len]
    exact Nat.le_trans hl (by decide)
/-- a list of data that stands in the heap as a plain list: to be an operand of + -/
def PlnL (K : PySem.W.Frag) (ds : List PyData) : V → Hp → Hp → Prop := fun v F H => ∃ p xs, v = .ref p ∧ H p = some (.lst xs) ∧ DpAll K F xs ds
theorem PlnL.up {F1 H1 F2 H2 : Hp} (h : PlnL K ds v F1 H1) (g : Gr F1 H1 F2 H2) : PlnL K ds v F2 H2 := let ⟨p, xs, a, b, c⟩ := h; ⟨p, xs, a, g.h _ _ b, c.up g.f⟩
theorem evp_cat {ds es : List PyData} (ha : EvP ta σ F H (PlnL K ds)) (hb : EvP tb σ F H (PlnL K es)) (hl : ds.length + es.length ≤ 100000) : EvP (tOp rCat ta tb) σ F H (fun v F2 H2 => PlnL K (ds ++ es) v F2 H2 ∧ Dp K F2 v (.list (ds ++ es))) :=
  evp_op ha hb (fun _ _ _ _ _ p g => p.up g) fun x y F1 H1 _ _ z p1 p2 Q q => by
    obtain ⟨a, xs, rfl, h1, h2⟩ := p1
    obtain ⟨a', ys, rfl, h3, h4⟩ := p2
    refine ⟨a, a', xs, ys, rfl, rfl, h1, h3, ?_, fun p hp => ?_⟩
    · rw [h2.len, h4.len]
      exact Nat.le_trans hl (by decide)
    · have hd : DpAll K (upd F1 p (.lst (xs ++ ys))) (xs ++ ys) (ds ++ es) := (h2.app h4).up (same_upd (z.free hp))
      exact q _ (upd F1 p (.lst (xs ++ ys))) _ (.new z hp) ⟨⟨p, _, rfl, upd_same, hd⟩, .lst (SqL.of upd_same) hd⟩
theorem evp_lstP (h : EvA K tr σ F H ds) (hl : ds.length ≤ 100000 := by decide) : EvP (tLst tr) σ F H (fun v F2 H2 => PlnL K ds v F2 H2 ∧ Dp K F2 v (.list ds)) :=
  fun F1 H1 x y z Q q => h F1 H1 x y z _ fun vs F2 H2 g2 p2 => ⟨Nat.le_trans (by rw [p2.len]; exact hl) (by decide), fun p hp => by
    have hd : DpAll K (upd F2 p (.lst vs)) vs ds := p2.up (same_upd (g2.fh.free hp))
    exact q _ (upd F2 p (.lst vs)) _ (g2.trans (.new g2.fh hp)) ⟨⟨p, vs, rfl, upd_same, hd⟩, .lst (SqL.of upd_same) hd⟩⟩
theorem evp_var {P : V → Hp → Hp → Prop} (h : σ[n]? = some (some v)) (hp : ∀ F1 H1, Same F F1 → Same H H1 → Same F1 H1 → P v F1 H1) : EvP (tVar n) σ F H P := fun F1 H1 x y z Q q => ⟨v, h, q v F1 H1 (.refl z) (hp F1 H1 x y z)⟩
end
end Dv
set_option maxRecDepth 100000
set_option maxHeartbeats 2000000
/-! Dv9: slices, sums and products of sequences, index, min, sorted, by data. -/
namespace Dv
open PySem PySem.Spec L2
def EvO (to : TO) (σ : St) (F H : Hp) (o : Option Int) : Prop := ∀ F1 H1, Same F F1 → Same H H1 → Same F1 H1 → ∀ Q : Option Int → Hp → Prop, (∀ F2 H2, Gr F1 H1 F2 H2 → Q o H2) → to σ H1 Q
def cutD {α : Type} (ds : List α) (lo hi : Option Int) : List α := (ds.drop (HT.sIx ds.length 0 lo)).take (HT.sIx ds.length ds.length hi - HT.sIx ds.length 0 lo)
section
variable {K : PySem.W.Frag} {σ : St} {F F' H H' H0 F0 : Hp} {te ta tb tx : TE} {tt tu : TT} {tr : TA} {d e : PyData} {ds es : List PyData} {v : V} {b c : Bool} {i j : Int} {r : R2} {p q : Addr} {o : Obj} {n : Nat} {tl th : TO} {lo hi : Option Int}
theorem evo_none : EvO tNoPart σ F H none := fun F1 H1 _ _ z Q q => q F1 H1 (.refl z)
theorem evo_some (h : EvD K te σ F H (.int i)) : EvO (tPart te) σ F H (some i) := fun F1 H1 x y z Q q => h F1 H1 x y z _ fun v F2 H2 g p => ⟨i, p.int_inv, q F2 H2 g⟩
theorem DpAll_cut {xs : List V} (h : DpAll K F xs ds) : DpAll K F (cutV xs lo hi) (cutD ds lo hi) := by
  unfold cutV cutD
  rw [h.len]
  exact (h.drop _).take _
/-- t[lo:hi] -/
theorem evd_slT (h : EvD K te σ F H (.tuple ds)) (hl : EvO tl σ F H lo) (hh : EvO th σ F H hi) : EvD K (tSl (rSlA K) te tl th) σ F H (.tuple (cutD ds lo hi)) :=
  fun F1 H1 x y z Q q => h F1 H1 x y z _ fun v F2 H2 g2 p2 => hl F2 H2 (x.trans g2.f) (y.trans g2.h) g2.fh _ fun F3 H3 g3 => hh F3 H3 ((x.trans g2.f).trans g3.f) ((y.trans g2.h).trans g3.h) g3.fh _ fun F4 H4 g4 => by
    have p4 := p2.up (g3.trans g4).f
    have g := (g2.trans g3).trans g4
    obtain ⟨a, xs, rfl, hs, ha⟩ := p4.tup_inv
    refine ⟨a, xs, rfl, sqT_mono g.fh hs, fun hw => q _ F4 H4 g ?_, fun _ p hp => q _ (upd F4 p (.tup (cutV xs lo hi))) _ (g.trans (.new g.fh hp)) (.tup (SqT.of upd_same) ((DpAll_cut ha).up (same_upd (g.fh.free hp))))⟩
    have e : cutD ds lo hi = ds := by
      unfold cutD
      rw [← ha.len, hw.1, hw.2, List.drop_zero, Nat.sub_zero, ha.len, List.take_length]
    rw [e]
    exact p4
theorem evd_slL (h : EvD K te σ F H (.list ds)) (hl : EvO tl σ F H lo) (hh : EvO th σ F H hi) : EvD K (tSl (rSlL K) te tl th) σ F H (.list (cutD ds lo hi)) :=
  fun F1 H1 x y z Q q => h F1 H1 x y z _ fun v F2 H2 g2 p2 => hl F2 H2 (x.trans g2.f) (y.trans g2.h) g2.fh _ fun F3 H3 g3 => hh F3 H3 ((x.trans g2.f).trans g3.f) ((y.trans g2.h).trans g3.h) g3.fh _ fun F4 H4 g4 => by
    have p4 := p2.up (g3.trans g4).f
    have g := (g2.trans g3).trans g4
    obtain ⟨a, xs, rfl, hs, ha⟩ := p4.lst_inv
    exact ⟨a, xs, rfl, g.fh.seq hs, fun p hp => q _ (upd F4 p (.lst (cutV xs lo hi))) _ (g.trans (.new g.fh hp)) (.lst (SqL.of upd_same) ((DpAll_cut ha).up (same_upd (g.fh.free hp))))⟩
/-- t[lo:hi:-1] -/
theorem evd_revT (h : EvD K te σ F H (.tuple ds)) (hl : EvO tl σ F H lo) (hh : EvO th σ F H hi) (hz : (Ex5.idxT lo hi ds.length).length ≤ 100000) : EvD K (Ex5.tRevS K te tl th) σ F H (.tuple (Ex5.atAll (Ex5.idxT lo hi ds.length) ds)) :=
  fun F1 H1 x y z Q q => h F1 H1 x y z _ fun v F2 H2 g2 p2 => hl F2 H2 (x.trans g2.f) (y.trans g2.h) g2.fh _ fun F3 H3 g3 => hh F3 H3 ((x.trans g2.f).trans g3.f) ((y.trans g2.h).trans g3.h) g3.fh _ fun F4 H4 g4 => by
    have p4 := p2.up (g3.trans g4).f
    have g := (g2.trans g3).trans g4
    obtain ⟨a, xs, rfl, hs, ha⟩ := p4.tup_inv
    refine .inr ⟨a, xs, rfl, sqT_mono g.fh hs, by rw [ha.len]; exact Nat.le_trans hz (by decide), fun p hp => q _ (upd F4 p (.tup (Ex5.atAll (Ex5.idxT lo hi xs.length) xs))) _ (g.trans (.new g.fh hp)) (.tup (SqT.of upd_same) ?_)⟩
    rw [ha.len]
    exact (Ex5.dp_atAll ha _).up (same_upd (g.fh.free hp))
/-- l[lo:hi:-1], a new list -/
theorem evp_revL (h : EvP te σ F H (PlnL K ds)) (hl : EvO tl σ F H lo) (hh : EvO th σ F H hi) : EvP (Ex5.tRevS K te tl th) σ F H (fun v F2 H2 => PlnL K (Ex5.atAll (Ex5.idxL lo hi ds.length) ds) v F2 H2 ∧ Dp K F2 v (.list (Ex5.atAll (Ex5.idxL lo hi ds.length) ds))) :=
  fun F1 H1 x y z Q q => h F1 H1 x y z _ fun v F2 H2 g2 p2 => hl F2 H2 (x.trans g2.f) (y.trans g2.h) g2.fh _ fun F3 H3 g3 => hh F3 H3 ((x.trans g2.f).trans g3.f) ((y.trans g2.h).trans g3.h) g3.fh _ fun F4 H4 g4 => by
    have p4 := p2.up (g3.trans g4)
    have g := (g2.trans g3).trans g4
    obtain ⟨a, xs, rfl, hs, ha⟩ := p4
    refine .inl ⟨a, xs, rfl, SqL.of hs, fun p hp => ?_⟩
    rw [ha.len]
    have hd : DpAll K (upd F4 p (.lst (Ex5.atAll (Ex5.idxL lo hi ds.length) xs))) (Ex5.atAll (Ex5.idxL lo hi ds.length) xs) (Ex5.atAll (Ex5.idxL lo hi ds.length) ds) := (Ex5.dp_atAll ha _).up (same_upd (g.fh.free hp))
    exact q _ (upd F4 p (.lst (Ex5.atAll (Ex5.idxL lo hi ds.length) xs))) _ (g.trans (.new g.fh hp)) ⟨⟨p, _, rfl, upd_same, hd⟩, .lst (SqL.of upd_same) hd⟩
/-- t + u -/
theorem evd_catT (ha : EvD K ta σ F H (.tuple ds)) (hb : EvD K tb σ F H (.tuple es)) (hl : ds.length + es.length ≤ 100000) : EvD K (tOp (rCatA K) ta tb) σ F H (.tuple (ds ++ es)) :=
  evd_op ha hb fun x y F1 H1 _ _ z p1 p2 Q q => by
    obtain ⟨a, xs, rfl, hs, hx⟩ := p1.tup_inv
    obtain ⟨a', ys, rfl, hs', hy⟩ := p2.tup_inv
    refine ⟨a, a', xs, ys, rfl, rfl, sqT_mono z hs, sqT_mono z hs', by rw [hx.len, hy.len]; exact Nat.le_trans hl (by decide), fun e => ?_, fun _ e => ?_, fun _ _ p hp => q _ (upd F1 p (.tup (xs ++ ys))) _ (.new z hp) (.tup (SqT.of upd_same) ((hx.app hy).up (same_upd (z.free hp))))⟩
    · subst e
      cases hx
      exact q _ F1 H1 (.refl z) p2
    · subst e
      cases hy
      rw [List.append_nil] at q
      exact q _ F1 H1 (.refl z) p1
/-- (d,) * n -/
theorem evd_rep {n : Nat} (ha : EvD K ta σ F H (.tuple [d])) (hb : EvD K tb σ F H (.int (n : Nat))) (h1 : 1 ≤ n) (h2 : n ≤ 1000) : EvD K (tOp (Ex5.rRepA K) ta tb) σ F H (.tuple (List.replicate n d)) :=
  evd_op ha hb fun x y F1 H1 _ _ z p1 p2 Q q => by
    obtain ⟨a, xs, rfl, hs, hx⟩ := p1.tup_inv
    obtain ⟨v, rfl, hv⟩ := DpAll.one_inv hx
    refine ⟨a, n, [v], rfl, p2.int_inv, sqT_mono z hs, by simp, by omega, by omega, by simp, fun e => ?_, fun _ p hp => ?_⟩
    · have e' : n = 1 := by omega
      subst e'
      exact q _ F1 H1 (.refl z) p1
    · have e : (List.replicate ((n : Int).toNat) [v]).flatten = List.replicate n v := by
        rw [Int.toNat_natCast]
        induction n with
        | zero => rfl
        | succ n ih => simp [List.replicate_succ]
      rw [e]
      exact q _ (upd F1 p (.tup (List.replicate n v))) _ (.new z hp) (.tup (SqT.of upd_same) ((DpAll.repl hv n).up (same_upd (z.free hp))))
/-- t.index(m), t without a dict -/
theorem evd_tidx {ns : List Int} {m : Int} {j : Nat} (hp : F p = some (.frz o (.tup (ns.map V.int)))) (hd : o.dict = none) (ha : EvV ta σ F H (.ref p)) (hb : EvD K tb σ F H (.int m)) (hj : ns[j]? = some m) (hn : ∀ i, i < j → ns[i]? ≠ some m) : EvD K (Ex6.tTidx ta tb) σ F H (.int (j : Nat)) :=
  fun F1 H1 x y z Q q => ha F1 H1 x y z _ fun v F2 H2 g2 e => ⟨p, o, ns, e, g2.fh _ _ (g2.f _ _ (x _ _ hp)), hd, hb F2 H2 (x.trans g2.f) (y.trans g2.h) g2.fh _ fun u F3 H3 g3 p3 => ⟨m, j, p3.int_inv, g3.fh _ _ (g3.f _ _ (g2.f _ _ (x _ _ hp))), hj, hn, q _ F3 H3 (g2.trans g3) (.int _)⟩⟩
theorem evd_minT {n : Int} {ns : List Int} (h : EvD K te σ F H (.tuple ((n :: ns).map PyData.int))) : EvD K (tCB (Ex6.rMinT K) (tCons te tNil)) σ F H (.int (ns.foldl min n)) :=
  evd_cb (eva_one h) fun vs F1 H1 _ _ z p Q q => by
    obtain ⟨v, rfl, hv⟩ := DpAll.one_inv p
    obtain ⟨a, xs, rfl, hs, hx⟩ := hv.tup_inv
    obtain rfl := hx.ints_inv
    exact ⟨a, n, ns, rfl, sqT_mono z hs, q _ F1 H1 (.refl z) (.int _)⟩
theorem evd_minL {ns : List Int} (h : EvP te σ F H (PlnL K (ns.map PyData.int))) (h0 : 0 < ns.length) : EvP (tCB (rMin K) (tCons te tNil)) σ F H (fun v _ _ => ∃ m, v = .int m ∧ m ∈ ns) :=
  fun F1 H1 x y z Q q => h F1 H1 x y z _ fun v F2 H2 g2 ⟨p, xs, e, hp, hx⟩ => by
    obtain rfl := hx.ints_inv
    subst e
    exact ⟨p, ns, rfl, SqL.of hp, h0, fun m hm _ => q _ F2 H2 g2 ⟨m, rfl, hm⟩⟩
/-- sorted(ints), a new list -/
theorem evp_sortI {ns : List Int} (h : EvP te σ F H (PlnL K (ns.map PyData.int))) (h0 : ns.length < 64) : EvP (tCB (rSorted K) (tCons te tNil)) σ F H (fun v F2 H2 => ∃ ms : List Int, ms.Perm ns ∧ ms.Pairwise (· ≤ ·) ∧ PlnL K (ms.map PyData.int) v F2 H2 ∧ Dp K F2 v (.list (ms.map PyData.int))) :=
  fun F1 H1 x y z Q q => h F1 H1 x y z _ fun v F2 H2 g2 ⟨p, xs, e, hp, hx⟩ => by
    obtain rfl := hx.ints_inv
    subst e
    refine ⟨p, ns, rfl, SqL.of hp, h0, fun ms p hm1 hm2 hp => ?_⟩
    have hd : DpAll K (upd F2 p (.lst (ms.map V.int))) (ms.map V.int) (ms.map PyData.int) := DpAll.ints ms
    exact q _ (upd F2 p (.lst (ms.map V.int))) _ (g2.trans (.new g2.fh hp)) ⟨ms, hm1, hm2, ⟨p, _, rfl, upd_same, hd⟩, .lst (SqL.of upd_same) hd⟩
theorem evp_sortD {B : Nat} (h : EvD K te σ F H (.list ds)) (h1 : PySem.W.AllAlike ds) (h2 : PySem.W.Sortable ds) (h3 : ∀ d ∈ ds, d.depth ≤ B) : EvP (tCB (Ex5.rSortD K B) (tCons te tNil)) σ F H (fun v F2 H2 => ∃ es : List PyData, es.Perm ds ∧ Dp K F2 v (.list es)) :=
  evd_cb (eva_one h) fun vs F1 H1 _ _ z p Q q => by
    obtain ⟨v, rfl, hv⟩ := DpAll.one_inv p
    obtain ⟨a, xs, rfl, hs, hx⟩ := hv.lst_inv
    exact ⟨a, F1, ds, rfl, z, hv, h1, h2, h3, fun xs' ds' p hp hx' hn =>
      q _ (upd F1 p (.lst xs')) _ (.new z hn) ⟨ds', hp, .lst (SqL.of upd_same) (hx'.up (same_upd (z.free hn)))⟩⟩
/-- t[i], any i -/
theorem evd_ixTI (ha : EvD K ta σ F H (.tuple ds)) (hb : EvD K tb σ F H (.int i)) (hx : L2.atI ds i = some d) : EvD K (tOp (rIxT K) ta tb) σ F H d :=
  evd_op ha hb fun x y F1 H1 _ _ z p1 p2 Q q => by
    obtain ⟨a, xs, rfl, hs, ha⟩ := p1.tup_inv
    obtain ⟨v, h1, h2⟩ := DpAll_atI ha hx
    exact ⟨a, xs, i, v, rfl, p2.int_inv, sqT_mono z hs, h1, q v F1 H1 (.refl z) h2⟩
theorem first_at {m : Int} : ∀ {ns : List Int}, m ∈ ns → ∃ j : Nat, ns[j]? = some m ∧ ∀ i : Nat, i < j → ns[i]? ≠ some m
  | a :: l, hm => by
    by_cases h : a = m
    · exact ⟨0, by simp [h], fun i hi => absurd hi (Nat.not_lt_zero _)⟩
    · obtain ⟨j, h1, h2⟩ := first_at ((List.mem_cons.mp hm).resolve_left fun e => h e.symm)
      refine ⟨j + 1, by simpa using h1, fun i hi => ?_⟩
      cases i with
      | zero => simpa using h
      | succ i => simpa using h2 i (by omega)
/-- l.index(m), m in l -/
theorem evp_idxL {ns : List Int} (ha : EvP ta σ F H (PlnL K (ns.map PyData.int))) (hb : EvP tb σ F H (fun v _ _ => ∃ m, v = .int m ∧ m ∈ ns)) : EvP (tBM K "list" (rIndex K) ta (tCons tb tNil)) σ F H (fun v _ _ => ∃ j : Nat, v = .int (j : Nat) ∧ j < ns.length) :=
  fun F1 H1 x y z Q q => ha F1 H1 x y z _ fun v F2 H2 g2 ⟨p, xs, e, hp, hx⟩ => by
    obtain rfl := hx.ints_inv
    subst e
    refine ⟨.inl ⟨rfl, _, SqL.of hp⟩, hb F2 H2 (x.trans g2.f) (y.trans g2.h) g2.fh _ fun u F3 H3 g3 ⟨m, e, hm⟩ => ?_⟩
    subst e
    have ex := first_at hm
    obtain ⟨j, hj, hn⟩ := ex
    have hjl : j < ns.length := (List.getElem?_eq_some_iff.mp hj).1
    refine ⟨p, ns.map V.int, .int m, j, .int m, rfl, rfl, SqL.of (g3.h _ _ hp), rfl, flat_ints ns, by rw [List.getElem?_map, hj]; rfl, by show (m == m) = true; exact beq_self_eq_true m, fun k z' hk e => ?_, q _ F3 H3 (g2.trans g3) ⟨j, rfl, hjl⟩⟩
    rw [List.getElem?_map] at e
    cases hz : ns[k]? with
    | none => rw [hz] at e; cases e
    | some t =>
      rw [hz] at e
      cases e
      show (t == m) = false
      exact beq_eq_false_iff_ne.mpr fun e => hn k hk (by rw [hz, e])
end
end Dv
set_option maxRecDepth 100000
set_option maxHeartbeats 2000000
/-! Dv10: own lists as results and as parts; promises of one of several data. -/
namespace Dv
open PySem PySem.Spec L2
/-- for data of which Pre holds, some datum of which R holds -/
def spS (K : PySem.W.Frag) (Pre : List PyData → Prop) (R : List PyData → PyData → Prop) : Sp := fun vs H Q _ => ∃ (F : Hp) (ds : List PyData), Same F H ∧ DpAll K F vs ds ∧ Pre ds ∧ ∀ v F' H' d, R ds d → Gr F H F' H' → Dp K F' v d → Q v H'
/-- .. a new list of ours -/
def spL (K : PySem.W.Frag) (Pre : List PyData → Prop) (R : List PyData → List PyData → Prop) : Sp := fun vs H Q _ => ∃ (F : Hp) (ds : List PyData), Same F H ∧ DpAll K F vs ds ∧ Pre ds ∧ ∀ v F' H' es, R ds es → Gr F H F' H' → NewL K H es v F' H' → Q v H'
section
variable {K : PySem.W.Frag} {σ : St} {F F' H H' H0 F0 : Hp} {te ta tb tx : TE} {tt tu : TT} {tr : TA} {d e : PyData} {ds es : List PyData} {v : V} {b c : Bool} {i j : Int} {r : R2} {p q : Addr} {o : HO} {n m k : Nat} {E : XK} {D : Ends}
theorem spS_len {Pre : List PyData → Prop} {R : List PyData → PyData → Prop} {ps : List Str} (h : ∀ ds, Pre ds → ds.length = ps.length) : ∀ vs H Q E, spS K Pre R vs H Q E → vs.length = ps.length := fun vs H Q E ⟨F, ds, _, a, r, _⟩ => by rw [a.len]; exact h ds r
theorem spL_len {Pre : List PyData → Prop} {R : List PyData → List PyData → Prop} {ps : List Str} (h : ∀ ds, Pre ds → ds.length = ps.length) : ∀ vs H Q E, spL K Pre R vs H Q E → vs.length = ps.length := fun vs H Q E ⟨F, ds, _, a, r, _⟩ => by rw [a.len]; exact h ds r
theorem evp_callS {Pre : List PyData → Prop} {R : List PyData → PyData → Prop} (h : EvA K tr σ F H ds) (hp : Pre ds) : EvP (tCall (spS K Pre R) [] E tr) σ F H (fun v F2 _ => ∃ d, R ds d ∧ Dp K F2 v d) :=
  fun F1 H1 x y z Q q => h F1 H1 x y z _ fun vs F2 H2 g2 p2 => by
    show spS K Pre R (vs ++ []) H2 Q E
    rw [List.append_nil]
    exact ⟨F2, ds, g2.fh, p2, hp, fun v F3 H3 d hr g3 p3 => q v F3 H3 (g2.trans g3) ⟨d, hr, p3⟩⟩
theorem evp_callL {Pre : List PyData → Prop} {R : List PyData → List PyData → Prop} (h : EvA K tr σ F H ds) (hp : Pre ds) : EvP (tCall (spL K Pre R) [] E tr) σ F H (fun v F2 H2 => ∃ es, R ds es ∧ NewL K H es v F2 H2) :=
  fun F1 H1 x y z Q q => h F1 H1 x y z _ fun vs F2 H2 g2 p2 => by
    show spL K Pre R (vs ++ []) H2 Q E
    rw [List.append_nil]
    exact ⟨F2, ds, g2.fh, p2, hp, fun v F3 H3 es hr g3 ⟨p, e, hp⟩ => q v F3 H3 (g2.trans g3) ⟨es, hr, p, e, hp.base (y.trans g2.h)⟩⟩
/-- an own list becomes data -/
theorem Own.give (h : Own K H0 F H p ds) (g : Gr F0 H0 F H) : ∃ F', Gr F0 H0 F' H ∧ Same F F' ∧ Dp K F' (.ref p) (.list ds) := by
  obtain ⟨xs, a, b⟩ := h.at_
  refine ⟨upd F p (.lst xs), ⟨g.f.trans (same_upd h.out), g.h, fun c u e => ?_, fun c u e => ?_⟩, same_upd h.out, .lst (SqL.of upd_same) (b.up (same_upd h.out))⟩
  · by_cases hc : c = p
    · subst hc; rw [upd_same] at e; cases e; exact a
    · rw [upd_ne hc] at e; exact g.fh _ _ e
  · by_cases hc : c = p
    · subst hc; exact .inr h.nw
    · rw [upd_ne hc] at e; exact g.nw c u e
theorem Own.up2 (h : Own K H0 F H q es) (f : Same F F') (ho : F' q = none) : Own K H0 F' H q es := ⟨h.nw, ho, let ⟨xs, a, b⟩ := h.at_; ⟨xs, a, b.up f⟩⟩
theorem Own.pln (h : Own K H0 F H p ds) : PlnL K ds (.ref p) F H := let ⟨xs, a, b⟩ := h.at_; ⟨p, xs, rfl, a, b⟩
/-- a variable that holds a list of ours -/
theorem evp_own (h : Own K H0 F H p ds) (hs : σ[n]? = some (some (.ref p))) : EvP (tVar n) σ F H (PlnL K ds) := evp_var hs fun F1 H1 f hh z => let ⟨xs, a, b⟩ := h.at_; ⟨p, xs, rfl, hh _ _ a, b.up f⟩
theorem rep_flat (v : V) : ∀ n : Nat, (List.replicate n [v]).flatten = List.replicate n v
  | 0 => rfl
  | n + 1 => by rw [List.replicate_succ, List.flatten_cons, rep_flat v n, List.replicate_succ]; rfl
/-- [d] * n, a new list -/
theorem evp_rep {n : Nat} (ha : EvA K tr σ F H [d]) (hb : EvD K tb σ F H (.int (n : Nat))) (h1 : 1 ≤ n) (h2 : n ≤ 1000) : EvP (tOp rRep (tLst tr) tb) σ F H (NewL K H (List.replicate n d)) := by
  refine evp_op (P1 := OwnL K [d]) (evp_lst ha (by simp)) hb (fun v F1 H1 F2 H2 p g => p.up g) fun x y F1 H1 f hh z p1 p2 Q q => ?_
  obtain ⟨a, xs, rfl, _, h3, h4⟩ := p1
  obtain ⟨v, rfl, hv⟩ := DpAll.one_inv h4
  have e : (List.replicate ((n : Int).toNat) [v]).flatten = List.replicate n v := by
    rw [Int.toNat_natCast]
    exact rep_flat v n
  refine ⟨a, n, [v], rfl, p2.int_inv, h3, by omega, by omega, by rw [Int.toNat_natCast]; exact Nat.le_trans (show 1 * n ≤ 1000 by omega) (by decide), fun p hp => ?_⟩
  rw [e]
  exact q _ F1 _ (.own z hp) ⟨p, rfl, hh.free hp, z.free hp, _, upd_same, DpAll.repl hv n⟩
/-- l[k], m[k] = d, e -/
theorem st_setO2 {i : Nat} (hp : Own K H0 F H p ds) (hq : Own K H0 F H q es) (hpq : p ≠ q) (z : Same F H) (he : EvD K te σ F H (.tuple [d, e])) (sn : σ[n]? = some (some (.ref p))) (sm : σ[m]? = some (some (.ref q))) (sk : σ[k]? = some (some (.int (i : Nat)))) (l1 : i < ds.length) (l2 : i < es.length)
    (kk : ∀ xs ys F1 H1, Gr F H F1 H1 → Own K H0 F1 (upd (upd H1 p (.lst xs)) q (.lst ys)) p (ds.set i d) → Own K H0 F1 (upd (upd H1 p (.lst xs)) q (.lst ys)) q (es.set i e) → D.nx σ (upd (upd H1 p (.lst xs)) q (.lst ys))) :
    tAsg te (gTup K 2 (gCons (gSub (tVar n) (tVar k) rSetL) (gCons (gSub (tVar m) (tVar k) rSetL) gNil))) D σ H := by
  refine he F H (Same.refl _) (Same.refl _) z _ fun v F1 H1 g hv => ?_
  obtain ⟨a, ws, rfl, hs, ha⟩ := hv.tup_inv
  obtain ⟨u1, u2, rfl, k1, k2⟩ := DpAll.two_inv ha
  have hp1 := hp.up g
  have hq1 := hq.up g
  obtain ⟨xs, a1, b1⟩ := hp1.at_
  obtain ⟨ys, a2, b2⟩ := hq1.at_
  have ix : ∀ {n : Nat}, i < n → ixN n (i : Int) = some i := fun h => by
    unfold ixN
    rw [if_pos (by omega), if_pos (by omega)]
    simp
  refine ⟨a, _, rfl, sqT_mono g.fh hs, rfl, _, _, rfl, .ref p, sn, .int (i : Nat), sk, p, xs, i, i, rfl, rfl, a1, ix (by rw [b1.len]; exact l1), ?_⟩
  refine ⟨_, _, rfl, .ref q, sm, .int (i : Nat), sk, q, ys, i, i, rfl, rfl, by rw [upd_ne (Ne.symm hpq)]; exact a2, ix (by rw [b2.len]; exact l2), ?_⟩
  refine ⟨rfl, kk _ _ F1 H1 g ?_ ?_⟩
  · exact ⟨hp1.nw, hp1.out, _, by rw [upd_ne hpq, upd_same], b1.set i k1⟩
  · exact ⟨hq1.nw, hq1.out, _, upd_same, b2.set i k2⟩
end
end Dv
/-! Mth1: webs as data. -/
namespace Sg
open PySem
/-- the tuple of tuples of the ints W x y, x and y below n -/
def rowD (n : Nat) (W : Nat → Nat → Int) (x : Nat) : PyData := .tuple ((List.range n).map fun y => .int (W x y))
def matD (n : Nat) (W : Nat → Nat → Int) : PyData := .tuple ((List.range n).map fun x => rowD n W x)
/-- a signed web of n places -/
structure Web (n : Nat) (W : Nat → Nat → Int) : Prop where
  lo : 1 ≤ n
  hi : n ≤ 10
  sgn : ∀ x y, x < n → y < n → W x y = 0 ∨ W x y = 1 ∨ W x y = -1
  sym : ∀ x y, x < n → y < n → W x y = W y x
  dia : ∀ x, x < n → W x x = 0
/-- the datum is a signed web -/
def IsWeb (d : PyData) : Prop := ∃ n W, d = matD n W ∧ Web n W
def betw (lo : Int) (d : PyData) (hi : Int) : Bool := match d with
  | .int i => decide (lo ≤ i) && decide (i ≤ hi)
  | _ => false
def isTupN (n : Int) (d : PyData) : Bool := match d with
  | .tuple xs => decide ((xs.length : Int) = n)
  | _ => false
/-- a row of n signs -/
def goodRow (n : Nat) (d : PyData) : Bool := match d with
  | .tuple xs => decide (xs.length = n) && xs.all fun e => betw (-1) e 1
  | _ => false
/-- the int at a place of a row -/
def ent (d : PyData) (y : Nat) : Int := match d with
  | .tuple xs => (match xs.getD y .none with
    | .int i => i
    | _ => 0)
  | _ => 0
theorem len_rng' {α : Type} {n : Nat} {f : Nat → α} : ((List.range n).map f).length = n := by rw [List.length_map, List.length_range]
theorem ext_rng {α : Type} {n : Nat} {f : Nat → α} {l : List α} (h : l.length = n) (e : ∀ i, (hi : i < n) → l[i]'(by omega) = f i) : l = (List.range n).map f := by
  refine List.ext_getElem (by rw [len_rng', h]) fun i h1 h2 => ?_
  rw [e i (by omega)]
  simp
theorem map_rng_congr {α : Type} {n : Nat} {f g : Nat → α} (e : ∀ i, i < n → f i = g i) : (List.range n).map f = (List.range n).map g :=
  List.map_congr_left fun i hi => e i (List.mem_range.mp hi)
theorem map_rng_inj {α : Type} {n : Nat} {f g : Nat → α} (h : (List.range n).map f = (List.range n).map g) : ∀ i, i < n → f i = g i := fun i hi => by
  have e := congrArg (fun l => l[i]?) h
  simpa [List.getElem?_range hi] using e
theorem row_of_good {n : Nat} {d : PyData} (h : goodRow n d = true) : d = .tuple ((List.range n).map fun y => .int (ent d y)) ∧ ∀ y, y < n → -1 ≤ ent d y ∧ ent d y ≤ 1 := by
  cases d with
  | tuple xs =>
    simp only [goodRow, Bool.and_eq_true, decide_eq_true_eq, List.all_eq_true] at h
    obtain ⟨hl, ha⟩ := h
    have at_ : ∀ y, (hy : y < n) → xs[y]'(by omega) = .int (ent (.tuple xs) y) ∧ -1 ≤ ent (.tuple xs) y ∧ ent (.tuple xs) y ≤ 1 := fun y hy => by
      have hm := ha _ (List.getElem_mem (show y < xs.length by omega))
      have e : xs.getD y .none = xs[y]'(by omega) := by
        rw [List.getD_eq_getElem?_getD, List.getElem?_eq_getElem (by omega)]; rfl
      unfold ent
      simp only [e]
      cases q : xs[y]'(by omega) with
      | int i =>
        rw [q] at hm
        simp only [betw, Bool.and_eq_true, decide_eq_true_eq] at hm
        exact ⟨rfl, hm⟩
      | _ => rw [q] at hm; cases hm
    exact ⟨congrArg PyData.tuple (ext_rng hl fun y hy => (at_ y hy).1), fun y hy => (at_ y hy).2⟩
  | _ => cases h
theorem good_row {n : Nat} {W : Nat → Nat → Int} {x : Nat} (h : ∀ y, y < n → W x y = 0 ∨ W x y = 1 ∨ W x y = -1) : goodRow n (rowD n W x) = true := by
  simp only [goodRow, rowD, Bool.and_eq_true, decide_eq_true_eq, List.all_eq_true, len_rng', true_and]
  intro e he
  obtain ⟨y, hy, rfl⟩ := List.mem_map.mp he
  have := h y (List.mem_range.mp hy)
  simp only [betw, Bool.and_eq_true, decide_eq_true_eq]
  omega
theorem mat_of_good {n : Nat} {ds : List PyData} (hl : ds.length = n) (h : ∀ i, (hi : i < n) → goodRow n (ds[i]'(by omega)) = true) :
    PyData.tuple ds = matD n (fun x y => ent (ds.getD x .none) y) ∧ ∀ x y, x < n → y < n → -1 ≤ ent (ds.getD x .none) y ∧ ent (ds.getD x .none) y ≤ 1 := by
  have e : ∀ i, (hi : i < n) → ds.getD i .none = ds[i]'(by omega) := fun i hi => by
    rw [List.getD_eq_getElem?_getD, List.getElem?_eq_getElem (by omega)]; rfl
  refine ⟨congrArg PyData.tuple (ext_rng hl fun i hi => ?_), fun x y hx hy => ?_⟩
  · have q := (row_of_good (h i hi)).1
    show _ = PyData.tuple ((List.range n).map fun y => .int (ent (ds.getD i .none) y))
    rw [e i hi]
    exact q
  · rw [e x hx]
    exact (row_of_good (h x hx)).2 y hy
/-- what a web's datum tells of W -/
theorem mat_inj {n m : Nat} {W U : Nat → Nat → Int} (h : matD n W = matD m U) : n = m ∧ ∀ x y, x < n → y < n → W x y = U x y := by
  unfold matD at h
  injection h with h
  have hl := congrArg List.length h
  rw [len_rng', len_rng'] at hl
  subst hl
  refine ⟨rfl, fun x y hx hy => ?_⟩
  have q := map_rng_inj h x hx
  unfold rowD at q
  injection q with q
  have z := map_rng_inj q y hy
  injection z
theorem mat_congr {n : Nat} {W U : Nat → Nat → Int} (h : ∀ x y, x < n → y < n → W x y = U x y) : matD n W = matD n U := by
  unfold matD
  refine congrArg PyData.tuple (map_rng_congr fun x hx => ?_)
  unfold rowD
  exact congrArg PyData.tuple (map_rng_congr fun y hy => by rw [h x y hx hy])
theorem web_congr {n : Nat} {W U : Nat → Nat → Int} (h : ∀ x y, x < n → y < n → W x y = U x y) (w : Web n W) : Web n U :=
  ⟨w.lo, w.hi, fun x y hx hy => by rw [← h x y hx hy]; exact w.sgn x y hx hy, fun x y hx hy => by rw [← h x y hx hy, ← h y x hy hx]; exact w.sym x y hx hy, fun x hx => by rw [← h x x hx hx]; exact w.dia x hx⟩
theorem isWeb_mat {n : Nat} {W : Nat → Nat → Int} : IsWeb (matD n W) ↔ Web n W := by
  constructor
  · rintro ⟨m, U, e, w⟩
    obtain ⟨rfl, h⟩ := mat_inj e
    exact web_congr (fun x y hx hy => (h x y hx hy).symm) w
  · exact fun w => ⟨n, W, rfl, w⟩
end Sg
set_option maxRecDepth 100000
set_option maxHeartbeats 2000000
/-! Txt: the text's defs by place, what the top leaves of them, calls by name. -/
namespace Sg
open PySem PySem.Spec L2 Dv
open PyProof.Rows (envOfC)
open PySem.W (Frag)
/-- bound by place; drawn by name too -/
def BindsR (K : PySem.W.Frag) (x : Str) (fd : FuncData) (ps : List Str) : Prop := Binds K fd ps [] ∧ (x = "drawn" → KBinds K fd ps ps.reverse (fun us ws => us ++ ws.reverse) fun vs zs => vs ++ zs.reverse)
/-- a def of the text as it stands behind the top -/
structure Def1 (K : PySem.W.Frag) (mg : Str → Option Value) (x : Str) (st : Stmt) (ps : List Str) : Prop where
  ex : ∃ f fd, Fun K x x st f fd ∧ mg x = some (.ref f) ∧ BindsR K x fd ps
/-- a def that keeps its promise, to be called by name -/
structure Cal (P : Program) (w : World) (K : PySem.W.Frag) (mg : Str → Option Value) (base : Heap) (CX : CXT) (k : Nat) (x : Str) (ps : List Str) (sp : Sp) : Prop where
  ex : ∃ f fd, FnOk P w K mg base CX k f fd ps sp ∧ mg x = some (.ref f) ∧ PySem.W.keepIn K (.ref f) = true ∧ BindsR K x fd ps
theorem pe_cal {X : Cx} {CX : CXT} {x : Str} {k j : Nat} {ps : List Str} {sp : Sp} {E : XK} {e : Expr} {es : List Expr} {t : TA} {p pos : Pos} (C : Cal X.prog X.w X.K X.mg X.base CX j x ps sp) (hr : Room k X.A) (hk : j ≤ k) (hx : Passes CX X E) (ha : PA X (e :: es) t)
    (hg : Gl X x := by rfl) (hdb : (x == ("__debug__" : Str)) = false := by decide) (he : starEach (e :: es) X.env = (false, eval e X.env) :: starEach es X.env := by rfl) (hpl : (backTo pos (starEach es X.env)).any (·.1) = false := by rfl) : PE X (.Call (.Name x p) (e :: es) [] pos) (tCall sp [] E t) := by
  obtain ⟨f, fd, G, m, kp, b⟩ := C.ex
  exact pe_call G (hr.mono hk) hg m kp b.1 .nil hx ha hdb he hpl
/-- drawn(tie = .., web = ..) -/
theorem pe_calK {X : Cx} {CX : CXT} {k j : Nat} {ps : List Str} {sp : Sp} {E : L2.St → XK} {kws : List Keyword} {tk : TA} {p pos : Pos} (C : Cal X.prog X.w X.K X.mg X.base CX j "drawn" ps sp) (hr : Room k X.A) (hk : j ≤ k) (hx : ∀ σ, PassesAt CX X σ (E σ))
    (hkw : PK X kws tk) (hg : Gl X "drawn" := by rfl) (hall : (backToKw pos (keywordEach kws X.env)).all (·.1.isSome) = true := by rfl) (hks : (backToKw pos (keywordEach kws X.env)).filterMap (·.1) = ps.reverse := by rfl)
    (hpl : ((backTo pos (starEach [] X.env)).any (·.1) || (backToKw pos (keywordEach kws X.env)).any (·.1.isNone)) = false := by rfl) : PE X (.Call (.Name "drawn" p) [] kws pos) (Ex5.tCallKS sp (fun vs zs => vs ++ zs.reverse) E tk) := by
  obtain ⟨f, fd, G, m, kp, b⟩ := C.ex
  exact Ex5.pe_callKS G (hr.mono hk) hg m kp (b.2 rfl) hx hkw hall hks (by decide) hpl
theorem bt_len : bootBuiltins "len" = some (.builtin "len") := by decide +kernel
theorem bt_all : bootBuiltins "all" = some (.builtin "all") := by decide +kernel
theorem bt_any : bootBuiltins "any" = some (.builtin "any") := by decide +kernel
theorem bt_isinstance : bootBuiltins "isinstance" = some (.builtin "isinstance") := by decide +kernel
theorem bt_sorted : bootBuiltins "sorted" = some (.builtin "sorted") := by decide +kernel
theorem bt_min : bootBuiltins "min" = some (.builtin "min") := by decide +kernel
theorem bt_abs : bootBuiltins "abs" = some (.builtin "abs") := by decide +kernel
theorem bt_repr : bootBuiltins "repr" = some (.builtin "repr") := by decide +kernel
theorem bt_tuple : bootBuiltins "tuple" = some (.type "tuple") := by decide +kernel
theorem bt_list : bootBuiltins "list" = some (.type "list") := by decide +kernel
theorem bt_int : bootBuiltins "int" = some (.type "int") := by decide +kernel
theorem bt_bool : bootBuiltins "bool" = some (.type "bool") := by decide +kernel
theorem bt_ValueError : bootBuiltins "ValueError" = some (.type "ValueError") := by decide +kernel
section
variable {X : Cx} {e : Expr} {te : TE} {p p2 pos : Pos} (K : PySem.W.Frag)
theorem q_len (m : X.mg "len" = none) (h : PE X e te) (g : Gl X "len" := by rfl) (hs : starEach [e] X.env = (false, eval e X.env) :: starEach [] X.env := by rfl) (hK : X.K = K := by rfl) : PE X (.Call (.Name "len" p) [e] [] pos) (tCB (rLenQ K) (tCons te tNil)) := by
  subst hK
  exact pe_callB call_len_seq g m bt_len (pa_cons h pa_nil hs) (he := hs)
theorem q_tuple (m : X.mg "tuple" = none) (h : PE X e te) (g : Gl X "tuple" := by rfl) (hs : starEach [e] X.env = (false, eval e X.env) :: starEach [] X.env := by rfl) (hK : X.K = K := by rfl) : PE X (.Call (.Name "tuple" p) [e] [] pos) (tCB (rTupQ K) (tCons te tNil)) := by
  subst hK
  exact pe_callTy call_tuple_of g m bt_tuple (pa_cons h pa_nil hs) (he := hs)
theorem q_list (m : X.mg "list" = none) (h : PE X e te) (g : Gl X "list" := by rfl) (hs : starEach [e] X.env = (false, eval e X.env) :: starEach [] X.env := by rfl) (hK : X.K = K := by rfl) : PE X (.Call (.Name "list" p) [e] [] pos) (tCB (rLstQ K) (tCons te tNil)) := by
  subst hK
  exact pe_callTy call_list_of g m bt_list (pa_cons h pa_nil hs) (he := hs)
theorem bt_range : bootBuiltins "range" = some (.type "range") := by decide +kernel
theorem q_range (m : X.mg "range" = none) (h : PE X e te) (g : Gl X "range" := by rfl) (hs : starEach [e] X.env = (false, eval e X.env) :: starEach [] X.env := by rfl) : PE X (.Call (.Name "range" p) [e] [] pos) (tCB Ex1.rRng1 (tCons te tNil)) := pe_callTy Ex1.cr_rng1 g m bt_range (pa_cons h pa_nil hs) (he := hs)
theorem q_all (c : X.calm = true) (m : X.mg "all" = none) (h : PE X e te) (g : Gl X "all" := by rfl) (hs : starEach [e] X.env = (false, eval e X.env) :: starEach [] X.env := by rfl) (hK : X.K = K := by rfl) : PE X (.Call (.Name "all" p) [e] [] pos) (tCB (rAll K) (tCons te tNil)) := by
  subst hK
  exact pe_callB (cr_all c) g m bt_all (pa_cons h pa_nil hs) (he := hs)
theorem q_any (c : X.calm = true) (m : X.mg "any" = none) (h : PE X e te) (g : Gl X "any" := by rfl) (hs : starEach [e] X.env = (false, eval e X.env) :: starEach [] X.env := by rfl) (hK : X.K = K := by rfl) : PE X (.Call (.Name "any" p) [e] [] pos) (tCB (rAny K) (tCons te tNil)) := by
  subst hK
  exact pe_callB (cr_any c) g m bt_any (pa_cons h pa_nil hs) (he := hs)
theorem q_isi_int (m : X.mg "isinstance" = none) (m2 : X.mg "int" = none) (h : PE X e te) (g : Gl X "isinstance" := by rfl) (g2 : Gl X "int" := by rfl) (hs : starEach [e, .Name "int" p2] X.env = (false, eval e X.env) :: starEach [.Name "int" p2] X.env := by rfl) (hs2 : starEach [.Name "int" p2] X.env = (false, eval (.Name "int" p2) X.env) :: starEach [] X.env := by rfl) (hK : X.K = K := by rfl) :
    PE X (.Call (.Name "isinstance" p) [e, .Name "int" p2] [] pos) (tCB (rIsi K) (tCons te (tCons (tC (.ty "int")) tNil))) := by
  subst hK
  exact pe_callB call_isi g m bt_isinstance (pa_cons h (pa_cons (pe_bltn g2 m2 bt_int rfl) pa_nil hs2) hs) (he := hs) (hpl := by rw [hs2]; rfl)
theorem q_isi_bool (m : X.mg "isinstance" = none) (m2 : X.mg "bool" = none) (h : PE X e te) (g : Gl X "isinstance" := by rfl) (g2 : Gl X "bool" := by rfl) (hs : starEach [e, .Name "bool" p2] X.env = (false, eval e X.env) :: starEach [.Name "bool" p2] X.env := by rfl) (hs2 : starEach [.Name "bool" p2] X.env = (false, eval (.Name "bool" p2) X.env) :: starEach [] X.env := by rfl) (hK : X.K = K := by rfl) :
    PE X (.Call (.Name "isinstance" p) [e, .Name "bool" p2] [] pos) (tCB (rIsi K) (tCons te (tCons (tC (.ty "bool")) tNil))) := by
  subst hK
  exact pe_callB call_isi g m bt_isinstance (pa_cons h (pa_cons (pe_bltn g2 m2 bt_bool rfl) pa_nil hs2) hs) (he := hs) (hpl := by rw [hs2]; rfl)
theorem q_isi_tuple (m : X.mg "isinstance" = none) (m2 : X.mg "tuple" = none) (h : PE X e te) (g : Gl X "isinstance" := by rfl) (g2 : Gl X "tuple" := by rfl) (hs : starEach [e, .Name "tuple" p2] X.env = (false, eval e X.env) :: starEach [.Name "tuple" p2] X.env := by rfl) (hs2 : starEach [.Name "tuple" p2] X.env = (false, eval (.Name "tuple" p2) X.env) :: starEach [] X.env := by rfl) (hK : X.K = K := by rfl) :
    PE X (.Call (.Name "isinstance" p) [e, .Name "tuple" p2] [] pos) (tCB (rIsi K) (tCons te (tCons (tC (.ty "tuple")) tNil))) := by
  subst hK
  exact pe_callB call_isi g m bt_isinstance (pa_cons h (pa_cons (pe_bltn g2 m2 bt_tuple rfl) pa_nil hs2) hs) (he := hs) (hpl := by rw [hs2]; rfl)
end
section
variable {X : Cx} {e a b : Expr} {es : List Expr} {te ta tb : TE} {p p2 pos : Pos} (K : PySem.W.Frag)
theorem kIxT (hK : X.K = K := by rfl) : IxR X (rIxT K) := by subst hK; exact ix_tup
theorem kIxL (hK : X.K = K := by rfl) : IxR X (rIxL K) := by subst hK; exact ix_list
theorem kTup {tg : Expr} (h : PE X e te) (hK : X.K = K := by rfl) : PI X tg e (iTup K te) := by subst hK; exact pi_tup h
theorem kLst {tg : Expr} (h : PE X e te) (hK : X.K = K := by rfl) : PI X tg e (iList K te) := by subst hK; exact pi_list h
theorem kEnT {elts : List Expr} {kk : Nat} {tpos : Pos} (m : X.mg "enumerate" = none) (h : PE X e te) (g : Gl X "enumerate" := by rfl) (hs : starEach [e] X.env = (false, eval e X.env) :: starEach [] X.env := by rfl) (hs2 : starEach [e] X.env = [(false, eval e X.env)] := by rfl) (hK : X.K = K := by rfl) :
    PI X (.Tuple elts kk tpos) (.Call (.Name "enumerate" p) [e] [] pos) (Ex1.iEnumT K (tCons te tNil)) := by subst hK; exact Ex1.pi_enumT g m (pa_cons h pa_nil hs) hs2
theorem kEnL {elts : List Expr} {kk : Nat} {tpos : Pos} (m : X.mg "enumerate" = none) (h : PE X e te) (g : Gl X "enumerate" := by rfl) (hs : starEach [e] X.env = (false, eval e X.env) :: starEach [] X.env := by rfl) (hs2 : starEach [e] X.env = [(false, eval e X.env)] := by rfl) (hK : X.K = K := by rfl) :
    PI X (.Tuple elts kk tpos) (.Call (.Name "enumerate" p) [e] [] pos) (iEnum K (tCons te tNil)) := by subst hK; exact pi_enum g m (pa_cons h pa_nil hs) hs2
theorem kIn (hK : X.K = K := by rfl) : OpR X (compareOp .In) (rIn K false) := by subst hK; exact op_in_seq
theorem kNotIn (hK : X.K = K := by rfl) : OpR X (compareOp .NotIn) (rIn K true) := by subst hK; exact op_notIn_seq
theorem kEqD (hu : X.A.units + 64 < cLine) (hK : X.K = K := by rfl) : OpR X (compareOp .Eq) (rEqD K) := by subst hK; exact op_eqD hu
theorem kNeD (hu : X.A.units + 64 < cLine) (hK : X.K = K := by rfl) : OpR X (compareOp .NotEq) (rNeD K) := by subst hK; exact op_neD hu
theorem kInD (hu : X.A.units + 65 < cLine) (hK : X.K = K := by rfl) : OpR X (compareOp .In) (rInD K) := by subst hK; exact op_inD hu
theorem kCatA (hK : X.K = K := by rfl) : OpR X (binaryOp .Add) (rCatA K) := by subst hK; exact op_catA
theorem kRepT (hK : X.K = K := by rfl) : OpR X (binaryOp .Mult) (rRepT K) := by subst hK; exact op_repT
theorem kSlT (hK : X.K = K := by rfl) : SlR X (rSlA K) := by subst hK; exact sl_tupA
theorem kSlL (hK : X.K = K := by rfl) : SlR X (rSlL K) := by subst hK; exact sl_list
theorem kTruth (h : PE X e te) (he : ∀ whole, isTrue e X.env whole = (do let v ← whole; standAt e.pos; holding [v] (truthy v)) := by intro _; rfl) (hK : X.K = K := by rfl) : PT X e (fun σ H Q => te σ H fun x H' => ∃ k, TruV K x H' k ∧ Q k H') := by subst hK; exact pt_truth h he
theorem kPgT {k : Nat} {t : TGs} {n : Nat} (hc : X.calm = true) (h : PGs X es t) (hn : (assignEach es X.env).length = n := by rfl) (hst : (assignEach es X.env).findIdx? (·.1) = none := by rfl) (hK : X.K = K := by rfl) : PG X (.Tuple es k pos) (gTup K n t) := by subst hK; exact pg_tup hc h hn hst
theorem kApp {o : Expr} {to : TE} {apos cpos : Pos} (ho : PE X o to) (h : PE X e te) (hbase : attributeBase o "append" X.env (eval o X.env) = eval o X.env := by rfl)
    (hfew : ((backTo cpos (starEach [e] X.env)).all (fun x => !x.1) && (backToKw cpos (keywordEach [] X.env)).all (fun x => x.1.isSome)
      && decide ([e].length + ([] : List Keyword).length + (if ([] : List Keyword).isEmpty then 0 else 1) < 30)) = true := by rfl)
    (hline : (apos.endLine == cpos.line) = true := by rfl) (hs : starEach [e] X.env = (false, eval e X.env) :: starEach [] X.env := by rfl) (hK : X.K = K := by rfl) : PE X (.Call (.Attribute o "append" apos) [e] [] cpos) (tBM K "list" rAppend to (tCons te tNil)) := by
  subst hK
  exact pe_bm PySem.F.plainAttrs_list PySem.F.slot_list_append PySem.F.type_list_append mt_append ho (pa_cons h pa_nil hs) hbase hfew hline hs
theorem kPop {o : Expr} {to : TE} {apos cpos : Pos} (ho : PE X o to) (hbase : attributeBase o "pop" X.env (eval o X.env) = eval o X.env := by rfl) (hline : (apos.endLine == cpos.line) = true := by rfl) (hK : X.K = K := by rfl) :
    PE X (.Call (.Attribute o "pop" apos) [] [] cpos) (tBM0 K "list" rPop to) := by
  subst hK
  exact pe_bm0 PySem.F.plainAttrs_list PySem.F.slot_list_pop PySem.F.type_list_pop mt_pop ho hbase hline
end
section
variable {P : Program} {w : World} {K : PySem.W.Frag} {mg : Str → Option Value} {base : Heap}
/-- a def without a raise: its body's term and reading -/
theorem Def1.cal {x : Str} {st : Stmt} {ps N : List Str} {k : Nat} {sp : Sp} (D : Def1 K mg x st ps) (S : FnScope N ps (defScope st)) (len : ∀ vs H Q E, sp vs H Q E → vs.length = ps.length)
    (hbody : ∀ (f : Addr) (cdv : Value) (A : Around) (outer : List Env) (s : Shared) (H : Hp) (vs : List V) (Q : VK) (E : XK), Room k (A.deeper (envOfC x (defScope st) s.heap.objs.size f cdv)) → sp vs H Q E →
      ∃ t, PSs (cxOf CX0 P w K mg base N x (defScope st) f cdv A outer s H E).nox (defBody st) t ∧ t { nx := fun _ H' => Q .non H', rt := Q } (start N vs) H) : Cal P w K mg base CX0 (k + 1) x ps sp := by
  obtain ⟨f, fd, F, m, b⟩ := D.ex
  exact ⟨f, fd, F.ok S len fun cdv A outer s H vs Q E hr h => hbody f cdv A outer s H vs Q E hr h, m, F.kp, b⟩
/-- .. with a promise by data -/
theorem Def1.calD {x : Str} {st : Stmt} {ps N : List Str} {k : Nat} {R : List PyData → PyData → Prop} (D : Def1 K mg x st ps) (S : FnScope N ps (defScope st)) (len : ∀ ds d, R ds d → ds.length = ps.length)
    (hbody : ∀ (f : Addr) (cdv : Value) (A : Around) (outer : List Env) (s : Shared) (F H : Hp) (vs : List V) (ds : List PyData) (d : PyData) (Q : VK) (E : XK), Room k (A.deeper (envOfC x (defScope st) s.heap.objs.size f cdv)) → Same F H → DpAll K F vs ds → R ds d →
      (∀ v F' H', Gr F H F' H' → Dp K F' v d → Q v H') →
      ∃ t, PSs (cxOf CX0 P w K mg base N x (defScope st) f cdv A outer s H E).nox (defBody st) t ∧ t { nx := fun _ H' => Q .non H', rt := Q } (start N vs) H) : Cal P w K mg base CX0 (k + 1) x ps (spD K R) :=
  D.cal S (spD_len len) fun f cdv A outer s H vs Q E hr ⟨F, ds, d, z, ha, r, q⟩ => hbody f cdv A outer s F H vs ds d Q E hr z ha r q
/-- a def that may raise -/
theorem Def1.calX {x : Str} {st : Stmt} {ps N : List Str} {k : Nat} {sp : Sp} (D : Def1 K mg x st ps) (S : FnScope N ps (defScope st)) (len : ∀ vs H Q E, sp vs H Q E → vs.length = ps.length)
    (hbody : ∀ (f : Addr) (cdv : Value) (A : Around) (outer : List Env) (s : Shared) (H : Hp) (vs : List V) (Q : VK) (E : XK), Room k (A.deeper (envOfC x (defScope st) s.heap.objs.size f cdv)) → sp vs H Q E →
      ∃ t, PSs (cxOf (L2.CX P w) P w K mg base N x (defScope st) f cdv A outer s H E) (defBody st) t ∧ t { nx := fun _ H' => Q .non H', rt := Q } (start N vs) H) : Cal P w K mg base (L2.CX P w) (k + 1) x ps sp := by
  obtain ⟨f, fd, F, m, b⟩ := D.ex
  exact ⟨f, fd, F.okX S len fun cdv A outer s H vs Q E hr h => hbody f cdv A outer s H vs Q E hr h, m, F.kp, b⟩
/-- a def with exceptions, its promise kept where none comes -/
theorem Cal.noX {x : Str} {ps : List Str} {sp : Sp} {k : Nat} (C : Cal P w K mg base (L2.CX P w) k x ps sp) : Cal P w K mg base CX0 k x ps (spE0 sp) := by
  obtain ⟨f, fd, G, m, kp, b⟩ := C.ex
  refine ⟨f, fd, ⟨fun vs H Q E h => G.len vs H Q _ h, fun A outer s H args us vs Q E hr e0 hb r h => codeAny_mono (G.run A outer s H args us vs Q (fun _ _ _ => False) hr e0 hb r h) fun r s' hq => ?_⟩, m, kp, b⟩
  cases r with
  | error e =>
    obtain ⟨a, B, H', cls, d, _, _, _, _, _, _, _, z⟩ := hq
    exact z.elim
  | ok fl => cases fl <;> exact hq
/-- a def with exceptions, by data -/
theorem Def1.calE {x : Str} {st : Stmt} {ps N : List Str} {k : Nat} {Pre : List PyData → Prop} {R : List PyData → PyData → Prop} {X : List PyData → Value → Option Addr → Hp → Hp → Prop} (D : Def1 K mg x st ps) (S : FnScope N ps (defScope st)) (len : ∀ ds, Pre ds → ds.length = ps.length)
    (hbody : ∀ (f : Addr) (cdv : Value) (A : Around) (outer : List Env) (s : Shared) (F H : Hp) (vs : List V) (ds : List PyData) (Q : VK) (E : XK), Room k (A.deeper (envOfC x (defScope st) s.heap.objs.size f cdv)) → Same F H → DpAll K F vs ds → Pre ds →
      (∀ v F' H' d, R ds d → Gr F H F' H' → Dp K F' v d → Q v H') → (∀ cls d F' H', X ds cls d F' H' → Gr F H F' H' → E cls d H') → Takes (cxOf (L2.CX P w) P w K mg base N x (defScope st) f cdv A outer s H E) (fun cls d _ H => E cls d H) → Passes (L2.CX P w) (cxOf (L2.CX P w) P w K mg base N x (defScope st) f cdv A outer s H E) E →
      ∃ t, PSs (cxOf (L2.CX P w) P w K mg base N x (defScope st) f cdv A outer s H E) (defBody st) t ∧ t { nx := fun _ H' => Q .non H', rt := Q } (start N vs) H) : Cal P w K mg base (L2.CX P w) (k + 1) x ps (spE K Pre R X) :=
  D.calX S (spE_len len) fun f cdv A outer s H vs Q E hr ⟨F, ds, z, ha, p, q, e⟩ => hbody f cdv A outer s F H vs ds Q E hr z ha p q e (takes_of rfl rfl rfl rfl) (passes_call (takes_of rfl rfl rfl rfl) fun _ _ _ _ h => h)
/-- a def by a property -/
theorem Def1.calP {x : Str} {st : Stmt} {ps N : List Str} {k : Nat} {R : List PyData → (V → Hp → Hp → Prop) → Prop} (D : Def1 K mg x st ps) (S : FnScope N ps (defScope st)) (len : ∀ ds P, R ds P → ds.length = ps.length)
    (hbody : ∀ (f : Addr) (cdv : Value) (A : Around) (outer : List Env) (s : Shared) (F H : Hp) (vs : List V) (ds : List PyData) (PP : V → Hp → Hp → Prop) (Q : VK) (E : XK), Room k (A.deeper (envOfC x (defScope st) s.heap.objs.size f cdv)) → Same F H → DpAll K F vs ds → R ds PP →
      (∀ v F' H', Gr F H F' H' → PP v F' H' → Q v H') →
      ∃ t, PSs (cxOf CX0 P w K mg base N x (defScope st) f cdv A outer s H E).nox (defBody st) t ∧ t { nx := fun _ H' => Q .non H', rt := Q } (start N vs) H) : Cal P w K mg base CX0 (k + 1) x ps (spP K R) :=
  D.cal S (spP_len len) fun f cdv A outer s H vs Q E hr ⟨F, ds, PP, z, ha, r, q⟩ => hbody f cdv A outer s F H vs ds PP Q E hr z ha r q
end
section
variable {X : Cx} {e : Expr} {te : TE} {p pos : Pos} (K : PySem.W.Frag)
theorem q_minL (c : X.calm = true) (m : X.mg "min" = none) (h : PE X e te) (g : Gl X "min" := by rfl) (hs : starEach [e] X.env = (false, eval e X.env) :: starEach [] X.env := by rfl) (hK : X.K = K := by rfl) : PE X (.Call (.Name "min" p) [e] [] pos) (tCB (rMin K) (tCons te tNil)) := by
  subst hK
  exact pe_callB (cr_min c) g m bt_min (pa_cons h pa_nil hs) (he := hs)
theorem q_minT (c : X.calm = true) (hu : X.A.units + 2 < cLine) (m : X.mg "min" = none) (h : PE X e te) (g : Gl X "min" := by rfl) (hs : starEach [e] X.env = (false, eval e X.env) :: starEach [] X.env := by rfl) (hK : X.K = K := by rfl) : PE X (.Call (.Name "min" p) [e] [] pos) (tCB (Ex6.rMinT K) (tCons te tNil)) := by
  subst hK
  exact pe_callB (Ex6.cr_minT c hu) g m bt_min (pa_cons h pa_nil hs) (he := hs)
theorem q_sortI (m : X.mg "sorted" = none) (h : PE X e te) (g : Gl X "sorted" := by rfl) (hs : starEach [e] X.env = (false, eval e X.env) :: starEach [] X.env := by rfl) (hK : X.K = K := by rfl) : PE X (.Call (.Name "sorted" p) [e] [] pos) (tCB (rSorted K) (tCons te tNil)) := by
  subst hK
  exact pe_callB cr_sorted g m bt_sorted (pa_cons h pa_nil hs) (he := hs)
theorem q_sortD (B : Nat) (hu : X.A.units + 2 + B < cLine) (m : X.mg "sorted" = none) (h : PE X e te) (g : Gl X "sorted" := by rfl) (hs : starEach [e] X.env = (false, eval e X.env) :: starEach [] X.env := by rfl) (hK : X.K = K := by rfl) : PE X (.Call (.Name "sorted" p) [e] [] pos) (tCB (Ex5.rSortD K B) (tCons te tNil)) := by
  subst hK
  exact pe_callB (Ex5.cr_sortD hu) g m bt_sorted (pa_cons h pa_nil hs) (he := hs)
theorem kIdxL {o : Expr} {to : TE} {apos cpos : Pos} (ho : PE X o to) (h : PE X e te) (hbase : attributeBase o "index" X.env (eval o X.env) = eval o X.env := by rfl)
    (hfew : ((backTo cpos (starEach [e] X.env)).all (fun x => !x.1) && (backToKw cpos (keywordEach [] X.env)).all (fun x => x.1.isSome)
      && decide ([e].length + ([] : List Keyword).length + (if ([] : List Keyword).isEmpty then 0 else 1) < 30)) = true := by rfl)
    (hline : (apos.endLine == cpos.line) = true := by rfl) (hs : starEach [e] X.env = (false, eval e X.env) :: starEach [] X.env := by rfl) (hK : X.K = K := by rfl) : PE X (.Call (.Attribute o "index" apos) [e] [] cpos) (tBM K "list" (rIndex K) to (tCons te tNil)) := by
  subst hK
  exact pe_bm PySem.F.plainAttrs_list PySem.F.slot_list_index PySem.F.type_list_index mt_index ho (pa_cons h pa_nil hs) hbase hfew hline hs
theorem kIsX {c : Expr} {tc : TE} (m : X.mg "isinstance" = none) (h : PE X e te) (h2 : PE X c tc) (g : Gl X "isinstance" := by rfl) (hs : starEach [e, c] X.env = (false, eval e X.env) :: starEach [c] X.env := by rfl) (hs2 : starEach [c] X.env = (false, eval c X.env) :: starEach [] X.env := by rfl) (hK : X.K = K := by rfl) :
    PE X (.Call (.Name "isinstance" p) [e, c] [] pos) (tCB (Ex4.rIsX K) (tCons te (tCons tc tNil))) := by
  subst hK
  exact pe_callB Ex4.call_isX g m bt_isinstance (pa_cons h (pa_cons h2 pa_nil hs2) hs) (he := hs) (hpl := by rw [hs2]; rfl)
theorem kRepA (hK : X.K = K := by rfl) : OpR X (binaryOp .Mult) (Ex5.rRepA K) := by subst hK; exact Ex5.op_repA
end
/-- what the top leaves -/
structure Txt (K : PySem.W.Frag) (mg : Str → Option Value) : Prop where
  most : ∃ t, mg "MOST_PLACES" = some (.int 10 t)
  len_n : mg "len" = none
  range_n : mg "range" = none
  tuple_n : mg "tuple" = none
  list_n : mg "list" = none
  int_n : mg "int" = none
  bool_n : mg "bool" = none
  isinstance_n : mg "isinstance" = none
  all_n : mg "all" = none
  any_n : mg "any" = none
  sorted_n : mg "sorted" = none
  min_n : mg "min" = none
  abs_n : mg "abs" = none
  enumerate_n : mg "enumerate" = none
  repr_n : mg "repr" = none
  ValueError_n : mg "ValueError" = none
  super_n : mg "super" = none
  d_is_integer : Def1 K mg "is_integer" (topS 9) ["value"]
  d_is_between : Def1 K mg "is_between" (topS 10) ["low", "value", "high"]
  d_is_tuple_of : Def1 K mg "is_tuple_of" (topS 11) ["many", "value"]
  d_is_lot_of : Def1 K mg "is_lot_of" (topS 12) ["many", "value"]
  d_check_lot : Def1 K mg "check_lot" (topS 13) ["many", "value"]
  d_others_of : Def1 K mg "others_of" (topS 14) ["many", "lot"]
  d_is_web : Def1 K mg "is_web" (topS 16) ["value"]
  d_check_web : Def1 K mg "check_web" (topS 17) ["value"]
  d_tie_between : Def1 K mg "tie_between" (topS 18) ["x", "y"]
  d_ties_of : Def1 K mg "ties_of" (topS 19) ["web"]
  d_signs_of : Def1 K mg "signs_of" (topS 20) ["web"]
  d_web_by : Def1 K mg "web_by" (topS 21) ["many", "signs"]
  d_is_tie : Def1 K mg "is_tie" (topS 22) ["web", "value"]
  d_check_tie : Def1 K mg "check_tie" (topS 23) ["web", "value"]
  d_turned_web : Def1 K mg "turned_web" (topS 24) ["web", "lot"]
  d_piece_with : Def1 K mg "piece_with" (topS 25) ["web", "places", "place"]
  d_pieces_among : Def1 K mg "pieces_among" (topS 26) ["web", "places"]
  d_pieces_of : Def1 K mg "pieces_of" (topS 27) ["web"]
  d_inner_web : Def1 K mg "inner_web" (topS 28) ["web", "lot"]
  d_ring_by : Def1 K mg "ring_by" (topS 29) ["row"]
  d_check_room : Def1 K mg "check_room" (topS 31) ["many"]
  d_parted_tie : Def1 K mg "parted_tie" (topS 32) ["web", "tie"]
  d_drawn : Def1 K mg "drawn" (topS 33) ["web", "tie"]
  d_way_up : Def1 K mg "way_up" (topS 35) ["parents", "place"]
  d_ring_through : Def1 K mg "ring_through" (topS 36) ["parents", "x", "y"]
  d_walked : Def1 K mg "walked" (topS 37) ["web"]
  d_balance_of : Def1 K mg "balance_of" (topS 38) ["web"]
  d_some_bad_ring : Def1 K mg "some_bad_ring" (topS 39) ["web"]
  d_camp_of : Def1 K mg "camp_of" (topS 40) ["web"]
  d_is_balanced : Def1 K mg "is_balanced" (topS 41) ["web"]
  d_is_camp_of : Def1 K mg "is_camp_of" (topS 42) ["web", "lot"]
  d_is_camp : Def1 K mg "is_camp" (topS 43) ["web", "lot"]
  d_camps_of : Def1 K mg "camps_of" (topS 44) ["web"]
  d_camps : Def1 K mg "camps" (topS 45) ["web"]
  d_has_same_ties : Def1 K mg "has_same_ties" (topS 47) ["web", "other_web"]
  d_product_of : Def1 K mg "product_of" (topS 48) ["web", "other_web"]
  d_alike_of : Def1 K mg "alike_of" (topS 49) ["web", "other_web"]
  d_are_alike : Def1 K mg "are_alike" (topS 50) ["web", "other_web"]
  d_law_well : Def1 K mg "_law_well" (topS 52) ["_law_script"]
  d_law_dip : Def1 K mg "_law_dip" (topS 53) ["_law_well_here", "_law_many_here"]
  d_law_many : Def1 K mg "_law_many" (topS 54) ["_law_well_here", "_law_most"]
  d_law_web : Def1 K mg "_law_web" (topS 55) ["_law_well_here", "_law_many_here"]
  d_law_number : Def1 K mg "_law_number" (topS 56) ["_law_value"]
  d_law_lot : Def1 K mg "_law_lot" (topS 57) ["_law_well_here", "_law_many_here"]
  d_law_turned : Def1 K mg "_law_turned" (topS 58) ["_law_web_here", "_law_lot_here"]
  d_law_ties : Def1 K mg "_law_ties" (topS 59) ["_law_web_here"]
  d_law_sides : Def1 K mg "_law_sides" (topS 60) ["_law_web_here"]
  d_law_bad_web : Def1 K mg "_law_bad_web" (topS 61) ["_law_well_here", "_law_web_here"]
  d_law_just : Def1 K mg "_law_just" (topS 62) ["_law_caught_here", "_law_kind"]
  d_law_caught : Def1 K mg "_law_caught" (topS 63) ["_law_web_here", "_law_tie", "_law_named"]
  d_law_due : Def1 K mg "_law_due" (topS 64) ["_law_web_here", "_law_tie"]
  d_law_tie_right : Def1 K mg "_law_tie_right" (topS 65) ["_law_web_here", "_law_tie", "_law_named"]
  d_law_bad_tie : Def1 K mg "_law_bad_tie" (topS 66) ["_law_well_here", "_law_web_here"]
  d_law : Def1 K mg "law" (topS 67) ["_law_script"]
end Sg
set_option maxRecDepth 100000
set_option maxHeartbeats 2000000
/-! G1: the checks of values. -/
namespace Sg
open PySem PySem.Spec L2 Dv
def isInt : PyData → Bool
  | .int _ => true
  | _ => false
def isTup : PyData → Bool
  | .tuple _ => true
  | _ => false
section
variable {P : Program} {w : World} {K : PySem.W.Frag} {mg : Str → Option Value} {base : Heap}
def R_is_integer : List PyData → PyData → Prop := fun ds d => ∃ a, ds = [a] ∧ d = .bool (isInt a)
def R_is_between : List PyData → PyData → Prop := fun ds d => ∃ lo a hi, ds = [.int lo, a, .int hi] ∧ d = .bool (betw lo a hi)
def R_is_tuple_of : List PyData → PyData → Prop := fun ds d => ∃ n a, ds = [.int n, a] ∧ d = .bool (isTupN n a)
/-- no datum that is told holds a dict -/
theorem dp_ne_dict {F : Hp} {v : V} {kvs : List (PyData × PyData)} (h : Dp K F v (.dict kvs)) : False := by cases h
def isIB : PyData → Bool
  | .int _ => true
  | .bool _ => true
  | _ => false
def isBl : PyData → Bool
  | .bool _ => true
  | _ => false
theorem kit_tup {F : Hp} {v : V} {a : PyData} (h : Dp K F v a) : kitB (tyN a) "tuple" = some (isTup a) := by
  cases h with
  | non => exact (by decide +kernel : kitB "NoneType" "tuple" = some false)
  | bl b => exact (by decide +kernel : kitB "bool" "tuple" = some false)
  | int b => exact (by decide +kernel : kitB "int" "tuple" = some false)
  | str b => exact (by decide +kernel : kitB "str" "tuple" = some false)
  | lst _ _ => exact (by decide +kernel : kitB "list" "tuple" = some false)
  | tup _ _ => exact (by decide +kernel : kitB "tuple" "tuple" = some true)
theorem kit_int {F : Hp} {v : V} {a : PyData} (h : Dp K F v a) : kitB (tyN a) "int" = some (isIB a) := by
  cases h with
  | non => exact (by decide +kernel : kitB "NoneType" "int" = some false)
  | bl b => exact (by decide +kernel : kitB "bool" "int" = some true)
  | int b => exact (by decide +kernel : kitB "int" "int" = some true)
  | str b => exact (by decide +kernel : kitB "str" "int" = some false)
  | lst _ _ => exact (by decide +kernel : kitB "list" "int" = some false)
  | tup _ _ => exact (by decide +kernel : kitB "tuple" "int" = some false)
theorem kit_bool {F : Hp} {v : V} {a : PyData} (h : Dp K F v a) : kitB (tyN a) "bool" = some (isBl a) := by
  cases h with
  | non => exact (by decide +kernel : kitB "NoneType" "bool" = some false)
  | bl b => exact (by decide +kernel : kitB "bool" "bool" = some true)
  | int b => exact (by decide +kernel : kitB "int" "bool" = some false)
  | str b => exact (by decide +kernel : kitB "str" "bool" = some false)
  | lst _ _ => exact (by decide +kernel : kitB "list" "bool" = some false)
  | tup _ _ => exact (by decide +kernel : kitB "tuple" "bool" = some false)
theorem evd_isTup {te : TE} {σ : L2.St} {F H : Hp} {a : PyData} {v : V} (h : EvD K te σ F H a) (hv : Dp K F v a) : EvD K (tCB (rIsi K) (tCons te (tCons (tC (.ty "tuple")) tNil))) σ F H (.bool (isTup a)) := by
  exact evd_isi h (kit_tup hv)
theorem sc_is_integer : FnScope ["value"] ["value"] (defScope (topS 9)) := ⟨rfl, rfl, rfl, by decide +kernel, rfl, by decide +kernel, by decide +kernel⟩
theorem c_is_integer (T : Txt K mg) : Cal P w K mg base CX0 1 "is_integer" ["value"] (spD K R_is_integer) := by
  refine T.d_is_integer.calD sc_is_integer (fun ds d ⟨a, e, _⟩ => by rw [e]; rfl) (fun f cdv A outer s F H vs ds d Q E hr z ha r q => ?_)
  obtain ⟨a, rfl, rfl⟩ := r
  obtain ⟨v, rfl, hv⟩ := DpAll.one_inv ha
  refine ⟨_, (pss_one (ps_ret (pe_and (q_isi_int K T.isinstance_n T.int_n (pv 0)) (pe_one (pe_not (q_isi_bool K T.isinstance_n T.bool_n (pv 0))))))), ?_⟩
  have e1 : EvD K (tVar 0) (start ["value"] [v]) F H a := evd_var rfl hv
  refine st_ret z (evd_eq (e := .bool (isInt a)) (evd_and (evd_isi e1 (kit_int hv)) fun _ => evd_not (evd_isi e1 (kit_bool hv))) ?_) q
  cases a <;> rfl
theorem sc_is_between : FnScope ["low", "value", "high"] ["low", "value", "high"] (defScope (topS 10)) := ⟨rfl, rfl, rfl, by decide +kernel, rfl, by decide +kernel, by decide +kernel⟩
theorem c_is_between (T : Txt K mg) : Cal P w K mg base CX0 2 "is_between" ["low", "value", "high"] (spD K R_is_between) := by
  have c_is_integer := c_is_integer (P := P) (w := w) (base := base) T
  refine T.d_is_between.calD sc_is_between (fun ds d ⟨a, b, c, e, _⟩ => by rw [e]; rfl) (fun f cdv A outer s F H vs ds d Q E hr z ha r q => ?_)
  obtain ⟨lo, a, hi, rfl, rfl⟩ := r
  obtain ⟨v1, v2, v3, rfl, h1, h2, h3⟩ := DpAll.three_inv ha
  refine ⟨_, (pss_one (ps_ret (pe_and (pe_cal c_is_integer hr (by decide) pass0 (pa_cons (pv 1) pa_nil)) (pe_one (pe_chain op_le op_le (pv 0) (pv 1) (pv 2)))))), ?_⟩
  refine st_ret z (evd_eq (e := .bool (betw lo a hi)) (evd_and (c := betw lo a hi) (evd_call (eva_one (evd_var rfl h2)) ⟨a, rfl, rfl⟩) fun hi1 => ?_) ?_) q
  · cases a with
    | int i => exact evd_chain (g := fun a b => decide (a ≤ b)) (g' := fun a b => decide (a ≤ b)) (evd_var rfl h1) (evd_var rfl h2) (evd_var rfl h3)
    | _ => cases hi1
  · cases a <;> rfl
theorem sc_is_tuple_of : FnScope ["many", "value"] ["many", "value"] (defScope (topS 11)) := ⟨rfl, rfl, rfl, by decide +kernel, rfl, by decide +kernel, by decide +kernel⟩
theorem c_is_tuple_of (T : Txt K mg) : Cal P w K mg base CX0 1 "is_tuple_of" ["many", "value"] (spD K R_is_tuple_of) := by
  refine T.d_is_tuple_of.calD sc_is_tuple_of (fun ds d ⟨a, b, e, _⟩ => by rw [e]; rfl) (fun f cdv A outer s F H vs ds d Q E hr z ha r q => ?_)
  obtain ⟨n, a, rfl, rfl⟩ := r
  obtain ⟨v1, v2, rfl, h1, h2⟩ := DpAll.two_inv ha
  refine ⟨_, (pss_one (ps_ret (pe_and (q_isi_tuple K T.isinstance_n T.tuple_n (pv 1)) (pe_one (pe_cmpR op_eq (q_len K T.len_n (pv 1)) (pv 0) (nomark _)))))), ?_⟩
  refine st_ret z (evd_eq (e := .bool (isTupN n a)) (evd_and (c := isTupN n a) (evd_isTup (evd_var rfl h2) h2) fun hi1 => ?_) ?_) q
  · cases a with
    | tuple xs => exact evd_eqI (evd_lenT (evd_var rfl h2)) (evd_var rfl h1)
    | _ => cases hi1
  · cases a <;> rfl
end
end Sg
set_option maxRecDepth 100000
set_option maxHeartbeats 2000000
/-! G2: is_web. -/
namespace Sg
open PySem PySem.Spec L2 Dv
section
variable {P : Program} {w : World} {K : PySem.W.Frag} {mg : Str → Option Value} {base : Heap}
theorem evd_glob {σ : L2.St} {F H : Hp} {i : Int} : EvD K (tC (.int i)) σ F H (.int i) := evd_i
/-- web[x][y] -/
theorem evd_cell {σ : L2.St} {F H : Hp} {n x y : Nat} {W : Nat → Nat → Int} {tw tx ty : TE} (hw : EvD K tw σ F H (matD n W)) (hx : EvD K tx σ F H (.int (x : Nat))) (hy : EvD K ty σ F H (.int (y : Nat))) (lx : x < n) (ly : y < n) :
    EvD K (tOp (rIxT K) (tOp (rIxT K) tw tx) ty) σ F H (.int (W x y)) :=
  evd_ixT (n := y) (ds := (List.range n).map fun y => .int (W x y)) (evd_ixT (n := x) hw hx (at_rng lx)) hy (at_rng ly)
def R_is_web : List PyData → PyData → Prop := fun ds d => ∃ a b, ds = [a] ∧ d = .bool b ∧ (b = true ↔ IsWeb a)
theorem sc_is_web : FnScope ["value", "line", "places", "even", "x", "y", "sign"] ["value"] (defScope (topS 16)) := ⟨rfl, rfl, rfl, by decide +kernel, rfl, by decide +kernel, by decide +kernel⟩
theorem c_is_web (T : Txt K mg) : Cal P w K mg base CX0 4 "is_web" ["value"] (spD K R_is_web) := by
  have c_is_tuple_of := c_is_tuple_of (P := P) (w := w) (base := base) T
  have c_is_between := c_is_between (P := P) (w := w) (base := base) T
  obtain ⟨tm, hmost⟩ := T.most
  refine T.d_is_web.calD sc_is_web (fun ds d ⟨a, b, e, _⟩ => by rw [e]; rfl) (fun f cdv A outer s F H vs ds d Q E hr z ha r q => ?_)
  have nd := sc_is_web.nd
  obtain ⟨a, b, rfl, rfl, hb⟩ := r
  obtain ⟨v, rfl, hv⟩ := DpAll.one_inv ha
  refine ⟨_, (pss_cons (ps_if (PW.pt (pw_or (pt_not (pt_val (q_isi_tuple K T.isinstance_n T.tuple_n (pv 0)))) (pw_or1 (pt_not (pt_chain op_le op_le pe_int (q_len K T.len_n (pv 0)) (pe_glob (v := .int 10) rfl hmost ⟨_, rfl⟩)))))) (pss_one (ps_ret pe_bl)) pss_nil)
      (pss_cons (ps_for PassesOwn.never rfl (kTup K (pv 0)) (pg_name (i := 1) nd rfl (Or.inl rfl)) (pss_one (ps_if (PW.pt (pw_or (pt_not (pt_val (pe_cal c_is_tuple_of hr (by decide) pass0 (pa_cons (q_len K T.len_n (pv 0)) (pa_cons (pv 1) pa_nil))))) (pw_or1 (pt_not (pt_val (q_all K rfl T.all_n (pe_lc (own := [("sign", 6)]) rfl nd (kTup K (pv 1)) (blkOk_by (by kernel_rfl)) (fun _ _ _ _ _ => (pg_name (i := 6) nd rfl (Or.inl rfl))) (fun _ _ _ _ _ => pts_nil) (fun _ _ _ _ _ => (pe_cal c_is_between hr (by decide) pass0 (pa_cons (pe_un un_neg pe_int) (pa_cons (pv 6) (pa_cons pe_int pa_nil)))))))))))) (pss_one (ps_ret pe_bl)) pss_nil)))
      (pss_cons (ps_set (i := 2) nd rfl (Or.inl rfl) (q_range T.range_n (q_len K T.len_n (pv 0))))
      (pss_cons (ps_set (i := 3) nd rfl (Or.inl rfl) (q_all K rfl T.all_n (pe_lc2 (own := [("x", 4), ("y", 5)]) (vs1 := [5]) rfl nd (Ex1.pi_rngV (pv 2)) (blkOk_by (by kernel_rfl)) (by decide) (fun _ _ _ _ _ => (pg_name (i := 4) nd rfl (Or.inl rfl))) (fun _ _ _ _ _ => pts_nil) (fun _ _ _ _ _ => (pi_range1 rfl T.range_n (pa_cons (pv 4) pa_nil))) (fun _ _ _ _ _ => (pg_name (i := 5) nd rfl (Or.inl rfl))) (fun _ _ _ _ _ => pts_nil) (fun _ _ _ _ _ => (pe_cmpR op_eq (pe_ix (kIxT K) (pe_ix (kIxT K) (pv 0) (pv 4) (fun _ _ => rfl)) (pv 5) (fun _ _ => rfl)) (pe_ix (kIxT K) (pe_ix (kIxT K) (pv 0) (pv 5) (fun _ _ => rfl)) (pv 4) (fun _ _ => rfl)) (nomark _))))))
      (pss_one (ps_ret (pe_and (pv 3) (pe_one (q_all K rfl T.all_n (pe_lc (own := [("x", 4)]) rfl nd (Ex1.pi_rngV (pv 2)) (blkOk_by (by kernel_rfl)) (fun _ _ _ _ _ => (pg_name (i := 4) nd rfl (Or.inl rfl))) (fun _ _ _ _ _ => pts_nil) (fun _ _ _ _ _ => (pe_cmpR op_eq (pe_ix (kIxT K) (pe_ix (kIxT K) (pv 0) (pv 4) (fun _ _ => rfl)) (pv 4) (fun _ _ => rfl)) pe_int (nomark _))))))))))))), ?_⟩
  have no : ∀ {F1 H1 : Hp} {v : V}, Same F1 H1 → Gr F H F1 H1 → ¬ IsWeb a → v = .bl false → Q v H1 := fun {F1 H1 v} z1 g nw e => by
    subst e
    have e : b = false := by
      cases b with
      | false => rfl
      | true => exact (nw (hb.mp rfl)).elim
    subst e
    exact q _ F1 H1 g (.bl _)
  have hv0 : EvD K (tVar 0) (start ["value", "line", "places", "even", "x", "y", "sign"] [v]) F H a := evd_var rfl hv
  have goods : ∀ {ds : List PyData}, IsWeb (.tuple ds) → (1 ≤ ds.length ∧ ds.length ≤ 10) ∧ ∀ i, (hi : i < ds.length) → goodRow ds.length (ds[i]'hi) = true := fun {ds} h => by
    obtain ⟨n, W, e, ww⟩ := h
    injection e with e
    have el : ds.length = n := by rw [e, len_rng]
    refine ⟨⟨by rw [el]; exact ww.lo, by rw [el]; exact ww.hi⟩, fun i hi => ?_⟩
    have ei : ds[i]'hi = rowD n W i := by simp only [e, List.getElem_map, List.getElem_range]
    rw [ei, el]
    exact good_row fun y hy => ww.sgn i y (by omega) hy
  by_cases hta : ∃ ds, a = .tuple ds
  · obtain ⟨ds, rfl⟩ := hta
    refine st_seq (st_if z (evt_or (evt_not (evt_B (evd_isTup hv0 hv))) fun _ => evt_not (evt_test (evd_chain (K := K) (g := fun a b => decide (a ≤ b)) (g' := fun a b => decide (a ≤ b)) evd_i (evd_lenT hv0) evd_i))) (fun hb1 F1 H1 g1 => ?_) fun hb1 F1 H1 g1 => ?_)
    · refine st_ret g1.fh (evd_b (K := K)) fun v2 F2 H2 g2 p2 => no g2.fh (g1.trans g2) (fun hw => ?_) p2.bl_inv
      have := (goods hw).1
      simp [isTup] at hb1
      omega
    · simp only [isTup, Bool.not_true, Bool.false_or, Bool.not_eq_false', Bool.and_eq_true, decide_eq_true_eq] at hb1
      refine st_seq (st_for (n := ds.length) (item := fun i => ds.getD i .none) (fun i σ' F' H' => ∃ y, σ' = [some v, y, none, none, none, none, none] ∧ Gr F1 H1 F' H' ∧ ∀ j, (hj : j < ds.length) → j < i → goodRow ds.length (ds[j]'hj) = true) g1.fh (iwd_tup (evd_var rfl (hv.up g1.f)))
        (fun F2 H2 g2 => ⟨none, rfl, g2, fun j _ h => absurd h (Nat.not_lt_zero _)⟩) ?_ ?_)
      · rintro i σ' F' H' F'' H'' x N hi f z' ⟨y, rfl, gg, hgood⟩ g' hx hN
        have G := gg.trans g'
        have hvx : Dp K F'' v (.tuple ds) := hv.up (g1.f.trans G.f)
        have ed : ds.getD i .none = ds[i]'hi := by rw [List.getD_eq_getElem?_getD, List.getElem?_eq_getElem hi]; rfl
        rw [ed] at hx
        show tIfS _ _ _ _ [some v, some x, none, none, none, none, none] H''
        by_cases hT : isTupN (ds.length : Nat) (ds[i]'hi) = true
        · obtain ⟨rs, er⟩ : ∃ rs, ds[i]'hi = .tuple rs := by
            cases q : ds[i]'hi with
            | tuple rs => exact ⟨rs, rfl⟩
            | _ => rw [q] at hT; cases hT
          have eg : goodRow ds.length (ds[i]'hi) = ((List.range rs.length).all fun k => betw (-1) (rs.getD k .none) 1) := by
            rw [er] at hT
            simp only [isTupN, decide_eq_true_eq] at hT
            have hl : rs.length = ds.length := by omega
            rw [er]
            simp only [goodRow, hl, decide_true, Bool.true_and]
            rw [Bool.eq_iff_iff, List.all_eq_true, List.all_eq_true]
            constructor
            · intro h k hk
              have hk' : k < rs.length := by rw [hl]; exact List.mem_range.mp hk
              have e2 : rs.getD k .none = rs[k] := by rw [List.getD_eq_getElem?_getD, List.getElem?_eq_getElem hk']; rfl
              rw [e2]
              exact h _ (List.getElem_mem hk')
            · intro h e he
              obtain ⟨k, hk, rfl⟩ := List.mem_iff_getElem.mp he
              have e2 : rs.getD k .none = rs[k] := by rw [List.getD_eq_getElem?_getD, List.getElem?_eq_getElem hk]; rfl
              rw [← e2]
              exact h k (List.mem_range.mpr (by omega))
          refine st_if g'.fh (b := !(goodRow ds.length (ds[i]'hi))) (evt_eq (evt_or (evt_not (evt_B (evd_call (eva_cons (evd_lenT (evd_var rfl hvx)) (eva_one (evd_var rfl hx))) ⟨_, _, rfl, rfl⟩))) fun _ => evt_not (evt_B (evd_allR (f := fun k => betw (-1) (rs.getD k .none) 1)
            (evd_lc0 _ (iwd_tup (ds := rs) (evd_var rfl (by rw [← er]; exact hx))) ?_ (fun _ _ _ _ _ _ => tgd_name) (by rintro _ _ _ ⟨x, rfl, _⟩; rfl) ?_)))) ?_) (fun hb2 F2 H2 g2 => ?_) fun hb2 F2 H2 g2 => ?_
          · rw [er] at hT
            simp only [isTupN, decide_eq_true_eq] at hT
            omega
          · rintro k σ2 F3 H3 hk f3 h3 z3 ⟨u, rfl, hu⟩
            exact evd_call (eva_cons (evd_unI evd_i) (eva_cons (evd_var rfl hu) (eva_one evd_i))) ⟨_, _, _, rfl, rfl⟩
          · rw [hT, eg]; rfl
          · refine st_ret g2.fh (evd_b (K := K)) fun v2 F3 H3 g3 p3 => no g3.fh (((g1.trans G).trans g2).trans g3) (fun hw => ?_) p3.bl_inv
            rw [(goods hw).2 i hi] at hb2
            cases hb2
          · refine hN _ F2 H2 g2.f g2.fh ⟨_, rfl, G.trans g2, fun j hj hji => ?_⟩
            rcases Nat.lt_succ_iff_lt_or_eq.mp hji with h | h
            · exact hgood j hj h
            · subst h
              simpa using hb2
        · have hT' : isTupN (ds.length : Nat) (ds[i]'hi) = false := by simpa using hT
          refine st_if g'.fh (b := true) (evt_eq (evt_or (c := false) (evt_not (evt_B (evd_call (eva_cons (evd_lenT (evd_var rfl hvx)) (eva_one (evd_var rfl hx))) ⟨_, _, rfl, rfl⟩))) fun h => ?_) ?_) (fun hb2 F2 H2 g2 => ?_) fun hb2 F2 H2 g2 => by cases hb2
          · rw [hT'] at h; cases h
          · rw [hT']; rfl
          · refine st_ret g2.fh (evd_b (K := K)) fun v2 F3 H3 g3 p3 => no g3.fh (((g1.trans G).trans g2).trans g3) (fun hw => ?_) p3.bl_inv
            have h := (goods hw).2 i hi
            have e : goodRow ds.length (ds[i]'hi) = false := by
              cases q : ds[i]'hi with
              | tuple rs =>
                rw [q] at hT'
                simp only [isTupN, decide_eq_false_iff_not] at hT'
                have : ¬ rs.length = ds.length := by omega
                simp [goodRow, this]
              | _ => rfl
            rw [e] at h
            cases h
      · rintro σ' F' H' f z' ⟨y, rfl, gg, hgood⟩
        obtain ⟨em, eb⟩ := mat_of_good rfl fun i hi => hgood i hi hi
        generalize hWW : (fun x y => ent (ds.getD x .none) y) = W at em
        have eb' : ∀ x y, x < ds.length → y < ds.length → -1 ≤ W x y ∧ W x y ≤ 1 := by subst hWW; exact eb
        clear eb hWW
        rw [em] at hv hb
        have hvm : Dp K F' v (matD ds.length W) := hv.up (g1.f.trans gg.f)
        clear hgood goods no
        generalize ds.length = n at *
        refine st_seq (st_asg gg.fh (evp_rng (evd_lenR (evd_var rfl hvm))) fun v2 F2 H2 g2 ⟨p, e, hp⟩ => ?_)
        subst e
        have hv2 := hvm.up g2.f
        have rg : ∀ {σ3 : L2.St}, σ3[2]? = some (some (.ref p)) → EvP (tVar 2) σ3 F2 H2 (IsRng n) := fun {σ3} e F3 H3 x y z Q q => ⟨_, e, q _ F3 H3 (.refl z) ⟨p, rfl, x _ _ hp⟩⟩
        refine st_seq (st_asg g2.fh (evd_allR2 (g := fun i j => decide (W i j = W j i)) (evd_lc2 (B := 10) (fun _ => true) (fun i => i) (fun _ j => .int (j : Nat)) (fun _ _ => true) _ (iwd_rng (rg rfl) (by omega) (by omega)) (fun i hi => by simp at hi; omega) (by simp; omega) (by decide)
          (fun _ _ _ _ _ _ => tgd_int) (by rintro _ _ _ rfl; rfl) (by rintro _ _ _ _ rfl _; rfl) (fun _ _ _ _ _ _ _ _ _ => evt_yes) ?_ (fun _ _ _ _ _ _ _ _ _ _ => tgd_int) (by rintro _ _ _ _ _ rfl; exact wipe_set (by decide)) (fun _ _ _ _ _ _ _ _ _ _ _ _ _ => evt_yes) ?_)) fun v3 F3 H3 g3 p3 => ?_)
        · rintro i σ2 F3 H3 hi _ f3 h3 z3 rfl
          exact (iwd_range1 (n := (i : Int)) (evd_vari rfl) (by simp at hi; omega) (by omega))
        · rintro i j σ2 σ3 F3 H3 hi hj _ f3 h3 z3 rfl rfl
          simp at hi
          have hv3 : Dp K F3 v (matD n W) := hv2.up f3
          exact evd_eqI (evd_cell (evd_var rfl hv3) (evd_vari rfl) (evd_vari rfl) hi (by omega)) (evd_cell (evd_var rfl hv3) (evd_vari rfl) (evd_vari rfl) (by omega) hi)
        · refine st_ret g3.fh (evd_eq (e := .bool b) (evd_and (evd_var rfl p3) fun _ => evd_allR (f := fun i => decide (W i i = 0)) (evd_lc0 _ (iwd_rng ((rg rfl).mono g3.f g3.h) (by omega) (by omega)) (by omega) (fun _ _ _ _ _ _ => tgd_int) (by rintro _ _ _ rfl; rfl) ?_)) ?_) fun v4 F4 H4 g4 p4 => q v4 F4 H4 (((g1.trans gg).trans g2).trans (g3.trans g4)) p4
          · rintro i σ2 F4 H4 hi f4 h4 z4 rfl
            simp at hi
            exact evd_eqI (evd_cell (evd_var rfl ((hv2.up g3.f).up f4)) (evd_vari rfl) (evd_vari rfl) hi hi) evd_i
          · congr 1
            rw [Bool.eq_iff_iff, hb, isWeb_mat]
            simp only [Int.toNat_natCast, Bool.and_eq_true, List.all_eq_true, List.mem_range, decide_eq_true_eq]
            constructor
            · rintro ⟨h1, h2⟩
              refine ⟨by omega, by omega, fun x y hx hy => ?_, fun x y hx hy => ?_, h2⟩
              · have := eb' x y hx hy
                omega
              · rcases Nat.lt_trichotomy x y with h | h | h
                · exact (h1 y hy x h).symm
                · rw [h]
                · exact h1 x hx y h
            · exact fun ww => ⟨fun x hx y hy => ww.sym x y hx (by omega), ww.dia⟩
  · have hf : isTup a = false := by
      cases a with
      | tuple ds => exact (hta ⟨ds, rfl⟩).elim
      | _ => rfl
    refine st_seq (st_if z (b := true) (evt_eq (evt_or (c := false) (evt_not (evt_B (evd_isTup hv0 hv))) fun hb0 => ?_) ?_) (fun hb1 F1 H1 g1 => ?_) fun hb1 F1 H1 g1 => by cases hb1)
    · rw [hf] at hb0; cases hb0
    · rw [hf]; rfl
    · refine st_ret g1.fh (evd_b (K := K)) fun v2 F2 H2 g2 p2 => no g2.fh (g1.trans g2) (fun hw => ?_) p2.bl_inv
      obtain ⟨n, W, e, _⟩ := hw
      exact hta ⟨_, e⟩
end
end Sg
set_option maxRecDepth 100000
set_option maxHeartbeats 2000000
/-! Err: the text's exception classes, what the top leaves of them. -/
namespace Sg
open PySem PySem.Spec L2 Dv
abbrev veL : List Value := [.type "ValueError", .type "Exception", .type "BaseException", .type "object"]
/-- a class without own __init__, or with: raised, caught as SE, asked for -/
structure Err1 (K : PySem.W.Frag) (SE IW IT NB TM C : Addr) (b1 b2 b3 : Bool) : Prop where
  kx : Ex4.KxC K C
  ex : PySem.W.exmOne K (.ref C) (.ref SE) = some true
  k1 : PySem.W.kitOne K (.ref C) (.ref IW) = some b1
  k2 : PySem.W.kitOne K (.ref C) (.ref IT) = some b2
  k3 : PySem.W.kitOne K (.ref C) (.ref NB) = some b3
  k4 : PySem.W.kitOne K (.ref C) (.ref TM) = some false
  k5 : PySem.W.kitOne K (.ref C) (.ref SE) = some true
  k6 : PySem.W.kitOne K (.ref C) (.type "ValueError") = some true
structure ErrM (K : PySem.W.Frag) (mg : Str → Option Value) (x : Str) (C : Addr) : Prop where
  m : mg x = some (.ref C)
  q : PySem.W.excIn K C veL "ValueError.__new__" = true
  kp : PySem.W.keepIn K (.ref C) = true
  r1 : PySem.W.subIn K (.ref C) (.type "BaseException") = some true
  r2 : PySem.W.typeIn K (.ref C) = some (.type "type")
structure Errs (P : Program) (K : PySem.W.Frag) (mg : Str → Option Value) (SE IW IT NB TM fI : Addr) (fd : FuncData) : Prop where
  iw : ErrM K mg "InvalidWeb" IW
  it : ErrM K mg "InvalidTie" IT
  nb : Ex3.NbC K P NB fI fd
  nbm : mg "NotBalanced" = some (.ref NB)
  sem : mg "SignError" = some (.ref SE)
  tmm : mg "TooMany" = some (.ref TM)
  iw1 : Err1 K SE IW IT NB TM IW true false false
  it1 : Err1 K SE IW IT NB TM IT false true false
  nb1 : Err1 K SE IW IT NB TM NB false false true
  nbf : XfC K NB
section
variable {X : Cx}
theorem hu1 {k : Nat} {A : Around} (r : Room k A) : A.units + 1 < cLine := by have := r.un; omega
theorem hu2 {k : Nat} {A : Around} (r : Room k A) : A.units + 2 < cLine := by have := r.un; omega
/-- raise C('m') -/
theorem ps_rz {W : WX} {x m : Str} {C : Addr} {j : Nat} {p p2 pos pos' : Pos} (hc : X.calm = true) (tk : Takes X W) (E : ErrM X.K X.mg x C) (hg : Gl X x) (hdb : (x == ("__debug__" : Str)) = false := by decide) :
    PS X (.Raise (some (.Call (.Name x p) [.Constant (.str m) j p2] [] pos)) none pos') (fun _ σ H => W (.ref C) none σ H) :=
  ps_raise hc tk (pmk_own PySem.F.excBase_ValueError E.q E.m E.kp (raises_own E.r1 E.r2) hg hdb)
end
end Sg
set_option maxRecDepth 100000
set_option maxHeartbeats 2000000
/-! G3: lots, ties, checks. -/
namespace Sg
open PySem PySem.Spec L2 Dv
section
variable {P : Program} {w : World} {K : PySem.W.Frag} {mg : Str → Option Value} {base : Heap}
abbrev lotD (ns : List Int) : PyData := .tuple (ns.map PyData.int)
theorem ix_lot {σ : L2.St} {F H : Hp} {ns : List Int} {tl ti : TE} {k : Nat} (h : EvD K tl σ F H (lotD ns)) (hi : EvD K ti σ F H (.int (k : Nat))) (lk : k < ns.length) : EvD K (tOp (rIxT K) tl ti) σ F H (.int (ns.getD k 0)) :=
  evd_ixT (n := k) h hi (by rw [List.getElem?_map, List.getElem?_eq_getElem lk, List.getD_eq_getElem?_getD, List.getElem?_eq_getElem lk]; rfl)
/-- is_lot_of, a lot given -/
def R_is_lot_of : List PyData → PyData → Prop := fun ds d => ∃ (n : Nat) (ns : List Int), ds = [.int (n : Nat), lotD ns] ∧ d = .bool true ∧ ns.length ≤ 1000 ∧ (∀ x ∈ ns, 0 ≤ x ∧ x < n) ∧ ∀ k, k + 1 < ns.length → ns.getD k 0 < ns.getD (k + 1) 0
theorem sc_is_lot_of : FnScope ["many", "value", "k", "place"] ["many", "value"] (defScope (topS 12)) := ⟨rfl, rfl, rfl, by decide +kernel, rfl, by decide +kernel, by decide +kernel⟩
theorem c_is_lot_of (T : Txt K mg) : Cal P w K mg base CX0 4 "is_lot_of" ["many", "value"] (spD K R_is_lot_of) := by
  have c_is_between := c_is_between (P := P) (w := w) (base := base) T
  refine T.d_is_lot_of.calD sc_is_lot_of (fun ds d ⟨n, ns, e, _⟩ => by rw [e]; rfl) (fun f cdv A outer s F H vs ds d Q E hr z ha r q => ?_)
  have nd := sc_is_lot_of.nd
  obtain ⟨n, ns, rfl, rfl, hl, hin, hup⟩ := r
  obtain ⟨v1, v2, rfl, h1, h2⟩ := DpAll.two_inv ha
  obtain rfl := h1.int_inv
  refine ⟨_, (pss_cons (ps_if (PW.pt (pw_or (pt_not (pt_val (q_isi_tuple K T.isinstance_n T.tuple_n (pv 1)))) (pw_or1 (pt_not (pt_val (q_all K rfl T.all_n (pe_lc (own := [("place", 3)]) rfl nd (kTup K (pv 1)) (blkOk_by (by kernel_rfl)) (fun _ _ _ _ _ => (pg_name (i := 3) nd rfl (Or.inl rfl))) (fun _ _ _ _ _ => pts_nil) (fun _ _ _ _ _ => (pe_cal c_is_between hr (by decide) pass0 (pa_cons pe_int (pa_cons (pv 3) (pa_cons (pe_op op_sub (pv 0) pe_int) pa_nil)))))))))))) (pss_one (ps_ret pe_bl)) pss_nil)
      (pss_one (ps_ret (q_all K rfl T.all_n (pe_lc (own := [("k", 2)]) rfl nd (pi_range1 rfl T.range_n (pa_cons (pe_op op_sub (q_len K T.len_n (pv 1)) pe_int) pa_nil)) (blkOk_by (by kernel_rfl)) (fun _ _ _ _ _ => (pg_name (i := 2) nd rfl (Or.inl rfl))) (fun _ _ _ _ _ => pts_nil) (fun _ _ _ _ _ => (pe_cmpR op_lt (pe_ix (kIxT K) (pv 1) (pv 2) (fun _ _ => rfl)) (pe_ix (kIxT K) (pv 1) (pe_op op_add (pv 2) pe_int) (fun _ _ => rfl)) (nomark _)))))))), ?_⟩
  have ev : ∀ {F1 H1 : Hp} {a b : Option V}, Same F F1 → EvD K (tVar 1) [some (.int n), some v2, a, b] F1 H1 (lotD ns) := fun f => evd_var rfl (h2.up f)
  refine st_seq (st_if z (b := false) (evt_eq (evt_or (evt_not (evt_B (evd_isTup (ev (Same.refl _)) h2))) fun _ => evt_not (evt_B (evd_allR (f := fun k => betw 0 (.int (ns.getD k 0)) (n - 1)) (evd_lcI0 _ (iwd_ints (ev (Same.refl _))) (by omega) fun i F1 H1 hi f1 h1 z1 => ?_)))) ?_) (fun h => by cases h) fun _ F1 H1 g1 => ?_)
  · exact evd_call (eva_cons evd_i (eva_cons (evd_vari rfl) (eva_one (evd_opI (g := fun a b => a - b) (evd_vari rfl) evd_i)))) ⟨_, _, _, rfl, rfl⟩
  · have e : (List.range ns.length).all (fun k => betw 0 (.int (ns.getD k 0)) (n - 1)) = true := by
      rw [List.all_eq_true]
      intro k hk
      have hk' := List.mem_range.mp hk
      have hx := hin (ns.getD k 0) (by rw [List.getD_eq_getElem?_getD, List.getElem?_eq_getElem hk']; exact List.getElem_mem hk')
      simp only [betw, Bool.and_eq_true, decide_eq_true_eq]
      omega
    rw [e]; rfl
  · refine st_ret g1.fh (evd_eq (evd_allR (f := fun k => decide (ns.getD k 0 < ns.getD (k + 1) 0)) (evd_lcI0 (g := fun k => (k : Nat)) _ (iwd_range1 (n := (ns.length : Int) - 1) (evd_opI (g := fun a b => a - b) (evd_eq (evd_lenT (ev g1.f)) (by rw [List.length_map])) evd_i) (by omega) (by omega)) (by omega) fun i F2 H2 hi f2 h2' z2 => ?_)) ?_) fun v F2 H2 g2 p => q v F2 H2 (g1.trans g2) p
    · have hi' : i + 1 < ns.length := by omega
      exact evd_cmpI (g := fun a b => decide (a < b)) (ix_lot (ev (g1.f.trans f2)) (evd_vari rfl) (by omega)) (ix_lot (k := i + 1) (ev (g1.f.trans f2)) (evd_eq (evd_opI (g := fun a b => a + b) (evd_vari rfl) evd_i) rfl) hi')
    · congr 1
      rw [List.all_eq_true]
      intro k hk
      have hk' := List.mem_range.mp hk
      exact decide_eq_true (hup k (by omega))
/-- check_lot, a lot given -/
def R_check_lot : List PyData → PyData → Prop := fun ds d => d = .none ∧ R_is_lot_of ds (.bool true)
theorem sc_check_lot : FnScope ["many", "value"] ["many", "value"] (defScope (topS 13)) := ⟨rfl, rfl, rfl, by decide +kernel, rfl, by decide +kernel, by decide +kernel⟩
theorem c_check_lot (T : Txt K mg) : Cal P w K mg base CX0 5 "check_lot" ["many", "value"] (spD K R_check_lot) := by
  have c_is_lot_of := c_is_lot_of (P := P) (w := w) (base := base) T
  refine T.d_check_lot.calD sc_check_lot (fun ds d ⟨_, n, ns, e, _⟩ => by rw [e]; rfl) (fun f cdv A outer s F H vs ds d Q E hr z ha r q => ?_)
  obtain ⟨rfl, r⟩ := r
  have r' := r
  obtain ⟨n, ns, rfl, _⟩ := r'
  obtain ⟨v1, v2, rfl, h1, h2⟩ := DpAll.two_inv ha
  refine ⟨_, (pss_one (ps_if (pt_not (pt_val (pe_cal c_is_lot_of hr (by decide) pass0 (pa_cons (pv 0) (pa_cons (pv 1) pa_nil))))) (pss_one ps_never) pss_nil)), ?_⟩
  exact st_if z (b := false) (evt_not (evt_B (evd_call (eva_cons (evd_var rfl h1) (eva_one (evd_var rfl h2))) r))) (fun h => by cases h) fun _ F1 H1 g1 => q _ F1 H1 g1 .non
/-- others_of -/
def R_others_of : List PyData → PyData → Prop := fun ds d => ∃ (n : Nat) (ns : List Int), n ≤ 1000 ∧ ds = [.int (n : Nat), lotD ns] ∧ d = .tuple (picks n (fun i => !decide ((i : Int) ∈ ns)) fun i => .int (i : Nat))
theorem sc_others_of : FnScope ["many", "lot", "place"] ["many", "lot"] (defScope (topS 14)) := ⟨rfl, rfl, rfl, by decide +kernel, rfl, by decide +kernel, by decide +kernel⟩
theorem c_others_of (T : Txt K mg) : Cal P w K mg base CX0 1 "others_of" ["many", "lot"] (spD K R_others_of) := by
  refine T.d_others_of.calD sc_others_of (fun ds d ⟨n, ns, _, e, _⟩ => by rw [e]; rfl) (fun f cdv A outer s F H vs ds d Q E hr z ha r q => ?_)
  have nd := sc_others_of.nd
  obtain ⟨n, ns, hn, rfl, rfl⟩ := r
  obtain ⟨v1, v2, rfl, h1, h2⟩ := DpAll.two_inv ha
  obtain rfl := h1.int_inv
  refine ⟨_, (pss_one (ps_ret (q_tuple K T.tuple_n (pe_lc (own := [("place", 2)]) rfl nd (pi_range1 rfl T.range_n (pa_cons (pv 0) pa_nil)) (blkOk_by (by kernel_rfl)) (fun _ _ _ _ _ => (pg_name (i := 2) nd rfl (Or.inl rfl))) (fun _ _ _ _ _ => (pts_one (pt_cmpR (kNotIn K) (pv 2) (pv 1) (by rfl)))) (fun _ _ _ _ _ => (pv 2)))))), ?_⟩
  exact st_ret z (evd_tupL (evd_lcI (g := fun k => (k : Nat)) _ _ (iwd_range1 (n := (n : Int)) (evd_vari rfl) (by omega) (by omega)) (by omega) (fun i F1 H1 hi f1 h1 z1 => evt_B (evd_inT (neg := true) (evd_vari rfl) (evd_var rfl (h2.up f1)))) fun i F1 H1 hi _ f1 h1 z1 => evd_vari rfl)) q
/-- tie_between: a key -/
def R_tie_between : List PyData → (V → Hp → Hp → Prop) → Prop := fun ds PP => ∃ i j : Int, ds = [.int i, .int j] ∧ PP = IsKey (if i < j then kII i j else kII j i)
theorem sc_tie_between : FnScope ["x", "y"] ["x", "y"] (defScope (topS 18)) := ⟨rfl, rfl, rfl, by decide +kernel, rfl, by decide +kernel, by decide +kernel⟩
theorem c_tie_between (T : Txt K mg) : Cal P w K mg base CX0 1 "tie_between" ["x", "y"] (spP K R_tie_between) := by
  refine T.d_tie_between.calP sc_tie_between (fun ds d ⟨i, j, e, _⟩ => by rw [e]; rfl) (fun f cdv A outer s F H vs ds PP Q E hr z ha r q => ?_)
  obtain ⟨i, j, rfl, rfl⟩ := r
  obtain ⟨v1, v2, rfl, h1, h2⟩ := DpAll.two_inv ha
  obtain rfl := h1.int_inv
  obtain rfl := h2.int_inv
  refine ⟨_, (pss_one (ps_ret (pe_ifExp (pt_cmpR op_lt (pv 0) (pv 1) (nomark _)) (pe_tup (pa_cons (pv 0) (pa_cons (pv 1) pa_nil))) (pe_tup (pa_cons (pv 1) (pa_cons (pv 0) pa_nil)))))), ?_⟩
  refine st_ret z (evp_if (b := decide (i < j)) (evt_test (K := K) (evd_cmpI (g := fun a b => decide (a < b)) (evd_vari rfl) (evd_vari rfl))) (fun h => ?_) fun h => ?_) q
  · rw [if_pos (of_decide_eq_true h)]
    exact evp_key2 (K := K) (evd_vari rfl) (evd_vari rfl)
  · rw [if_neg (of_decide_eq_false h)]
    exact evp_key2 (K := K) (evd_vari rfl) (evd_vari rfl)
end
end Sg
set_option maxRecDepth 100000
set_option maxHeartbeats 2000000
/-! G4: ties, signs, webs by signs. -/
namespace Dv
open PySem PySem.Spec L2
/-- a promise of a new dict -/
def spN (K : PySem.W.Frag) (R : List PyData → Nat → (List Key → Option V) → Prop) : Sp := fun vs H Q _ => ∃ (F : Hp) (ds : List PyData) (B : Nat) (g : List Key → Option V), Same F H ∧ DpAll K F vs ds ∧ R ds B g ∧ ∀ v F' H', Gr F H F' H' → NewD H B g v F' H' → Q v H'
section
variable {K : PySem.W.Frag} {σ : St} {F F' H H' H0 : Hp} {te : TE} {tr : TA} {ds : List PyData} {E : XK} {p : Addr} {B : Nat} {g g' : List Key → Option V}
theorem spN_len {R : List PyData → Nat → (List Key → Option V) → Prop} {ps : List Str} (h : ∀ ds B g, R ds B g → ds.length = ps.length) : ∀ vs H Q E, spN K R vs H Q E → vs.length = ps.length := fun vs H Q E ⟨F, ds, B, g, _, a, r, _⟩ => by rw [a.len]; exact h ds B g r
theorem ODict.base {H1 : Hp} (h : ODict H0 F H p B g) (e : Same H1 H0) : ODict H1 F H p B g := ⟨e.free h.nw, h.out, h.at_⟩
theorem ODict.congr (h : ODict H0 F H p B g) (e : ∀ k, g k = g' k) : ODict H0 F H p B g' := ⟨h.nw, h.out, let ⟨m, a, b, c⟩ := h.at_; ⟨m, a, b, fun k => (c k).trans (e k)⟩⟩
theorem evp_callN {R : List PyData → Nat → (List Key → Option V) → Prop} (h : EvA K tr σ F H ds) (hr : R ds B g) : EvP (tCall (spN K R) [] E tr) σ F H (NewD H B g) :=
  fun F1 H1 x y z Q q => h F1 H1 x y z _ fun vs F2 H2 g2 p2 => by
    show spN K R (vs ++ []) H2 Q E
    rw [List.append_nil]
    exact ⟨F2, ds, B, g, g2.fh, p2, hr, fun v F3 H3 g3 ⟨p, e, hp⟩ => q v F3 H3 (g2.trans g3) ⟨p, e, hp.base (y.trans g2.h)⟩⟩
theorem iwd_pairs {ns : List (Nat × Nat)} (h : EvD K te σ F H (.list (ns.map fun p => .tuple [.int (p.1 : Nat), .int (p.2 : Nat)]))) : IwD K (iList K te) σ F H ns.length fun i => .tuple [.int ((ns.getD i (0, 0)).1 : Nat), .int ((ns.getD i (0, 0)).2 : Nat)] := by
  have q := iwd_lst h
  rw [List.length_map] at q
  exact q.congr fun i hi => by
    rw [List.getD_eq_getElem?_getD, List.getElem?_map, List.getElem?_eq_getElem hi, List.getD_eq_getElem?_getD, List.getElem?_eq_getElem hi]; rfl
end
end Dv
namespace Sg
open PySem PySem.Spec L2 Dv
/-! ### ties -/
def tiesL (n : Nat) (W : Nat → Nat → Int) : List (Nat × Nat) := (List.range n).flatMap fun x => ((List.range (n - (x + 1))).filter fun j => !decide (W x (x + 1 + j) = 0)).map fun j => (x, x + 1 + j)
abbrev tieD (p : Nat × Nat) : PyData := .tuple [.int (p.1 : Nat), .int (p.2 : Nat)]
theorem mem_ties {n : Nat} {W : Nat → Nat → Int} {x y : Nat} : (x, y) ∈ tiesL n W ↔ x < y ∧ y < n ∧ W x y ≠ 0 := by
  unfold tiesL
  simp only [List.mem_flatMap, List.mem_range, List.mem_map, List.mem_filter, Prod.mk.injEq, Bool.not_eq_true', decide_eq_false_iff_not]
  constructor
  · rintro ⟨a, ha, j, ⟨hj, hw⟩, rfl, rfl⟩
    exact ⟨by omega, by omega, hw⟩
  · rintro ⟨h1, h2, h3⟩
    exact ⟨x, by omega, y - (x + 1), ⟨by omega, by rw [show x + 1 + (y - (x + 1)) = y by omega]; exact h3⟩, rfl, by omega⟩
theorem ties_len (n : Nat) (W : Nat → Nat → Int) : (tiesL n W).length ≤ n * n := by
  have h := picks2_len (n := n) (p := fun _ => true) (m := fun x => n - (x + 1)) (p1 := fun x j => !decide (W x (x + 1 + j) = 0)) (f := fun x j => tieD (x, x + 1 + j)) (B := n) fun i hi => by omega
  have e : (picks2 n (fun _ => true) (fun x => n - (x + 1)) (fun x j => !decide (W x (x + 1 + j) = 0)) (fun x j => tieD (x, x + 1 + j))).length = (tiesL n W).length := by
    unfold picks2 picks tiesL
    rw [List.filter_eq_self.mpr fun _ _ => rfl]
    simp only [List.length_flatMap, List.length_map]
  omega
theorem ties_picks (n : Nat) (W : Nat → Nat → Int) : picks2 n (fun _ => true) (fun x => n - (x + 1)) (fun x j => !decide (W x (x + 1 + j) = 0)) (fun x j => tieD (x, x + 1 + j)) = (tiesL n W).map tieD := by
  unfold picks2 picks tiesL
  rw [List.filter_eq_self.mpr fun _ _ => rfl, List.map_flatMap]
  congr 1
  funext x
  rw [List.map_map]
  rfl
theorem ties_congr {n : Nat} {W U : Nat → Nat → Int} (h : ∀ x y, x < n → y < n → W x y = U x y) : tiesL n W = tiesL n U := by
  unfold tiesL
  have fm : ∀ (l : List Nat) (f g : Nat → List (Nat × Nat)), (∀ x ∈ l, f x = g x) → l.flatMap f = l.flatMap g := by
    intro l f g
    induction l with
    | nil => intro _; rfl
    | cons a l ih => intro e; rw [List.flatMap_cons, List.flatMap_cons, e a (by simp), ih fun x hx => e x (List.mem_cons_of_mem _ hx)]
  refine fm _ _ _ fun x hx => ?_
  have hx' := List.mem_range.mp hx
  congr 1
  refine List.filter_congr fun j hj => ?_
  have hj' := List.mem_range.mp hj
  rw [h x (x + 1 + j) hx' (by omega)]
theorem ties_at {n : Nat} {W : Nat → Nat → Int} {i : Nat} (hi : i < (tiesL n W).length) : ((tiesL n W).getD i (0, 0)).1 < ((tiesL n W).getD i (0, 0)).2 ∧ ((tiesL n W).getD i (0, 0)).2 < n ∧ W ((tiesL n W).getD i (0, 0)).1 ((tiesL n W).getD i (0, 0)).2 ≠ 0 := by
  have h : (tiesL n W).getD i (0, 0) ∈ tiesL n W := by rw [List.getD_eq_getElem?_getD, List.getElem?_eq_getElem hi]; exact List.getElem_mem hi
  exact mem_ties.mp (show (((tiesL n W).getD i (0, 0)).1, ((tiesL n W).getD i (0, 0)).2) ∈ tiesL n W from h)
/-- the signs of the ties -/
def sgnM (n : Nat) (W : Nat → Nat → Int) : List Key → Option V := fun k => match k with
  | [.inl i, .inl j] => if 0 ≤ i ∧ i < j ∧ j < n ∧ W i.toNat j.toNat ≠ 0 then some (.int (W i.toNat j.toNat)) else none
  | _ => none
theorem dfun_some {n : Nat} {p : Nat → Bool} {k : Nat → List Key} {f : Nat → V} {j : List Key} {v : V} (h : ∀ i, i < n → p i = true → j = k i → f i = v) (he : ∃ i, i < n ∧ p i = true ∧ j = k i) : dfun n p k f j = some v := by
  induction n with
  | zero => obtain ⟨i, hi, _⟩ := he; omega
  | succ n ih =>
    unfold dfun
    by_cases c : p n = true ∧ j = k n
    · rw [if_pos c, h n (Nat.lt_succ_self n) c.1 c.2]
    · rw [if_neg c]
      refine ih (fun i hi => h i (Nat.lt_succ_of_lt hi)) ?_
      obtain ⟨i, hi, h1, h2⟩ := he
      refine ⟨i, ?_, h1, h2⟩
      rcases Nat.lt_succ_iff_lt_or_eq.mp hi with z | z
      · exact z
      · subst z; exact (c ⟨h1, h2⟩).elim
theorem dfun_none {n : Nat} {p : Nat → Bool} {k : Nat → List Key} {f : Nat → V} {j : List Key} (h : ∀ i, i < n → p i = true → j ≠ k i) : dfun n p k f j = none := by
  induction n with
  | zero => rfl
  | succ n ih =>
    unfold dfun
    rw [if_neg fun c => h n (Nat.lt_succ_self n) c.1 c.2]
    exact ih fun i hi => h i (Nat.lt_succ_of_lt hi)
theorem kII_inj {i j a b : Int} (h : kII i j = kII a b) : i = a ∧ j = b := by
  injection h with h1 h2
  injection h2 with h2 _
  injection h1 with h1
  injection h2 with h2
  exact ⟨h1, h2⟩
theorem sgn_dfun (n : Nat) (W : Nat → Nat → Int) (k : List Key) : dfun (tiesL n W).length (fun _ => true) (fun i => kII (((tiesL n W).getD i (0, 0)).1 : Nat) (((tiesL n W).getD i (0, 0)).2 : Nat)) (fun i => .int (W ((tiesL n W).getD i (0, 0)).1 ((tiesL n W).getD i (0, 0)).2)) k = sgnM n W k := by
  have at_ : ∀ i, i < (tiesL n W).length → (tiesL n W).getD i (0, 0) ∈ tiesL n W := fun i hi => by
    rw [List.getD_eq_getElem?_getD, List.getElem?_eq_getElem hi]; exact List.getElem_mem hi
  have no : (∀ x y : Nat, (x, y) ∈ tiesL n W → k ≠ kII x y) → dfun (tiesL n W).length (fun _ => true) (fun i => kII (((tiesL n W).getD i (0, 0)).1 : Nat) (((tiesL n W).getD i (0, 0)).2 : Nat)) (fun i => .int (W ((tiesL n W).getD i (0, 0)).1 ((tiesL n W).getD i (0, 0)).2)) k = none := fun h =>
    dfun_none fun i hi _ => h _ _ (at_ i hi)
  by_cases hk : ∃ x y : Nat, (x, y) ∈ tiesL n W ∧ k = kII x y
  · obtain ⟨x, y, hm, rfl⟩ := hk
    have hm' := mem_ties.mp hm
    have e : sgnM n W (kII x y) = some (.int (W x y)) := by
      show (if 0 ≤ (x : Int) ∧ (x : Int) < (y : Int) ∧ (y : Int) < n ∧ W (x : Int).toNat (y : Int).toNat ≠ 0 then _ else _) = _
      rw [if_pos ⟨by omega, by omega, by omega, by simpa using hm'.2.2⟩]
      simp
    rw [e]
    refine dfun_some (fun i hi _ e => ?_) ?_
    · obtain ⟨e1, e2⟩ := kII_inj e
      rw [show ((tiesL n W).getD i (0, 0)).1 = x by omega, show ((tiesL n W).getD i (0, 0)).2 = y by omega]
    · obtain ⟨i, hi, e⟩ := List.mem_iff_getElem.mp hm
      refine ⟨i, hi, rfl, ?_⟩
      rw [List.getD_eq_getElem?_getD, List.getElem?_eq_getElem hi]
      simp only [Option.getD_some, e]
  · rw [no fun x y hm e => hk ⟨x, y, hm, e⟩]
    symm
    unfold sgnM
    split
    · rename_i i j
      split
      · rename_i c
        obtain ⟨c1, c2, c3, c4⟩ := c
        exfalso
        refine hk ⟨i.toNat, j.toNat, mem_ties.mpr ⟨by omega, by omega, c4⟩, ?_⟩
        show kII i j = _
        rw [show ((i.toNat : Nat) : Int) = i by omega, show ((j.toNat : Nat) : Int) = j by omega]
      · rfl
    · rfl
section
variable {P : Program} {w : World} {K : PySem.W.Frag} {mg : Str → Option Value} {base : Heap}
def R_ties_of : List PyData → PyData → Prop := fun ds d => ∃ n W, n ≤ 11 ∧ ds = [matD n W] ∧ d = .list ((tiesL n W).map tieD)
theorem sc_ties_of : FnScope ["web", "many", "x", "y"] ["web"] (defScope (topS 19)) := ⟨rfl, rfl, rfl, by decide +kernel, rfl, by decide +kernel, by decide +kernel⟩
theorem c_ties_of (T : Txt K mg) : Cal P w K mg base CX0 1 "ties_of" ["web"] (spD K R_ties_of) := by
  refine T.d_ties_of.calD sc_ties_of (fun ds d ⟨n, W, _, e, _⟩ => by rw [e]; rfl) (fun f cdv A outer s F H vs ds d Q E hr z ha r q => ?_)
  have nd := sc_ties_of.nd
  obtain ⟨n, W, hn, rfl, rfl⟩ := r
  obtain ⟨v, rfl, hv⟩ := DpAll.one_inv ha
  refine ⟨_, (pss_cons (ps_set (i := 1) nd rfl (Or.inr rfl) (q_len K T.len_n (pv 0)))
      (pss_one (ps_ret (pe_lc2 (own := [("x", 2), ("y", 3)]) (vs1 := [3]) rfl nd (pi_range1 rfl T.range_n (pa_cons (pv 1) pa_nil)) (blkOk_by (by kernel_rfl)) (by decide) (fun _ _ _ _ _ => (pg_name (i := 2) nd rfl (Or.inl rfl))) (fun _ _ _ _ _ => pts_nil) (fun _ _ _ _ _ => (pi_range2 rfl T.range_n (pa_cons (pe_op op_add (pv 2) pe_int) (pa_cons (pv 1) pa_nil)))) (fun _ _ _ _ _ => (pg_name (i := 3) nd rfl (Or.inl rfl))) (fun _ _ _ _ _ => (pts_one (pt_cmpR op_ne (pe_ix (kIxT K) (pe_ix (kIxT K) (pv 0) (pv 2) (fun _ _ => rfl)) (pv 3) (fun _ _ => rfl)) pe_int (nomark _)))) (fun _ _ _ _ _ => (pe_tup (pa_cons (pv 2) (pa_cons (pv 3) pa_nil)))))))), ?_⟩
  refine st_seq (st_asg z (evd_lenR (evd_var rfl hv)) fun v1 F1 H1 g1 p1 => ?_)
  obtain rfl := p1.int_inv
  refine st_ret g1.fh (evd_eq (evd_lcII 11 (g := fun i => (i : Nat)) (g1 := fun i j => ((i + 1 + j : Nat) : Int)) (fun _ => true) (fun i => n - (i + 1)) (fun i j => !decide (W i (i + 1 + j) = 0)) (fun i j => tieD (i, i + 1 + j)) (iwd_range1 (n := (n : Int)) (evd_vari rfl) (by omega) (by omega))
    (fun i hi => by omega) (by simp; omega) (by decide) (fun _ _ _ _ _ _ _ => evt_yes) (fun i F2 H2 hi _ f2 h2 z2 => ?_) (fun i j F2 H2 hi hj f2 h2 z2 => ?_) fun i j F2 H2 hi hj _ f2 h2 z2 => ?_) ?_) fun v F2 H2 g2 p => q v F2 H2 (g1.trans g2) p
  · simp at hi
    have h := iwd_range2 (K := K) (ta := tOp (rI0 fun a b => .int (a + b)) (tVar 2) (tC (.int 1))) (tb := tVar 1) (lo := ((i + 1 : Nat) : Int)) (n := (n : Int)) (σ := [some v, some (.int n), some (.int i), none]) (F := F2) (H := H2) (evd_eq (evd_opI (g := fun a b => a + b) (evd_vari rfl) evd_i) rfl) (evd_vari rfl) (by omega)
    rw [show ((n : Int) - ((i + 1 : Nat) : Int)).toNat = n - (i + 1) by omega] at h
    exact h.congr fun j hj => by rw [show ((i + 1 : Nat) : Int) + (j : Nat) = ((i + 1 + j : Nat) : Int) by omega]
  · simp at hi
    exact evt_test (evd_neI (evd_cell (evd_var rfl (hv.up (g1.f.trans f2))) (evd_vari rfl) (evd_vari rfl) hi (by omega)) evd_i)
  · exact evd_tup (eva_cons (evd_vari rfl) (eva_one (evd_vari rfl))) (by simp)
  · rw [show ((n : Int).toNat) = n by omega, ties_picks]
def R_signs_of : List PyData → Nat → (List Key → Option V) → Prop := fun ds B g => ∃ n W, n ≤ 10 ∧ ds = [matD n W] ∧ B = 100 ∧ g = sgnM n W
theorem sc_signs_of : FnScope ["web", "x", "y"] ["web"] (defScope (topS 20)) := ⟨rfl, rfl, rfl, by decide +kernel, rfl, by decide +kernel, by decide +kernel⟩
theorem c_signs_of (T : Txt K mg) : Cal P w K mg base CX0 2 "signs_of" ["web"] (spN K R_signs_of) := by
  have c_ties_of := c_ties_of (P := P) (w := w) (base := base) T
  refine T.d_signs_of.cal sc_signs_of (spN_len fun ds B g ⟨n, W, _, e, _⟩ => by rw [e]; rfl) (fun f cdv A outer s H vs Q E hr ⟨F, ds, B, g, z, ha, r, q⟩ => ?_)
  have nd := sc_signs_of.nd
  obtain ⟨n, W, hn, rfl, rfl, rfl⟩ := r
  obtain ⟨v, rfl, hv⟩ := DpAll.one_inv ha
  refine ⟨_, (pss_one (ps_ret (Ex2.pe_dcT (own := [("x", 1), ("y", 2)]) (hu1 hr) rfl nd (kLst K (pe_cal c_ties_of hr (by decide) pass0 (pa_cons (pv 0) pa_nil))) (blkOk_by (by kernel_rfl)) (fun _ _ _ _ _ => (kPgT (n := 2) K rfl (pgs_cons (pg_name (i := 1) nd rfl (Or.inl rfl)) (pgs_cons (pg_name (i := 2) nd rfl (Or.inl rfl)) pgs_nil)))) (fun _ _ _ _ _ => pts_nil) (fun _ _ _ _ _ => (pe_tup (pa_cons (pv 1) (pa_cons (pv 2) pa_nil)))) (fun _ _ _ _ _ => (pe_ix (kIxT K) (pe_ix (kIxT K) (pv 0) (pv 1) (fun _ _ => rfl)) (pv 2) (fun _ _ => rfl)))))), ?_⟩
  have hlen := ties_len n W
  have hl2 : n * n ≤ 100 := Nat.mul_le_mul hn hn
  have at_ : ∀ i, i < (tiesL n W).length → ((tiesL n W).getD i (0, 0)).1 < n ∧ ((tiesL n W).getD i (0, 0)).2 < n := fun i hi => ⟨Nat.lt_trans (ties_at hi).1 (ties_at hi).2.1, (ties_at hi).2.1⟩
  refine st_ret z ((evp_dcT (P := fun i σ2 _ => σ2 = ((wipe (L2.start ["web", "x", "y"] [v]) [1, 2]).set 1 (some (.int (((tiesL n W).getD i (0, 0)).1 : Nat)))).set 2 (some (.int (((tiesL n W).getD i (0, 0)).2 : Nat)))) (fun _ => true) (fun i => kII (((tiesL n W).getD i (0, 0)).1 : Nat) (((tiesL n W).getD i (0, 0)).2 : Nat)) (fun i => .int (W ((tiesL n W).getD i (0, 0)).1 ((tiesL n W).getD i (0, 0)).2))
    (iwd_pairs (ns := tiesL n W) (evd_call (eva_one (evd_var rfl hv)) ⟨n, W, by omega, rfl, rfl⟩)) (by omega) (fun _ _ _ _ _ _ => tgd_two_int) ?_ (fun _ _ _ _ _ _ _ _ _ => evt_yes) ?_ ?_).imp fun v2 F2 H2 ⟨p, e, hp⟩ => ?_) q
  · rintro i σ2 F1 rfl
    exact wipe_set2 (by decide) (by decide)
  · rintro i σ2 F1 H1 hi _ f1 h1 z1 rfl
    exact evp_key2 (K := K) (evd_vari rfl) (evd_vari rfl)
  · rintro i σ2 F1 H1 hi _ f1 h1 z1 rfl
    exact evv_of_int (K := K) (evd_cell (evd_var rfl (hv.up f1)) (evd_vari rfl) (evd_vari rfl) (at_ i hi).1 (at_ i hi).2)
  · have hp' := hp.congr (sgn_dfun n W)
    exact ⟨p, e, hp'.nw, hp'.out, let ⟨m, a, b, c⟩ := hp'.at_; ⟨m, a, ⟨by omega, b.2⟩, c⟩⟩
/-- web_by: the dict's object at p -/
def sp_web_by (K : PySem.W.Frag) : Sp := fun vs H Q _ => ∃ (F : Hp) (n : Nat) (p : Addr) (B : Nat) (g : List Key → Option V) (U : Nat → Nat → Int), n ≤ 11 ∧ Same F H ∧ vs = [.int (n : Nat), .ref p] ∧ (∃ m, H p = some (.dT m) ∧ (m.length ≤ B ∧ (m.map (·.1)).Nodup) ∧ ∀ k, valV m k = g k) ∧
  (∀ x y, x < n → y < n → (g (if x < y then kII x y else kII y x)).getD (.int 0) = .int (U x y)) ∧ ∀ v F' H', Gr F H F' H' → Dp K F' v (matD n U) → Q v H'
theorem sc_web_by : FnScope ["many", "signs", "x", "y"] ["many", "signs"] (defScope (topS 21)) := ⟨rfl, rfl, rfl, by decide +kernel, rfl, by decide +kernel, by decide +kernel⟩
theorem c_web_by (T : Txt K mg) : Cal P w K mg base CX0 2 "web_by" ["many", "signs"] (sp_web_by K) := by
  have c_tie_between := c_tie_between (P := P) (w := w) (base := base) T
  refine T.d_web_by.cal sc_web_by (fun vs H Q E ⟨F, n, p, B, g, U, _, _, e, _⟩ => by rw [e]; rfl) (fun f cdv A outer s H vs Q E hr ⟨F, n, p, B, g, U, hn, z, e, hm, hg, q⟩ => ?_)
  have nd := sc_web_by.nd
  subst e
  refine ⟨_, (pss_one (ps_ret (q_tuple K T.tuple_n (pe_lc (own := [("x", 2)]) rfl nd (pi_range1 rfl T.range_n (pa_cons (pv 0) pa_nil)) (blkOk_by (by kernel_rfl)) (fun _ _ _ _ _ => (pg_name (i := 2) nd rfl (Or.inr rfl))) (fun _ _ _ _ _ => pts_nil) (fun _ _ _ _ _ => (q_tuple K T.tuple_n (pe_lc (own := [("y", 3)]) rfl nd (pi_range1 rfl T.range_n (pa_cons (pv 0) pa_nil)) (blkOk_by (by kernel_rfl)) (fun _ _ _ _ _ => (pg_name (i := 3) nd rfl (Or.inl rfl))) (fun _ _ _ _ _ => pts_nil) (fun _ _ _ _ _ => (pe_dget2 (hu1 hr) (pv 1) (pe_cal c_tie_between hr (by decide) pass0 (pa_cons (pv 2) (pa_cons (pv 3) pa_nil))) pe_int ⟨rfl, rfl, rfl, rfl⟩))))))))), ?_⟩
  refine st_ret z (evd_tupL (evd_lcI0 (g := fun k => (k : Nat)) (fun x => rowD n U x) (iwd_range1 (n := (n : Int)) (evd_vari rfl) (by omega) (by omega)) (by omega) fun x F2 H2 hx f2 h2 z2 => ?_)) q
  refine evd_tupL (evd_lcI0 (g := fun k => (k : Nat)) (fun y => .int (U x y)) (iwd_range1 (n := (n : Int)) (evd_vari rfl) (by omega) (by omega)) (by omega) fun y F3 H3 hy f3 h3 z3 => ?_)
  have hx' : x < n := by omega
  have hy' : y < n := by omega
  have hm3 : ∃ m, H3 p = some (.dT m) ∧ (m.length ≤ B ∧ (m.map (·.1)).Nodup) ∧ ∀ k, valV m k = g k := let ⟨m, a, b⟩ := hm; ⟨m, (h2.trans h3) _ _ a, b⟩
  obtain ⟨m, hm1, hm2, hm4⟩ := hm3
  have ek : (if (x : Int) < (y : Int) then kII x y else kII y x) = (if x < y then kII x y else kII y x) := by
    by_cases h : x < y
    · rw [if_pos h, if_pos (by omega)]
    · rw [if_neg h, if_neg (by omega)]
  have e := hg x y hx' hy'
  rw [← ek] at e
  refine fun F4 H4 a4 b4 z4 Q4 q4 => ⟨.ref p, rfl, p, rfl, .inr ⟨m, .inl (b4 _ _ hm1)⟩, ?_⟩
  refine evp_callP (eva_cons (evd_vari rfl) (eva_one (evd_vari rfl))) ⟨x, y, rfl, rfl⟩ F4 H4 (Same.refl _) (Same.refl _) z4 _ fun v5 F5 H5 g5 ⟨b5, e5, k5⟩ => ?_
  subst e5
  refine ⟨g (if (x : Int) < (y : Int) then kII x y else kII y x), ?_, q4 _ F5 H5 g5 ?_⟩
  · rw [← hm4]
    exact DGet.t (g5.h _ _ (b4 _ _ hm1)) k5
  · rw [e]
    exact .int _
end
end Sg
set_option maxRecDepth 100000
set_option maxHeartbeats 2000000
/-! G5: the checks, is_tie, turned_web, inner_web. -/
namespace Sg
open PySem PySem.Spec L2 Dv
section
variable {P : Program} {w : World} {K : PySem.W.Frag} {mg : Str → Option Value} {base : Heap} {SE IW IT NB TM fI : Addr} {fd : FuncData}
/-! ### check_web -/
def Pre1 : List PyData → Prop := fun ds => ∃ a, ds = [a]
def R_check_web : List PyData → PyData → Prop := fun ds d => ∃ a, ds = [a] ∧ IsWeb a ∧ d = .none
def X_check_web (IW : Addr) : List PyData → Value → Option Addr → Hp → Hp → Prop := fun ds cls d _ _ => ∃ a, ds = [a] ∧ ¬ IsWeb a ∧ cls = .ref IW ∧ d = none
theorem sc_check_web : FnScope ["value"] ["value"] (defScope (topS 17)) := ⟨rfl, rfl, rfl, by decide +kernel, rfl, by decide +kernel, by decide +kernel⟩
theorem c_check_web (T : Txt K mg) (Er : Errs P K mg SE IW IT NB TM fI fd) : Cal P w K mg base (L2.CX P w) 5 "check_web" ["value"] (spE K Pre1 R_check_web (X_check_web IW)) := by
  have c_is_web := c_is_web (P := P) (w := w) (base := base) T
  refine T.d_check_web.calE sc_check_web (fun ds ⟨a, e⟩ => by rw [e]; rfl) (fun f cdv A outer s F H vs ds Q E hr z ha pr q qx htk hpass => ?_)
  obtain ⟨a, rfl⟩ := pr
  obtain ⟨v, rfl, hv⟩ := DpAll.one_inv ha
  refine ⟨_, (pss_one (ps_if (pt_not (pt_val (pe_cal c_is_web hr (by decide) pass0 (pa_cons (pv 0) pa_nil)))) (pss_one (ps_rz rfl htk Er.iw rfl)) pss_nil)), ?_⟩
  obtain ⟨b, hb⟩ : ∃ b : Bool, b = true ↔ IsWeb a := by
    by_cases h : IsWeb a
    · exact ⟨true, by simp [h]⟩
    · exact ⟨false, by simp [h]⟩
  refine st_if z (b := !b) (evt_not (evt_B (evd_call (eva_one (evd_var rfl hv)) ⟨a, b, rfl, rfl, hb⟩))) (fun h F1 H1 g1 => ?_) fun h F1 H1 g1 => ?_
  · exact qx _ _ F1 H1 ⟨a, rfl, fun hw => (by rw [hb.mpr hw] at h; cases h), rfl, rfl⟩ g1
  · exact q _ F1 H1 .none ⟨a, rfl, hb.mp (by simpa using h), rfl⟩ g1 .non
/-! ### is_tie, check_tie -/
def IsTie (n : Nat) (W : Nat → Nat → Int) (a : PyData) : Prop := ∃ x y : Nat, a = tieD (x, y) ∧ x < y ∧ y < n ∧ W x y ≠ 0
def R_is_tie : List PyData → PyData → Prop := fun ds d => ∃ n W a b, ds = [matD n W, a] ∧ n ≤ 10 ∧ d = .bool b ∧ (b = true ↔ IsTie n W a)
theorem sc_is_tie : FnScope ["web", "value", "place"] ["web", "value"] (defScope (topS 22)) := ⟨rfl, rfl, rfl, by decide +kernel, rfl, by decide +kernel, by decide +kernel⟩
theorem c_is_tie (T : Txt K mg) : Cal P w K mg base CX0 4 "is_tie" ["web", "value"] (spD K R_is_tie) := by
  have c_is_between := c_is_between (P := P) (w := w) (base := base) T
  have c_is_tuple_of := c_is_tuple_of (P := P) (w := w) (base := base) T
  refine T.d_is_tie.calD sc_is_tie (fun ds d ⟨n, W, a, b, e, _⟩ => by rw [e]; rfl) (fun f cdv A outer s F H vs ds d Q E hr z ha r q => ?_)
  have nd := sc_is_tie.nd
  obtain ⟨n, W, a, b, rfl, hn, rfl, hb⟩ := r
  obtain ⟨v1, v2, rfl, h1, h2⟩ := DpAll.two_inv ha
  refine ⟨_, (pss_cons (ps_if (PW.pt (pw_or (pt_not (pt_val (pe_cal c_is_tuple_of hr (by decide) pass0 (pa_cons pe_int (pa_cons (pv 1) pa_nil))))) (pw_or1 (pt_not (pt_val (q_all K rfl T.all_n (pe_lc (own := [("place", 2)]) rfl nd (kTup K (pv 1)) (blkOk_by (by kernel_rfl)) (fun _ _ _ _ _ => (pg_name (i := 2) nd rfl (Or.inl rfl))) (fun _ _ _ _ _ => pts_nil) (fun _ _ _ _ _ => (pe_cal c_is_between hr (by decide) pass0 (pa_cons pe_int (pa_cons (pv 2) (pa_cons (pe_op op_sub (q_len K T.len_n (pv 0)) pe_int) pa_nil)))))))))))) (pss_one (ps_ret pe_bl)) pss_nil)
      (pss_one (ps_ret (pe_and (pe_cmpR op_lt (pe_ix (kIxT K) (pv 1) pe_int (fun _ _ => rfl)) (pe_ix (kIxT K) (pv 1) pe_int (fun _ _ => rfl)) (nomark _)) (pe_one (pe_cmpR op_ne (pe_ix (kIxT K) (pe_ix (kIxT K) (pv 0) (pe_ix (kIxT K) (pv 1) pe_int (fun _ _ => rfl)) (fun _ _ => rfl)) (pe_ix (kIxT K) (pv 1) pe_int (fun _ _ => rfl)) (fun _ _ => rfl)) pe_int (nomark _))))))), ?_⟩
  have no : ∀ {F1 H1 : Hp} {v : V}, Gr F H F1 H1 → ¬ IsTie n W a → v = .bl false → Q v H1 := fun {F1 H1 v} g nw e => by
    subst e
    have e : b = false := by
      cases b with
      | false => rfl
      | true => exact (nw (hb.mp rfl)).elim
    subst e
    exact q _ F1 H1 g (.bl _)
  by_cases hta : ∃ d1 d2, a = .tuple [d1, d2]
  · obtain ⟨d1, d2, rfl⟩ := hta
    refine st_seq (st_if z (evt_or (evt_not (evt_B (evd_call (eva_cons evd_i (eva_one (evd_var rfl h2))) ⟨2, _, rfl, rfl⟩))) fun _ => evt_not (evt_B (evd_allR (f := fun k => betw 0 ([d1, d2].getD k .none) (n - 1)) (evd_lcD0 _ (iwd_tup (ds := [d1, d2]) (evd_var rfl h2)) (by simp) fun k v F1 H1 hk f1 hh1 z1 hv => ?_)))) (fun hb1 F1 H1 g1 => ?_) fun hb1 F1 H1 g1 => ?_)
    · exact evd_call (eva_cons evd_i (eva_cons (evd_var rfl hv) (eva_one (evd_opI (g := fun a b => a - b) (evd_lenR (evd_var rfl (h1.up f1))) evd_i)))) ⟨_, _, _, rfl, rfl⟩
    · refine st_ret g1.fh (evd_b (K := K)) fun v2 F2 H2 g2 p2 => no (g1.trans g2) (fun ⟨x, y, e, hxy, hyn, hw⟩ => ?_) p2.bl_inv
      injection e with e
      injection e with e1 e2
      injection e2 with e2 _
      subst e1 e2
      simp [isTupN, betw, List.range_succ] at hb1
      omega
    · have hin : betw 0 d1 (n - 1) = true ∧ betw 0 d2 (n - 1) = true := by
        simp [isTupN, List.range_succ] at hb1
        exact hb1
      obtain ⟨i1, hi1⟩ : ∃ x : Nat, d1 = .int x ∧ x < n := by
        cases d1 with
        | int i =>
          have := hin.1
          simp only [betw, Bool.and_eq_true, decide_eq_true_eq] at this
          exact ⟨i.toNat, by rw [show ((i.toNat : Nat) : Int) = i by omega], by omega⟩
        | _ => simp [betw] at hin
      obtain ⟨rfl, hx⟩ := hi1
      obtain ⟨i2, hi2⟩ : ∃ x : Nat, d2 = .int x ∧ x < n := by
        cases d2 with
        | int i =>
          have := hin.2
          simp only [betw, Bool.and_eq_true, decide_eq_true_eq] at this
          exact ⟨i.toNat, by rw [show ((i.toNat : Nat) : Int) = i by omega], by omega⟩
        | _ => simp [betw] at hin
      obtain ⟨rfl, hy⟩ := hi2
      have hv1 : Dp K F1 v1 (matD n W) := h1.up g1.f
      have hv2 : Dp K F1 v2 (.tuple [.int (i1 : Nat), .int (i2 : Nat)]) := h2.up g1.f
      have t0 : ∀ {F2 H2 : Hp}, Same F1 F2 → EvD K (tOp (rIxT K) (tVar 1) (tC (.int 0))) [some v1, some v2, none] F2 H2 (.int (i1 : Nat)) := fun f => evd_ixT (n := 0) (evd_var rfl (hv2.up f)) evd_i rfl
      have t1 : ∀ {F2 H2 : Hp}, Same F1 F2 → EvD K (tOp (rIxT K) (tVar 1) (tC (.int 1))) [some v1, some v2, none] F2 H2 (.int (i2 : Nat)) := fun f => evd_ixT (n := 1) (evd_var rfl (hv2.up f)) evd_i rfl
      refine st_ret g1.fh (evd_eq (e := .bool b) (evd_and (c := !decide (W i1 i2 = 0)) (evd_cmpI (g := fun a b => decide (a < b)) (t0 (Same.refl _)) (t1 (Same.refl _))) fun _ => evd_neI (evd_cell (evd_var rfl hv1) (t0 (Same.refl _)) (t1 (Same.refl _)) hx hy) evd_i) ?_) fun v F2 H2 g2 p => q v F2 H2 (g1.trans g2) p
      congr 1
      rw [Bool.eq_iff_iff, hb]
      simp only [Bool.and_eq_true, decide_eq_true_eq, Bool.not_eq_true', decide_eq_false_iff_not]
      constructor
      · rintro ⟨h3, h4⟩
        exact ⟨i1, i2, rfl, by omega, hy, h4⟩
      · rintro ⟨x, y, e, hxy, hyn, hw⟩
        injection e with e
        injection e with e1 e2
        injection e2 with e2 _
        injection e1 with e1
        injection e2 with e2
        have e1' : i1 = x := by omega
        have e2' : i2 = y := by omega
        subst e1' e2'
        exact ⟨by omega, hw⟩
  · have hf : isTupN 2 a = false := by
      cases a with
      | tuple ds =>
        cases ds with
        | nil => rfl
        | cons d1 ds => cases ds with
          | nil => rfl
          | cons d2 ds => cases ds with
            | nil => exact (hta ⟨d1, d2, rfl⟩).elim
            | cons d3 ds =>
              simp only [isTupN, decide_eq_false_iff_not, List.length_cons]
              omega
      | _ => rfl
    refine st_seq (st_if z (b := true) (evt_eq (evt_or (c := false) (evt_not (evt_B (evd_call (eva_cons evd_i (eva_one (evd_var rfl h2))) ⟨2, _, rfl, rfl⟩))) fun hb0 => ?_) ?_) (fun hb1 F1 H1 g1 => ?_) fun hb1 F1 H1 g1 => by cases hb1)
    · rw [hf] at hb0; cases hb0
    · rw [hf]; rfl
    · refine st_ret g1.fh (evd_b (K := K)) fun v2 F2 H2 g2 p2 => no (g1.trans g2) (fun ⟨x, y, e, _⟩ => hta ⟨_, _, e⟩) p2.bl_inv
def Pre_check_tie : List PyData → Prop := fun ds => ∃ n W a, ds = [matD n W, a] ∧ n ≤ 10
def R_check_tie : List PyData → PyData → Prop := fun ds d => ∃ n W a, ds = [matD n W, a] ∧ n ≤ 10 ∧ IsTie n W a ∧ d = .none
def X_check_tie (IT : Addr) : List PyData → Value → Option Addr → Hp → Hp → Prop := fun ds cls d _ _ => ∃ n W a, ds = [matD n W, a] ∧ n ≤ 10 ∧ ¬ IsTie n W a ∧ cls = .ref IT ∧ d = none
theorem sc_check_tie : FnScope ["web", "value"] ["web", "value"] (defScope (topS 23)) := ⟨rfl, rfl, rfl, by decide +kernel, rfl, by decide +kernel, by decide +kernel⟩
theorem c_check_tie (T : Txt K mg) (Er : Errs P K mg SE IW IT NB TM fI fd) : Cal P w K mg base (L2.CX P w) 5 "check_tie" ["web", "value"] (spE K Pre_check_tie R_check_tie (X_check_tie IT)) := by
  have c_is_tie := c_is_tie (P := P) (w := w) (base := base) T
  refine T.d_check_tie.calE sc_check_tie (fun ds ⟨n, W, a, e, _⟩ => by rw [e]; rfl) (fun f cdv A outer s F H vs ds Q E hr z ha pr q qx htk hpass => ?_)
  obtain ⟨n, W, a, rfl, hn⟩ := pr
  obtain ⟨v1, v2, rfl, h1, h2⟩ := DpAll.two_inv ha
  refine ⟨_, (pss_one (ps_if (pt_not (pt_val (pe_cal c_is_tie hr (by decide) pass0 (pa_cons (pv 0) (pa_cons (pv 1) pa_nil))))) (pss_one (ps_rz rfl htk Er.it rfl)) pss_nil)), ?_⟩
  obtain ⟨b, hb⟩ : ∃ b : Bool, b = true ↔ IsTie n W a := by
    by_cases h : IsTie n W a
    · exact ⟨true, by simp [h]⟩
    · exact ⟨false, by simp [h]⟩
  refine st_if z (b := !b) (evt_not (evt_B (evd_call (eva_cons (evd_var rfl h1) (eva_one (evd_var rfl h2))) ⟨n, W, a, b, rfl, hn, rfl, hb⟩))) (fun h F1 H1 g1 => ?_) fun h F1 H1 g1 => ?_
  · exact qx _ _ F1 H1 ⟨n, W, a, rfl, hn, fun hw => (by rw [hb.mpr hw] at h; cases h), rfl, rfl⟩ g1
  · exact q _ F1 H1 .none ⟨n, W, a, rfl, hn, hb.mp (by simpa using h), rfl⟩ g1 .non
/-! ### check_room -/
def R_check_room : List PyData → PyData → Prop := fun ds d => ∃ n : Nat, ds = [.int (n : Nat)] ∧ n ≤ 10 ∧ d = .none
theorem sc_check_room : FnScope ["many"] ["many"] (defScope (topS 31)) := ⟨rfl, rfl, rfl, by decide +kernel, rfl, by decide +kernel, by decide +kernel⟩
theorem c_check_room (T : Txt K mg) : Cal P w K mg base CX0 1 "check_room" ["many"] (spD K R_check_room) := by
  obtain ⟨tm, hmost⟩ := T.most
  refine T.d_check_room.calD sc_check_room (fun ds d ⟨n, e, _⟩ => by rw [e]; rfl) (fun f cdv A outer s F H vs ds d Q E hr z ha r q => ?_)
  obtain ⟨n, rfl, hn, rfl⟩ := r
  obtain ⟨v1, rfl, h1⟩ := DpAll.one_inv ha
  obtain rfl := h1.int_inv
  refine ⟨_, (pss_one (ps_if (pt_cmpR op_gt (pv 0) (pe_glob (v := .int 10) rfl hmost ⟨_, rfl⟩) (nomark _)) (pss_one ps_never) pss_nil)), ?_⟩
  exact st_if z (b := false) (evt_eq (evt_test (K := K) (evd_cmpI (g := fun a b => decide (a > b)) (evd_vari rfl) evd_i)) (by simp; omega)) (fun h => by cases h) fun _ F1 H1 g1 => q _ F1 H1 g1 .non
/-! ### turned_web -/
def sdI (ns : List Int) (x : Nat) : Int := if (x : Int) ∈ ns then -1 else 1
def R_turned_web : List PyData → PyData → Prop := fun ds d => ∃ n W ns, ds = [matD n W, lotD ns] ∧ n ≤ 10 ∧ (∀ x y, x < n → y < n → -1 ≤ W x y ∧ W x y ≤ 1) ∧ d = matD n fun x y => W x y * sdI ns x * sdI ns y
theorem sc_turned_web : FnScope ["web", "lot", "sides", "place", "x", "line", "y", "sign"] ["web", "lot"] (defScope (topS 24)) := ⟨rfl, rfl, rfl, by decide +kernel, rfl, by decide +kernel, by decide +kernel⟩
theorem c_turned_web (T : Txt K mg) : Cal P w K mg base CX0 1 "turned_web" ["web", "lot"] (spD K R_turned_web) := by
  refine T.d_turned_web.calD sc_turned_web (fun ds d ⟨n, W, ns, e, _⟩ => by rw [e]; rfl) (fun f cdv A outer s F H vs ds d Q E hr z ha r q => ?_)
  have nd := sc_turned_web.nd
  obtain ⟨n, W, ns, rfl, hn, hW, rfl⟩ := r
  obtain ⟨v1, v2, rfl, h1, h2⟩ := DpAll.two_inv ha
  refine ⟨_, (pss_cons (ps_set (i := 2) nd rfl (Or.inr rfl) (pe_lc (own := [("place", 3)]) rfl nd (pi_range1 rfl T.range_n (pa_cons (q_len K T.len_n (pv 0)) pa_nil)) (blkOk_by (by kernel_rfl)) (fun _ _ _ _ _ => (pg_name (i := 3) nd rfl (Or.inl rfl))) (fun _ _ _ _ _ => pts_nil) (fun _ _ _ _ _ => (pe_ifExp (pt_cmpR (kIn K) (pv 3) (pv 1) (by rfl)) (pe_un un_neg pe_int) pe_int))))
      (pss_one (ps_ret (q_tuple K T.tuple_n (pe_lc (own := [("x", 4), ("line", 5)]) rfl nd (kEnT K T.enumerate_n (pv 0)) (blkOk_by (by kernel_rfl)) (fun _ _ _ _ _ => (kPgT (n := 2) K rfl (pgs_cons (pg_name (i := 4) nd rfl (Or.inr rfl)) (pgs_cons (pg_name (i := 5) nd rfl (Or.inl rfl)) pgs_nil)))) (fun _ _ _ _ _ => pts_nil) (fun _ _ _ _ _ => (q_tuple K T.tuple_n (pe_lc (own := [("y", 6), ("sign", 7)]) rfl nd (kEnT K T.enumerate_n (pv 5)) (blkOk_by (by kernel_rfl)) (fun _ _ _ _ _ => (kPgT (n := 2) K rfl (pgs_cons (pg_name (i := 6) nd rfl (Or.inl rfl)) (pgs_cons (pg_name (i := 7) nd rfl (Or.inl rfl)) pgs_nil)))) (fun _ _ _ _ _ => pts_nil) (fun _ _ _ _ _ => (pe_op op_mul (pe_op op_mul (pv 7) (pe_ix (kIxL K) (pv 2) (pv 4) (fun _ _ => rfl))) (pe_ix (kIxL K) (pv 2) (pv 6) (fun _ _ => rfl)))))))))))), ?_⟩
  refine st_seq (st_asg z (evd_lcI0 (K := K) (g := fun k => (k : Nat)) (fun x => .int (sdI ns x)) (iwd_range1 (n := (n : Int)) (evd_lenR (evd_var rfl h1)) (by omega) (by omega)) (by omega) fun i F1 H1 hi f1 hh1 z1 => ?_) fun v3 F3 H3 g3 p3 => ?_)
  · refine evp_if (b := decide ((i : Int) ∈ ns)) (evt_B (evd_inT (neg := false) (evd_vari rfl) (evd_var rfl (h2.up f1)))) (fun h => ?_) fun h => ?_
    · unfold sdI; rw [if_pos (of_decide_eq_true h)]; exact evd_unI (g := fun a => -a) evd_i
    · unfold sdI; rw [if_neg (of_decide_eq_false h)]; exact evd_i
  · rw [show ((n : Int).toNat) = n by omega] at p3
    refine st_ret g3.fh (evd_tupL (evd_lcQ0 (fun x => rowD n (fun x y => W x y * sdI ns x * sdI ns y) x) (iwd_enumT (ds := (List.range n).map fun x => rowD n W x) (evd_var rfl (h1.up g3.f))) (by rw [len_rng]; omega) fun x a b F4 H4 hx f4 hh4 z4 da db => ?_)) fun v F4 H4 g4 p => ?_
    · rw [len_rng] at hx
      rw [getD_rng hx] at db
      obtain rfl := da.int_inv
      refine evd_eq (evd_tupL (evd_lcQ0 (fun y => .int (W x y * sdI ns x * sdI ns y)) (iwd_enumT (ds := (List.range n).map fun y => .int (W x y)) (evd_var rfl db)) (by rw [len_rng]; omega) fun y c e F5 H5 hy f5 hh5 z5 dc de => ?_)) (by rw [len_rng]; rfl)
      rw [len_rng] at hy
      rw [getD_rng hy] at de
      obtain rfl := dc.int_inv
      obtain rfl := de.int_inv
      have hb := hW x y hx hy
      have hs : ∀ z, sdI ns z = 1 ∨ sdI ns z = -1 := fun z => by unfold sdI; split <;> simp
      have sides : ∀ {k : Nat} {tx : TE} {σ : L2.St}, k < n → EvD K tx σ F5 H5 (.int (k : Nat)) → σ[2]? = some (some v3) → EvD K (tOp (rIxL K) (tVar 2) tx) σ F5 H5 (.int (sdI ns k)) := fun {k tx σ} hk ht hσ => evd_ixL (n := k) (evd_var hσ ((p3.up f4).up f5)) ht (at_rng hk)
      have cm : ∀ (a : Int) z, CMul a (sdI ns z) := fun a z => .inr (by rcases hs z with e | e <;> rw [e] <;> decide)
      exact evd_opC (g := fun a b => a * b) (evd_opC (g := fun a b => a * b) (evd_vari rfl) (sides hx (evd_vari rfl) rfl) (cm _ _)) (sides hy (evd_vari rfl) rfl) (cm _ _)
    · rw [len_rng] at p
      exact q v F4 H4 (g3.trans g4) p
end
end Sg
set_option maxRecDepth 100000
set_option maxHeartbeats 2000000
/-! G6: inner_web, ring_by. -/
namespace Sg
open PySem PySem.Spec L2 Dv
section
variable {P : Program} {w : World} {K : PySem.W.Frag} {mg : Str → Option Value} {base : Heap} {SE IW IT NB TM fI : Addr} {fd : FuncData}
abbrev natD (L : List Nat) : PyData := lotD (L.map fun x : Nat => (x : Int))
theorem natD_at {L : List Nat} {i : Nat} (h : i < L.length) : (L.map fun x : Nat => (x : Int)).getD i 0 = ((L.getD i 0 : Nat) : Int) := by
  rw [List.getD_eq_getElem?_getD, List.getElem?_map, List.getElem?_eq_getElem h, List.getD_eq_getElem?_getD, List.getElem?_eq_getElem h]; rfl
theorem at_mem {L : List Nat} {i : Nat} (h : i < L.length) : L.getD i 0 ∈ L := by
  rw [List.getD_eq_getElem?_getD, List.getElem?_eq_getElem h]; exact List.getElem_mem h
theorem iwd_nats {te : TE} {σ : L2.St} {F H : Hp} {L : List Nat} (h : EvD K te σ F H (natD L)) : IwD K (iTup K te) σ F H L.length fun i => .int ((L.getD i 0 : Nat) : Int) := by
  have q := iwd_ints h
  rw [List.length_map] at q
  exact q.congr fun i hi => by rw [natD_at hi]
def subW (L : List Nat) (W : Nat → Nat → Int) : Nat → Nat → Int := fun i j => W (L.getD i 0) (L.getD j 0)
def R_inner_web : List PyData → PyData → Prop := fun ds d => ∃ n W L, ds = [matD n W, natD L] ∧ L.length ≤ 1000 ∧ (∀ x ∈ L, x < n) ∧ d = matD L.length (subW L W)
theorem sc_inner_web : FnScope ["web", "lot", "x", "y"] ["web", "lot"] (defScope (topS 28)) := ⟨rfl, rfl, rfl, by decide +kernel, rfl, by decide +kernel, by decide +kernel⟩
theorem c_inner_web (T : Txt K mg) : Cal P w K mg base CX0 1 "inner_web" ["web", "lot"] (spD K R_inner_web) := by
  refine T.d_inner_web.calD sc_inner_web (fun ds d ⟨n, W, ns, e, _⟩ => by rw [e]; rfl) (fun f cdv A outer s F H vs ds d Q E hr z ha r q => ?_)
  have nd := sc_inner_web.nd
  obtain ⟨n, W, L, rfl, hl, hin, rfl⟩ := r
  obtain ⟨v1, v2, rfl, h1, h2⟩ := DpAll.two_inv ha
  refine ⟨_, (pss_one (ps_ret (q_tuple K T.tuple_n (pe_lc (own := [("x", 2)]) rfl nd (kTup K (pv 1)) (blkOk_by (by kernel_rfl)) (fun _ _ _ _ _ => (pg_name (i := 2) nd rfl (Or.inr rfl))) (fun _ _ _ _ _ => pts_nil) (fun _ _ _ _ _ => (q_tuple K T.tuple_n (pe_lc (own := [("y", 3)]) rfl nd (kTup K (pv 1)) (blkOk_by (by kernel_rfl)) (fun _ _ _ _ _ => (pg_name (i := 3) nd rfl (Or.inl rfl))) (fun _ _ _ _ _ => pts_nil) (fun _ _ _ _ _ => (pe_ix (kIxT K) (pe_ix (kIxT K) (pv 0) (pv 2) (fun _ _ => rfl)) (pv 3) (fun _ _ => rfl)))))))))), ?_⟩
  refine st_ret z (evd_tupL (evd_lcI0 (fun i => rowD L.length (subW L W) i) (iwd_nats (evd_var rfl h2)) (by omega) fun i F1 H1 hi f1 hh1 z1 => ?_)) q
  refine evd_tupL (evd_lcI0 (fun j => .int (subW L W i j)) (iwd_nats (evd_var rfl (h2.up f1))) (by omega) fun j F2 H2 hj f2 hh2 z2 => ?_)
  exact evd_cell (x := L.getD i 0) (y := L.getD j 0) (W := W) (evd_var rfl ((h1.up f1).up f2)) (evd_vari rfl) (evd_vari rfl) (hin _ (at_mem hi)) (hin _ (at_mem hj))
/-! ### ring_by, of a tuple of three -/
def sp_ringT (K : PySem.W.Frag) : Sp := fun vs H Q _ => ∃ (F : Hp) (p : Addr) (o : Obj) (x y z : Int), Same F H ∧ vs = [.ref p] ∧ F p = some (.frz o (.tup [.int x, .int y, .int z])) ∧ o.dict = none ∧ x ≠ y ∧ x ≠ z ∧ y ≠ z ∧
  ∀ v F' H' ms, ms.Perm [x, y, z] → ms.Pairwise (· ≤ ·) → Gr F H F' H' → Dp K F' v (lotD ms) → Q v H'
theorem sc_ring_by : FnScope ["row", "at", "ring"] ["row"] (defScope (topS 29)) := ⟨rfl, rfl, rfl, by decide +kernel, rfl, by decide +kernel, by decide +kernel⟩
theorem c_ring_byT (T : Txt K mg) : Cal P w K mg base CX0 1 "ring_by" ["row"] (sp_ringT K) := by
  refine T.d_ring_by.cal sc_ring_by (fun vs H Q E ⟨F, p, o, x, y, z, _, e, _⟩ => by rw [e]; rfl) (fun f cdv A outer s H vs Q E hr ⟨F, p, o, x, y, z, zz, e, hp, ho, hxy, hxz, hyz, q⟩ => ?_)
  have nd := sc_ring_by.nd
  subst e
  refine ⟨_, (pss_cons (ps_set (i := 1) nd rfl (Or.inl rfl) (Ex6.pe_tidx (pv 0) (q_minT K rfl (hu2 hr) T.min_n (pv 0)) ⟨rfl, rfl, rfl, rfl⟩))
      (pss_cons (ps_set (i := 2) nd rfl (Or.inl rfl) (pe_op (kCatA K) (q_tuple K T.tuple_n (pe_slice (kSlT K) (pv 0) (po_some (pv 1)) po_none)) (q_tuple K T.tuple_n (pe_slice (kSlT K) (pv 0) po_none (po_some (pv 1))))))
      (pss_one (ps_ret (pe_ifExp (pt_cmpR op_lt (pe_ix (kIxT K) (pv 2) pe_int (fun _ _ => rfl)) (pe_ix (kIxT K) (pv 2) (pe_un un_neg pe_int) (fun _ _ => rfl)) (nomark _)) (pv 2) (pe_op (kCatA K) (pe_slice (kSlT K) (pv 2) po_none (po_some pe_int)) (Ex5.pe_revS (pv 2) po_none (po_some pe_int)))))))), ?_⟩
  have hv : Dp K F (.ref p) (lotD [x, y, z]) := .tup (.inl (.inr ⟨o, hp⟩)) (DpAll.ints [x, y, z])
  -- where the least stands
  obtain ⟨j, a, b, c, hj, hle⟩ : ∃ (j : Nat) (a b c : Int), ((j = 0 ∧ a = x ∧ b = y ∧ c = z) ∨ (j = 1 ∧ a = y ∧ b = z ∧ c = x) ∨ (j = 2 ∧ a = z ∧ b = x ∧ c = y)) ∧ a ≤ b ∧ a ≤ c := by
    by_cases h1 : x ≤ y
    · by_cases h2 : x ≤ z
      · exact ⟨0, x, y, z, .inl ⟨rfl, rfl, rfl, rfl⟩, h1, h2⟩
      · exact ⟨2, z, x, y, .inr (.inr ⟨rfl, rfl, rfl, rfl⟩), by omega, by omega⟩
    · by_cases h2 : y ≤ z
      · exact ⟨1, y, z, x, .inr (.inl ⟨rfl, rfl, rfl, rfl⟩), h2, by omega⟩
      · exact ⟨2, z, x, y, .inr (.inr ⟨rfl, rfl, rfl, rfl⟩), by omega, by omega⟩
  have hmin : [y, z].foldl min x = a := by
    simp only [List.foldl_cons, List.foldl_nil]
    omega
  have hja : [x, y, z][j]? = some a := by rcases hj with ⟨rfl, rfl, _⟩ | ⟨rfl, rfl, _⟩ | ⟨rfl, rfl, _⟩ <;> rfl
  have hjn : ∀ i, i < j → [x, y, z][i]? ≠ some a := by
    intro i hi e
    rcases hj with ⟨rfl, rfl, _⟩ | ⟨rfl, rfl, _⟩ | ⟨rfl, rfl, _⟩
    · omega
    · obtain rfl : i = 0 := by omega
      simp at e
      exact hxy e
    · rcases (show i = 0 ∨ i = 1 by omega) with rfl | rfl
      · simp at e; exact hxz e
      · simp at e; exact hyz e
  have hcut : cutD ([x, y, z].map PyData.int) (some (j : Int)) none ++ cutD ([x, y, z].map PyData.int) none (some (j : Int)) = [a, b, c].map PyData.int := by
    rcases hj with ⟨rfl, rfl, rfl, rfl⟩ | ⟨rfl, rfl, rfl, rfl⟩ | ⟨rfl, rfl, rfl, rfl⟩ <;> rfl
  have hperm : List.Perm [a, b, c] [x, y, z] := by
    rcases hj with ⟨rfl, rfl, rfl, rfl⟩ | ⟨rfl, rfl, rfl, rfl⟩ | ⟨rfl, rfl, rfl, rfl⟩
    · exact .refl _
    · exact (List.perm_append_comm (l₁ := [a, b]) (l₂ := [c]))
    · exact (List.perm_append_comm (l₁ := [a]) (l₂ := [b, c]))
  refine st_seq (st_asg zz (evd_tidx (K := K) (ns := [x, y, z]) hp ho (evv_var rfl) (evd_eq (evd_minT (n := x) (ns := [y, z]) (evd_var rfl hv)) (by rw [hmin])) hja hjn) fun v2 F2 H2 g2 p2 => ?_)
  obtain rfl := p2.int_inv
  have hv2 := hv.up g2.f
  refine st_seq (st_asg g2.fh (evd_eq (evd_catT (evd_tupT (evd_slT (evd_var rfl hv2) (evo_some (K := K) (evd_vari rfl)) evo_none)) (evd_tupT (evd_slT (evd_var rfl hv2) evo_none (evo_some (K := K) (evd_vari rfl)))) ?_) (congrArg PyData.tuple hcut)) fun v3 F3 H3 g3 p3 => ?_)
  · have h := congrArg List.length hcut
    rw [List.length_append] at h
    rw [h]
    simp
  · have g := g2.trans g3
    have i1 : ∀ {F4 H4 : Hp}, Same F3 F4 → EvD K (tOp (rIxT K) (tVar 2) (tC (.int 1))) [some (.ref p), some (.int (j : Nat)), some v3] F4 H4 (.int b) := fun f => evd_ixT (n := 1) (evd_var rfl (p3.up f)) evd_i rfl
    have i2 : ∀ {F4 H4 : Hp}, Same F3 F4 → EvD K (tOp (rIxT K) (tVar 2) (tUn (rU fun i => .int (-i)) (tC (.int 1)))) [some (.ref p), some (.int (j : Nat)), some v3] F4 H4 (.int c) := fun f => evd_ixTI (evd_var rfl (p3.up f)) (evd_unI (g := fun a => -a) evd_i) rfl
    refine st_ret g3.fh (P := fun v F' _ => ∃ ms : List Int, ms.Perm [x, y, z] ∧ ms.Pairwise (· ≤ ·) ∧ Dp K F' v (lotD ms)) (evp_if (b := decide (b < c)) (evt_test (evd_cmpI (g := fun a b => decide (a < b)) (i1 (Same.refl _)) (i2 (Same.refl _)))) (fun h => ?_) fun h => ?_) fun v F4 H4 g4 ⟨ms, h1, h2, h3⟩ => q v F4 H4 ms h1 h2 (g.trans g4) h3
    · have hbc := of_decide_eq_true h
      exact EvP.imp (evd_var rfl p3) fun v F4 H4 h4 => ⟨[a, b, c], hperm, by simp; omega, h4⟩
    · have hbc := of_decide_eq_false h
      have e0 : Ex5.idxT none (some 0) 3 = [2, 1] := by decide
      have e : cutD ([a, b, c].map PyData.int) none (some 1) ++ Ex5.atAll (Ex5.idxT none (some 0) ([a, b, c].map PyData.int).length) ([a, b, c].map PyData.int) = [a, c, b].map PyData.int := by
        show cutD ([a, b, c].map PyData.int) none (some 1) ++ Ex5.atAll (Ex5.idxT none (some 0) 3) ([a, b, c].map PyData.int) = _
        rw [e0]
        rfl
      refine EvP.imp (evd_eq (evd_catT (evd_slT (evd_var rfl p3) evo_none (evo_some (K := K) evd_i)) (evd_revT (evd_var rfl p3) evo_none (evo_some (K := K) evd_i) ?_) ?_) (congrArg PyData.tuple e)) fun v F4 H4 h4 => ⟨[a, c, b], (List.Perm.cons _ (List.Perm.swap _ _ _)).trans hperm, by simp; omega, h4⟩
      · show (Ex5.idxT none (some 0) 3).length ≤ 100000
        rw [e0]; decide
      · rw [← List.length_append, e]
        simp
end
end Sg
set_option maxRecDepth 100000
set_option maxHeartbeats 2000000
/-! Mth2: what drawn makes of a web. -/
namespace Sg
open PySem PySem.Spec L2 Dv
def hereW (W : Nat → Nat → Int) (x y : Nat) : Nat → Nat → Int := fun a b => if W x y = -1 then W a b * sdI [(y : Int)] a * sdI [(y : Int)] b else W a b
def mrgU (h : Nat → Nat → Int) (x y : Nat) : Nat → Nat → Int := fun a b => if a = x ∧ b ≠ x ∧ h a b = 0 then h y b else if b = x ∧ a ≠ x ∧ h a b = 0 then h a y else h a b
def keptL (n y : Nat) : List Nat := (List.range n).filter fun z => !decide (z = y)
theorem sdI_y (y a : Nat) : sdI [(y : Int)] a = if a = y then -1 else 1 := by
  unfold sdI
  by_cases h : a = y
  · subst h; simp
  · rw [if_neg h, if_neg (by simp; omega)]
theorem sdI_pm (ns : List Int) (a : Nat) : sdI ns a = 1 ∨ sdI ns a = -1 := by unfold sdI; split <;> simp
theorem pm3 {a b c : Int} (hb : b = 1 ∨ b = -1) (hc : c = 1 ∨ c = -1) : a * b * c = 0 ↔ a = 0 := by
  rcases hb with rfl | rfl <;> rcases hc with rfl | rfl <;> omega
theorem here_zero {W : Nat → Nat → Int} {x y a b : Nat} : hereW W x y a b = 0 ↔ W a b = 0 := by
  unfold hereW
  split
  · exact pm3 (sdI_pm _ _) (sdI_pm _ _)
  · exact Iff.rfl
theorem here_web {n : Nat} {W : Nat → Nat → Int} {x y : Nat} (w : Web n W) : Web n (hereW W x y) := by
  refine ⟨w.lo, w.hi, fun a b ha hb => ?_, fun a b ha hb => ?_, fun a ha => here_zero.mpr (w.dia a ha)⟩
  · have h := w.sgn a b ha hb
    unfold hereW
    split
    · rcases sdI_pm [(y : Int)] a with e | e <;> rcases sdI_pm [(y : Int)] b with e2 | e2 <;> rw [e, e2] <;> omega
    · exact h
  · have h := w.sym a b ha hb
    unfold hereW
    split
    · rw [h, Int.mul_assoc, Int.mul_comm (sdI _ a), ← Int.mul_assoc]
    · exact h
theorem here_xy {n : Nat} {W : Nat → Nat → Int} {x y : Nat} (w : Web n W) (hx : x < y) (hy : y < n) (h : W x y ≠ 0) : hereW W x y x y = 1 := by
  have h2 := w.sgn x y (by omega) hy
  have e1 : sdI [(y : Int)] x = 1 := by rw [sdI_y, if_neg (by omega)]
  have e2 : sdI [(y : Int)] y = -1 := by rw [sdI_y, if_pos rfl]
  unfold hereW
  rw [e1, e2]
  split <;> omega
/-- no bad round of three at the tie: the two signs towards z agree -/
theorem here_same {n : Nat} {W : Nat → Nat → Int} {x y z : Nat} (w : Web n W) (hx : x < y) (hy : y < n) (hz : z < n) (h : W x z * W z y * W x y ≠ -1) (h1 : hereW W x y x z ≠ 0) (h2 : hereW W x y y z ≠ 0) (h0 : W x y ≠ 0) : hereW W x y x z = hereW W x y y z := by
  have a1 : W x z ≠ 0 := fun e => h1 (here_zero.mpr e)
  have a2 : W y z ≠ 0 := fun e => h2 (here_zero.mpr e)
  have e := w.sym z y hz hy
  have b1 := w.sgn x z (by omega) hz
  have b2 := w.sgn y z hy hz
  have b3 := w.sgn x y (by omega) hy
  have zx : z ≠ x := fun e => a1 (by rw [e]; exact w.dia x (by omega))
  have zy : z ≠ y := fun e => a2 (by rw [e]; exact w.dia y hy)
  rw [e] at h
  have c1 : W x z = 1 ∨ W x z = -1 := by omega
  have c2 : W y z = 1 ∨ W y z = -1 := by omega
  have c3 : W x y = 1 ∨ W x y = -1 := by omega
  have e1 : sdI [(y : Int)] x = 1 := by rw [sdI_y, if_neg (by omega)]
  have e2 : sdI [(y : Int)] y = -1 := by rw [sdI_y, if_pos rfl]
  have e3 : sdI [(y : Int)] z = 1 := by rw [sdI_y, if_neg zy]
  unfold hereW
  rw [e1, e2, e3]
  rcases c1 with c1 | c1 <;> rcases c2 with c2 | c2 <;> rcases c3 with c3 | c3 <;> rw [c1, c2, c3] at h <;> rw [c1, c2, c3] <;> simp at h ⊢
def keyN (a b : Nat) : List Key := if a < b then kII a b else kII b a
theorem sgn_key {n : Nat} {h : Nat → Nat → Int} {a b : Nat} (w : Web n h) (ha : a < n) (hb : b < n) : (sgnM n h (keyN a b)).getD (.int 0) = .int (h a b) := by
  have core : ∀ a b : Nat, a < b → b < n → (sgnM n h (kII a b)).getD (.int 0) = .int (h a b) := fun a b hab hb => by
    show (if 0 ≤ (a : Int) ∧ (a : Int) < (b : Int) ∧ (b : Int) < n ∧ h (a : Int).toNat (b : Int).toNat ≠ 0 then some (V.int (h (a : Int).toNat (b : Int).toNat)) else none).getD (.int 0) = _
    simp only [Int.toNat_natCast]
    by_cases e : h a b = 0
    · rw [if_neg (by simp [e]), e]; rfl
    · rw [if_pos ⟨by omega, by omega, by omega, e⟩]; rfl
  unfold keyN
  by_cases h1 : a < b
  · rw [if_pos h1]; exact core a b h1 hb
  · rw [if_neg h1]
    by_cases h2 : b < a
    · rw [core b a h2 ha, w.sym a b ha hb]
    · have e : a = b := by omega
      subst e
      rw [w.dia a ha]
      show (if 0 ≤ (a : Int) ∧ (a : Int) < (a : Int) ∧ (a : Int) < n ∧ h (a : Int).toNat (a : Int).toNat ≠ 0 then some (V.int (h (a : Int).toNat (a : Int).toNat)) else none).getD (.int 0) = _
      rw [if_neg (by omega)]; rfl
theorem key_eq {a b c d : Nat} (h : keyN a b = keyN c d) : (a = c ∧ b = d) ∨ (a = d ∧ b = c) := by
  unfold keyN at h
  split at h <;> split at h <;> obtain ⟨h1, h2⟩ := kII_inj h <;> omega
theorem key_comm (a b : Nat) : keyN a b = keyN b a := by
  unfold keyN
  by_cases h : a < b
  · rw [if_pos h, if_neg (by omega)]
  · rw [if_neg h]
    by_cases h2 : b < a
    · rw [if_pos h2]
    · have e : a = b := by omega
      subst e; rw [if_neg (by omega)]
/-- what the update stores -/
def updM (n : Nat) (h : Nat → Nat → Int) (x y : Nat) : List Key → Option V := dfun n (fun z => !decide (h y z = 0) && !decide (z = x)) (fun z => keyN x z) fun z => .int (h y z)
theorem upd_at {n : Nat} {h : Nat → Nat → Int} {x y b : Nat} (hb : b < n) (hx : b ≠ x) (hy : h y b ≠ 0) : updM n h x y (keyN x b) = some (.int (h y b)) := by
  refine dfun_some (fun z hz hp e => ?_) ⟨b, hb, by simp [hx, hy], rfl⟩
  rcases key_eq e with ⟨_, e⟩ | ⟨e1, e2⟩
  · rw [e]
  · exact (hx e2).elim
theorem upd_no {n : Nat} {h : Nat → Nat → Int} {x y a b : Nat} (hno : ∀ z, z < n → h y z ≠ 0 → z ≠ x → ¬ ((a = x ∧ b = z) ∨ (a = z ∧ b = x))) : updM n h x y (keyN a b) = none := by
  refine dfun_none fun z hz hp e => ?_
  simp only [Bool.and_eq_true, Bool.not_eq_true', decide_eq_false_iff_not] at hp
  exact hno z hz hp.1 hp.2 (key_eq e)
theorem drawn_at {n : Nat} {W : Nat → Nat → Int} {x y a b : Nat} (w : Web n W) (hx : x < y) (hy : y < n) (h0 : W x y ≠ 0) (hgood : ∀ z, z < n → W x z * W z y * W x y ≠ -1) (ha : a < n) (hb : b < n) :
    ((match updM n (hereW W x y) x y (keyN a b) with | some v => some v | none => sgnM n (hereW W x y) (keyN a b)) : Option V).getD (.int 0) = .int (mrgU (hereW W x y) x y a b) := by
  have wh : Web n (hereW W x y) := here_web w
  generalize hh : hereW W x y = h at wh ⊢
  have same : ∀ z, z < n → h x z ≠ 0 → h y z ≠ 0 → h x z = h y z := fun z hz h1 h2 => by
    rw [← hh] at h1 h2 ⊢
    exact here_same w hx hy hz (hgood z hz) h1 h2 h0
  have sk := sgn_key wh ha hb
  have none_case : updM n h x y (keyN a b) = none → ((match updM n h x y (keyN a b) with | some v => some v | none => sgnM n h (keyN a b)) : Option V).getD (.int 0) = .int (h a b) := fun e => by rw [e]; exact sk
  have some_case : ∀ {c : Int}, updM n h x y (keyN a b) = some (.int c) → ((match updM n h x y (keyN a b) with | some v => some v | none => sgnM n h (keyN a b)) : Option V).getD (.int 0) = .int c := fun e => by rw [e]; rfl
  unfold mrgU
  by_cases hax : a = x
  · subst hax
    by_cases hbx : b = a
    · subst hbx
      rw [none_case (upd_no fun z hz _ hzx h => by omega), if_neg (by simp), if_neg (by simp)]
    · by_cases hyb : h y b = 0
      · rw [none_case (upd_no fun z hz h1 hzx h => by rcases h with ⟨_, e⟩ | ⟨e, _⟩; (subst e; exact h1 hyb); omega)]
        by_cases he : h a b = 0
        · rw [if_pos ⟨rfl, hbx, he⟩, hyb, he]
        · rw [if_neg (by simp [he]), if_neg (by simp [hbx])]
      · rw [some_case (upd_at hb hbx hyb)]
        by_cases he : h a b = 0
        · rw [if_pos ⟨rfl, hbx, he⟩]
        · rw [if_neg (by simp [he]), if_neg (by simp [hbx]), same b hb he hyb]
  · by_cases hbx : b = x
    · subst hbx
      rw [if_neg (by simp [hax])]
      have es := wh.sym a b ha hb
      have ey := wh.sym a y ha hy
      by_cases hya : h y a = 0
      · rw [none_case (upd_no fun z hz h1 hzx h => by rcases h with ⟨e, _⟩ | ⟨e, _⟩; omega; (subst e; exact h1 hya))]
        by_cases he : h a b = 0
        · rw [if_pos ⟨rfl, hax, he⟩, he, ey, hya]
        · rw [if_neg (by simp [he])]
      · rw [some_case (by rw [key_comm]; exact upd_at ha hax hya)]
        by_cases he : h a b = 0
        · rw [if_pos ⟨rfl, hax, he⟩, ey]
        · rw [if_neg (by simp [he]), es, same a ha (by rw [← es]; exact he) hya]
    · rw [if_neg (by simp [hax]), if_neg (by simp [hbx]), none_case (upd_no fun z hz _ _ h => by omega)]
theorem kept_len {n y : Nat} (hy : y < n) : (keptL n y).length = n - 1 := by
  unfold keptL
  have h : ∀ n, ((List.range n).filter fun z => !decide (z = y)).length = if y < n then n - 1 else n := by
    intro n
    induction n with
    | zero => simp
    | succ n ih =>
      rw [List.range_succ, List.filter_append, List.length_append, ih]
      by_cases h1 : n = y
      · subst h1
        simp
      · have : ((List.filter (fun z => !decide (z = y)) [n]).length) = 1 := by simp [h1]
        rw [this]
        by_cases h2 : y < n
        · rw [if_pos h2, if_pos (by omega)]; omega
        · rw [if_neg h2, if_neg (by omega)]
  rw [h, if_pos hy]
theorem kept_mem {n y z : Nat} : z ∈ keptL n y ↔ z < n ∧ z ≠ y := by
  unfold keptL
  simp [List.mem_filter, List.mem_range]
def drawnU (n : Nat) (W : Nat → Nat → Int) (x y : Nat) : Nat → Nat → Int := subW (keptL n y) (mrgU (hereW W x y) x y)
end Sg
set_option maxRecDepth 100000
set_option maxHeartbeats 4000000
/-! G7: drawn. -/
namespace Sg
open PySem PySem.Spec L2 Dv
section
variable {P : Program} {w : World} {K : PySem.W.Frag} {mg : Str → Option Value} {base : Heap} {SE IW IT NB TM fI : Addr} {fd : FuncData}
def Pre2 : List PyData → Prop := fun ds => ∃ a b, ds = [a, b]
def BadZ (W : Nat → Nat → Int) (x y z : Nat) : Prop := W x z * W z y * W x y = -1
def R_drawn : List PyData → PyData → Prop := fun ds d => ∃ n W x y, ds = [matD n W, tieD (x, y)] ∧ Web n W ∧ x < y ∧ y < n ∧ W x y ≠ 0 ∧ (∀ z, z < n → ¬ BadZ W x y z) ∧ d = matD (n - 1) (drawnU n W x y)
def RingE (K : PySem.W.Frag) (NB : Addr) (x y z : Nat) (cls : Value) (d : Option Addr) (F' H' : Hp) : Prop := cls = .ref NB ∧ ∃ dx v ms, d = some dx ∧ H' dx = some (.xd [("ring", v)]) ∧ Dp K F' v (lotD ms) ∧ ms.Perm [(x : Int), y, z] ∧ ms.Pairwise (· ≤ ·)
def X_drawn (K : PySem.W.Frag) (IW IT NB : Addr) : List PyData → Value → Option Addr → Hp → Hp → Prop := fun ds cls d F' H' => ∃ a b, ds = [a, b] ∧ ((¬ IsWeb a ∧ cls = .ref IW ∧ d = none) ∨ ∃ n W, a = matD n W ∧ Web n W ∧
  ((¬ IsTie n W b ∧ cls = .ref IT ∧ d = none) ∨ ∃ x y z, b = tieD (x, y) ∧ x < y ∧ y < n ∧ z < n ∧ W x y ≠ 0 ∧ BadZ W x y z ∧ RingE K NB x y z cls d F' H'))
theorem evd_web_by {σ : L2.St} {F H H0 : Hp} {tn tp : TE} {E0 : XK} {n : Nat} {p : Addr} {B : Nat} {g : List Key → Option V} {U : Nat → Nat → Int} (hn : n ≤ 11) (h1 : EvD K tn σ F H (.int (n : Nat))) (h2 : EvV tp σ F H (.ref p)) (hp : ODict H0 F H p B g)
    (hg : ∀ x y, x < n → y < n → (g (keyN x y)).getD (.int 0) = .int (U x y)) : EvD K (tCall (sp_web_by K) [] E0 (tCons tn (tCons tp tNil))) σ F H (matD n U) :=
  fun F1 H1 x y z Q q => by
    refine h1 F1 H1 x y z (fun v H2 => tp σ H2 fun u H3 => sp_web_by K ([v, u] ++ []) H3 Q E0) fun v F2 H2 g2 p2 => ?_
    refine h2 F2 H2 (x.trans g2.f) (y.trans g2.h) g2.fh _ fun u F3 H3 g3 e => ?_
    obtain rfl := p2.int_inv
    subst e
    obtain ⟨m, a, b⟩ := hp.at_
    have a3 := ((y.trans g2.h).trans g3.h) _ _ a
    exact ⟨F3, n, p, B, g, U, hn, g3.fh, rfl, ⟨m, a3, b⟩, hg, fun v F4 H4 g4 p4 => q v F4 H4 ((g2.trans g3).trans g4) p4⟩
theorem others_picks (n y : Nat) : PyData.tuple (picks n (fun i => !decide ((i : Int) ∈ [(y : Int)])) fun i => .int (i : Nat)) = natD (keptL n y) := by
  unfold picks natD lotD keptL
  rw [List.map_map]
  have e : (fun i : Nat => !decide ((i : Int) ∈ [(y : Int)])) = fun z : Nat => !decide (z = y) := by
    funext i
    congr 1
    rw [decide_eq_decide]
    simp
    omega
  rw [e]
  rfl
theorem mk_ring {σ : L2.St} {F H : Hp} {tx ty tz : TE} {x y i : Int} {E0 : XK} {Q : XK} (z : Same F H) (hx : EvD K tx σ F H (.int x)) (hy : EvD K ty σ F H (.int y)) (hi : EvD K tz σ F H (.int i)) (d1 : x ≠ y) (d2 : x ≠ i) (d3 : y ≠ i)
    (k : ∀ v F7 H7 ms dx, List.Perm ms [x, y, i] → ms.Pairwise (· ≤ ·) → Gr F H F7 H7 → Dp K F7 v (lotD ms) → H7 dx = none → Q (.ref NB) (some dx) (upd H7 dx (.xd [("ring", v)]))) :
    Ex3.tMkNb NB (tCall (sp_ringT K) [] E0 (tCons (Ex6.tTupZ (tCons tx (tCons ty (tCons tz tNil)))) tNil)) σ H Q := by
  have h := (eva_cons hx (eva_cons hy (eva_one hi))) F H (Same.refl _) (Same.refl _) z (fun vs H1 => vs.length ≤ sizeLine ∧ ∀ p o, H1 p = none → o.dict = none → sp_ringT K ([.ref p] ++ []) (upd H1 p (.frz o (.tup vs))) (fun v H2 => ∀ dx, H2 dx = none → Q (.ref NB) (some dx) (upd H2 dx (.xd [("ring", v)]))) E0)
  refine h fun us F5 H5 g5 p5 => ?_
  obtain ⟨u1, u2, u3, rfl, k1, k2, k3⟩ := DpAll.three_inv p5
  obtain rfl := k1.int_inv
  obtain rfl := k2.int_inv
  obtain rfl := k3.int_inv
  refine ⟨show 3 ≤ sizeLine by decide, fun p o hp ho => ?_⟩
  have g6 := Gr.new (o := .frz o (.tup [.int x, .int y, .int i])) g5.fh hp
  exact ⟨_, p, o, x, y, i, g6.fh, rfl, upd_same, ho, d1, d2, d3, fun v F7 H7 ms hm1 hm2 g7 hv7 dx hdx => k v F7 H7 ms dx hm1 hm2 ((g5.trans g6).trans g7) hv7 hdx⟩
theorem sc_drawn : FnScope ["web", "tie", "x", "y", "z", "here", "signs"] ["web", "tie"] (defScope (topS 33)) := ⟨rfl, rfl, rfl, by decide +kernel, rfl, by decide +kernel, by decide +kernel⟩
theorem c_drawn (T : Txt K mg) (Er : Errs P K mg SE IW IT NB TM fI fd) : Cal P w K mg base (L2.CX P w) 6 "drawn" ["web", "tie"] (spE K Pre2 R_drawn (X_drawn K IW IT NB)) := by
  have c_check_web := c_check_web (P := P) (w := w) (base := base) T Er
  have c_check_tie := c_check_tie (P := P) (w := w) (base := base) T Er
  have c_ring_by := c_ring_byT (P := P) (w := w) (base := base) T
  have c_turned_web := c_turned_web (P := P) (w := w) (base := base) T
  have c_signs_of := c_signs_of (P := P) (w := w) (base := base) T
  have c_tie_between := c_tie_between (P := P) (w := w) (base := base) T
  have c_web_by := c_web_by (P := P) (w := w) (base := base) T
  have c_others_of := c_others_of (P := P) (w := w) (base := base) T
  have c_inner_web := c_inner_web (P := P) (w := w) (base := base) T
  refine T.d_drawn.calE sc_drawn (fun ds ⟨a, b, e⟩ => by rw [e]; rfl) (fun f cdv A outer s F H vs ds Q E hr z ha pr q qx htk hpass => ?_)
  have nd := sc_drawn.nd
  obtain ⟨a, b, rfl⟩ := pr
  obtain ⟨v1, v2, rfl, h1, h2⟩ := DpAll.two_inv ha
  refine ⟨_, (pss_cons (ps_expr (pe_cal c_check_web hr (by decide) hpass (pa_cons (pv 0) pa_nil)))
      (pss_cons (ps_expr (pe_cal c_check_tie hr (by decide) hpass (pa_cons (pv 0) (pa_cons (pv 1) pa_nil))))
      (pss_cons (ps_asg (pv 1) (kPgT (n := 2) K rfl (pgs_cons (pg_name (i := 2) nd rfl (Or.inr rfl)) (pgs_cons (pg_name (i := 3) nd rfl (Or.inr rfl)) pgs_nil))))
      (pss_cons (ps_for (passes_of rfl) rfl (pi_range1 rfl T.range_n (pa_cons (q_len K T.len_n (pv 0)) pa_nil)) (pg_name (i := 4) nd rfl (Or.inl rfl)) (pss_one (ps_if (pt_cmpR op_eq (pe_op op_mul (pe_op op_mul (pe_ix (kIxT K) (pe_ix (kIxT K) (pv 0) (pv 2) (fun _ _ => rfl)) (pv 4) (fun _ _ => rfl)) (pe_ix (kIxT K) (pe_ix (kIxT K) (pv 0) (pv 4) (fun _ _ => rfl)) (pv 3) (fun _ _ => rfl))) (pe_ix (kIxT K) (pe_ix (kIxT K) (pv 0) (pv 2) (fun _ _ => rfl)) (pv 3) (fun _ _ => rfl))) (pe_un un_neg pe_int) (nomark _)) (pss_one (ps_raise rfl htk (Ex3.pmk_nb (k := 0) Er.nb T.super_n (hr.mono (by decide)) rfl Er.nbm (pe_cal c_ring_by hr (by decide) pass0 (pa_cons (Ex6.pe_tupZ (pa_cons (pv 2) (pa_cons (pv 3) (pa_cons (pv 4) pa_nil)))) pa_nil))))) pss_nil)))
      (pss_cons (ps_set (i := 5) nd rfl (Or.inr rfl) (pe_ifExp (pt_cmpR op_eq (pe_ix (kIxT K) (pe_ix (kIxT K) (pv 0) (pv 2) (fun _ _ => rfl)) (pv 3) (fun _ _ => rfl)) (pe_un un_neg pe_int) (nomark _)) (pe_cal c_turned_web hr (by decide) pass0 (pa_cons (pv 0) (pa_cons (pe_tup (pa_cons (pv 3) pa_nil)) pa_nil))) (pv 0)))
      (pss_cons (ps_set (i := 6) nd rfl (Or.inl rfl) (pe_cal c_signs_of hr (by decide) pass0 (pa_cons (pv 5) pa_nil)))
      (pss_cons (ps_expr (Ex2.pe_updT (hu1 hr) (pv 6) (Ex2.pe_dcT (own := [("z", 4)]) (hu1 hr) rfl nd (pi_range1 rfl T.range_n (pa_cons (q_len K T.len_n (pv 0)) pa_nil)) (blkOk_by (by kernel_rfl)) (fun _ _ _ _ _ => (pg_name (i := 4) nd rfl (Or.inl rfl))) (fun _ _ _ _ _ => (pts_one (PW.pt (pw_and (pt_cmpR op_ne (pe_ix (kIxT K) (pe_ix (kIxT K) (pv 5) (pv 3) (fun _ _ => rfl)) (pv 4) (fun _ _ => rfl)) pe_int (nomark _)) (pw_and1 (pt_cmpR op_ne (pv 4) (pv 2) (nomark _))))))) (fun _ _ _ _ _ => (pe_cal c_tie_between hr (by decide) pass0 (pa_cons (pv 2) (pa_cons (pv 4) pa_nil)))) (fun _ _ _ _ _ => (pe_ix (kIxT K) (pe_ix (kIxT K) (pv 5) (pv 3) (fun _ _ => rfl)) (pv 4) (fun _ _ => rfl)))) ⟨rfl, rfl, rfl, rfl⟩))
      (pss_one (ps_ret (pe_cal c_inner_web hr (by decide) pass0 (pa_cons (pe_cal c_web_by hr (by decide) pass0 (pa_cons (q_len K T.len_n (pv 0)) (pa_cons (pv 6) pa_nil))) (pa_cons (pe_cal c_others_of hr (by decide) pass0 (pa_cons (q_len K T.len_n (pv 0)) (pa_cons (pe_tup (pa_cons (pv 3) pa_nil)) pa_nil))) pa_nil)))))))))))), ?_⟩
  refine st_seq (st_callE z (eva_one (evd_var rfl h1)) ⟨a, rfl⟩ (fun d F1 H1 hR g1 => ?_) fun cls d F1 H1 ⟨a', e, nw, hc, hd⟩ g1 => ?_)
  rotate_left
  · injection e with e _
    exact qx cls d F1 H1 ⟨a, b, rfl, .inl ⟨by rw [e]; exact nw, hc, hd⟩⟩ g1
  obtain ⟨a', e, ⟨n, W, e2, ww⟩, _⟩ := hR
  injection e with e _
  subst e
  subst e2
  have hn10 := ww.hi
  refine st_seq (st_callE g1.fh (eva_cons (evd_var rfl (h1.up g1.f)) (eva_one (evd_var rfl (h2.up g1.f)))) ⟨n, W, b, rfl, hn10⟩ (fun d F2 H2 hR g2 => ?_) fun cls d F2 H2 ⟨n', W', a', e, _, nt, hc, hd⟩ g2 => ?_)
  rotate_left
  · injection e with e e'
    injection e' with e' _
    obtain ⟨rfl, hWW⟩ := mat_inj e
    subst e'
    refine qx cls d F2 H2 ⟨matD n W, b, rfl, .inr ⟨n, W, rfl, ww, .inl ⟨fun ⟨x, y, e, h1, h2, h3⟩ => nt ⟨x, y, e, h1, h2, ?_⟩, hc, hd⟩⟩⟩ (g1.trans g2)
    rw [← hWW x y (by omega) h2]; exact h3
  obtain ⟨n', W', a', e, _, ⟨x, y, e3, hxy, hyn, hw0'⟩, _⟩ := hR
  injection e with e e'
  injection e' with e' _
  obtain ⟨rfl, hWW⟩ := mat_inj e
  subst e'
  subst e3
  have hw0 : W x y ≠ 0 := by rw [hWW x y (by omega) hyn]; exact hw0'
  clear e hWW hw0'
  have hxn : x < n := by omega
  have g := g1.trans g2
  have hv1 : Dp K F2 v1 (matD n W) := h1.up g.f
  have hv2 : Dp K F2 v2 (tieD (x, y)) := h2.up g.f
  refine st_seq (st_asg2 g2.fh (evd_var rfl hv2) fun vx vy F3 H3 g3 hx hy => ?_)
  obtain rfl := hx.int_inv
  obtain rfl := hy.int_inv
  have cm : ∀ (i : Int) a b, a < n → b < n → CMul i (W a b) := fun i a b ha hb => .inr (by rcases ww.sgn a b ha hb with e | e | e <;> rw [e] <;> decide)
  have eσ : ((L2.start ["web", "tie", "x", "y", "z", "here", "signs"] [v1, v2]).set 2 (some (.int ((x, y).1 : Nat)))).set 3 (some (.int ((x, y).2 : Nat))) = [some v1, some v2, some (.int (x : Nat)), some (.int (y : Nat)), none, none, none] := rfl
  rw [eσ]
  dsimp only
  refine st_seq (st_forI (K := K) (g := fun i => (i : Nat)) (n := n) (fun i σ' F' H' => ∃ u, σ' = [some v1, some v2, some (.int (x : Nat)), some (.int (y : Nat)), u, none, none] ∧ Gr F3 H3 F' H' ∧ ∀ z, z < i → ¬ BadZ W x y z) g3.fh ?_ (fun F4 H4 g4 => ⟨_, rfl, g4, fun z h => absurd h (Nat.not_lt_zero _)⟩) ?_ ?_)
  · have h := iwd_range1 (K := K) (n := (n : Int)) (ta := tCB (rLenQ K) (tCons (tVar 0) tNil)) (σ := [some v1, some v2, some (.int (x : Nat)), some (.int (y : Nat)), none, none, none]) (F := F3) (H := H3) (evd_lenR (evd_var rfl (hv1.up g3.f))) (by omega) (by omega)
    rw [Int.toNat_natCast] at h
    exact h
  · rintro i σ' F' H' F'' H'' N hi f' z' ⟨u, rfl, gg, hno⟩ g' hN
    have hv1' : Dp K F'' v1 (matD n W) := hv1.up (g3.f.trans (gg.f.trans g'.f))
    have cell : ∀ {p q : Nat} {tp tq : TE} {σ : L2.St} {F4 H4 : Hp}, p < n → q < n → Same F'' F4 → σ[0]? = some (some v1) → EvD K tp σ F4 H4 (.int (p : Nat)) → EvD K tq σ F4 H4 (.int (q : Nat)) → EvD K (tOp (rIxT K) (tOp (rIxT K) (tVar 0) tp) tq) σ F4 H4 (.int (W p q)) := fun hp hq f hσ h1 h2 => evd_cell (evd_var hσ (hv1'.up f)) h1 h2 hp hq
    refine st_if g'.fh (b := decide (W x i * W i y * W x y = -1)) (evt_test (evd_eqI (evd_opC (g := fun a b => a * b) (evd_opC (g := fun a b => a * b) (cell hxn hi (Same.refl _) rfl (evd_vari rfl) (evd_vari rfl)) (cell hi hyn (Same.refl _) rfl (evd_vari rfl) (evd_vari rfl)) (cm _ _ _ hi hyn)) (cell hxn hyn (Same.refl _) rfl (evd_vari rfl) (evd_vari rfl)) (cm _ _ _ hxn hyn)) (evd_unI (g := fun a => -a) evd_i))) (fun hb F4 H4 g4 => ?_) fun hb F4 H4 g4 => ?_
    · have hbad : BadZ W x y i := show W x i * W i y * W x y = -1 from of_decide_eq_true hb
      have hix : i ≠ x := fun e => by subst e; unfold BadZ at hbad; rw [ww.dia i hi] at hbad; simp at hbad
      have hiy : i ≠ y := fun e => by subst e; unfold BadZ at hbad; rw [ww.dia i hi] at hbad; simp at hbad
      -- raise NotBalanced(ring_by((x, y, z)))
      refine mk_ring (x := (x : Nat)) (y := (y : Nat)) (i := (i : Nat)) g4.fh (evd_vari rfl) (evd_vari rfl) (evd_vari rfl) (by omega) (by omega) (by omega) fun v F7 H7 ms dx hm1 hm2 g7 hv7 hdx => ?_
      have G := ((((g.trans g3).trans gg).trans g').trans g4).trans g7
      have hF7 : F7 dx = none := G.fh.free hdx
      have g8 : Gr F7 H7 F7 (upd H7 dx (.xd [("ring", v)])) := .own G.fh hdx
      exact qx _ _ _ _ ⟨matD n W, tieD (x, y), rfl, .inr ⟨n, W, rfl, ww, .inr ⟨x, y, i, rfl, hxy, hyn, hi, hw0, hbad, rfl, dx, v, ms, rfl, upd_same, hv7, hm1, hm2⟩⟩⟩ (G.trans g8)
    · refine hN _ F4 H4 g4.f g4.fh ⟨_, rfl, (gg.trans g').trans g4, fun z hz => ?_⟩
      rcases Nat.lt_succ_iff_lt_or_eq.mp hz with h | h
      · exact hno z h
      · subst h
        exact show ¬ W x z * W z y * W x y = -1 from of_decide_eq_false hb
  · rintro σ' F' H' f' z' ⟨u, rfl, gg, hno⟩
    have gA := (g.trans g3).trans gg
    have hvA : Dp K F' v1 (matD n W) := h1.up gA.f
    have hb1 : ∀ a b, a < n → b < n → -1 ≤ W a b ∧ W a b ≤ 1 := fun a b ha hb => by have := ww.sgn a b ha hb; omega
    -- here
    refine st_seq (st_asg gg.fh (P := fun v F4 _ => Dp K F4 v (matD n (hereW W x y))) (evp_if (b := decide (W x y = -1)) (evt_test (evd_eqI (evd_cell (evd_var rfl hvA) (evd_vari rfl) (evd_vari rfl) hxn hyn) (evd_unI (g := fun a => -a) evd_i))) (fun hb => ?_) fun hb => ?_) fun vh F4 H4 g4 hh => ?_)
    · have e : matD n (hereW W x y) = matD n fun a b => W a b * sdI [(y : Int)] a * sdI [(y : Int)] b := by
        refine mat_congr fun a b _ _ => ?_
        unfold hereW
        rw [if_pos (of_decide_eq_true hb)]
      rw [e]
      exact evd_call (eva_cons (evd_var rfl hvA) (eva_one (evd_tup (ds := [.int (y : Nat)]) (eva_one (evd_vari rfl)) (by simp)))) ⟨n, W, [(y : Int)], rfl, hn10, hb1, rfl⟩
    · have e : matD n (hereW W x y) = matD n W := by
        refine mat_congr fun a b _ _ => ?_
        unfold hereW
        rw [if_neg (of_decide_eq_false hb)]
      rw [e]
      exact evd_var rfl hvA
    have hvw := here_web (x := x) (y := y) ww
    -- signs
    refine st_seq (st_asg g4.fh (evp_callN (eva_one (evd_var rfl hh)) ⟨n, _, hn10, rfl, rfl, rfl⟩) fun vs5 F5 H5 g5 ⟨p, e5, hp5⟩ => ?_)
    subst e5
    have hh5 := hh.up g5.f
    have hex : ∃ k, (sgnM n (hereW W x y) k).isSome = true := ⟨kII x y, by
      show (if 0 ≤ (x : Int) ∧ (x : Int) < (y : Int) ∧ (y : Int) < n ∧ hereW W x y (x : Int).toNat (y : Int).toNat ≠ 0 then _ else _ : Option V).isSome = true
      rw [if_pos ⟨by omega, by omega, by omega, by simp only [Int.toNat_natCast]; rw [here_xy ww hxy hyn hw0]; decide⟩]
      rfl⟩
    refine st_seq (st_dupd (B2 := n) (g2 := updM n (hereW W x y) x y) hp5 g5.fh rfl ?_ hex (by omega) fun o F6 H6 g6 hp6 => ?_)
    · refine (evp_dcT (K := K) (P := fun i σ2 _ => σ2 = (wipe [some v1, some v2, some (.int (x : Nat)), some (.int (y : Nat)), u, some vh, some (.ref p)] [4]).set 4 (some (.int (i : Nat)))) _ _ _ (iwd_range1 (n := (n : Int)) (evd_lenR (evd_var rfl (h1.up ((gA.trans g4).trans g5).f))) (by omega) (by omega)) (by omega) (fun _ _ _ _ _ _ => tgd_int) ?_ ?_ ?_ ?_).imp fun v F6 H6 h => h
      · rintro i σ2 F1 rfl
        exact wipe_set (by decide)
      · rintro i σ2 F6 H6 hi f6 h6 z6 rfl
        exact evt_and (evt_test (evd_neI (evd_cell (evd_var rfl (hh5.up f6)) (evd_vari rfl) (evd_vari rfl) hyn (by omega)) evd_i)) fun _ => evt_eq (evt_test (evd_neI (K := K) (evd_vari rfl) (evd_vari rfl))) (by congr 1; rw [decide_eq_decide]; omega)
      · rintro i σ2 F6 H6 hi hpi f6 h6 z6 rfl
        refine evp_callP (eva_cons (evd_vari (K := K) rfl) (eva_one (evd_vari rfl))) ⟨x, i, rfl, ?_⟩
        unfold keyN
        congr 1
        by_cases h : x < i
        · rw [if_pos h, if_pos (by omega)]
        · rw [if_neg h, if_neg (by omega)]
      · rintro i σ2 F6 H6 hi hpi f6 h6 z6 rfl
        exact evv_of_int (evd_cell (evd_var rfl (hh5.up f6)) (evd_vari rfl) (evd_vari rfl) hyn (by omega))
    · have gB := ((gA.trans g4).trans g5).trans g6
      have hH : H p = none := (gA.trans g4).h.free hp6.nw
      have zB := same_mut (o := o) gB.fh hp6.out
      refine st_ret (F := F6) (H := upd H6 p o) zB (evd_eq (e := matD (n - 1) (drawnU n W x y)) (evd_call (eva_cons (evd_web_by (U := mrgU (hereW W x y) x y) (by omega) (evd_lenR (evd_var rfl (h1.up gB.f))) (evv_var rfl) hp6 fun a b ha hb => drawn_at ww hxy hyn hw0 (fun z hz => hno z hz) ha hb) (eva_one (evd_eq (evd_call (eva_cons (evd_lenR (evd_var rfl (h1.up gB.f))) (eva_one (evd_tup (ds := [.int (y : Nat)]) (eva_one (evd_vari rfl)) (by simp)))) ⟨n, [(y : Int)], by omega, rfl, rfl⟩) (others_picks n y)))) ⟨n, mrgU (hereW W x y) x y, keptL n y, rfl, by rw [kept_len hyn]; omega, fun z hz => (kept_mem.mp hz).1, rfl⟩) ?_) fun v7 F7 H7 g7 p7 => ?_
      · show matD (keptL n y).length (drawnU n W x y) = _
        rw [kept_len hyn]
      · exact q v7 F7 H7 _ ⟨n, W, x, y, rfl, ww, hxy, hyn, hw0, hno, rfl⟩ ((gB.mut hH hp6.out).trans g7) p7
end
end Sg
set_option maxRecDepth 100000
set_option maxHeartbeats 4000000
/-! G8: parted_tie. -/
namespace Sg
open PySem PySem.Spec L2 Dv
def prtU (n : Nat) (W : Nat → Nat → Int) (x y : Nat) : Nat → Nat → Int := fun a b => if (a = x ∧ b = y) ∨ (a = y ∧ b = x) then 0 else if (a = x ∧ b = n) ∨ (a = n ∧ b = x) then 1 else
  if (a = y ∧ b = n) ∨ (a = n ∧ b = y) then W x y else if a < n ∧ b < n then W a b else 0
theorem prt_web {n : Nat} {W : Nat → Nat → Int} {x y : Nat} (w : Web n W) (hn : n ≤ 9) (hxy : x < y) (hyn : y < n) : Web (n + 1) (prtU n W x y) := by
  refine ⟨by omega, by omega, fun a b ha hb => ?_, fun a b ha hb => ?_, fun a ha => ?_⟩
  · unfold prtU
    split
    · exact .inl rfl
    · split
      · exact .inr (.inl rfl)
      · split
        · exact w.sgn x y (by omega) hyn
        · split
          · rename_i h; exact w.sgn a b h.1 h.2
          · exact .inl rfl
  · unfold prtU
    have c1 : ((b = x ∧ a = y) ∨ (b = y ∧ a = x)) ↔ ((a = x ∧ b = y) ∨ (a = y ∧ b = x)) := by omega
    have c2 : ((b = x ∧ a = n) ∨ (b = n ∧ a = x)) ↔ ((a = x ∧ b = n) ∨ (a = n ∧ b = x)) := by omega
    have c3 : ((b = y ∧ a = n) ∨ (b = n ∧ a = y)) ↔ ((a = y ∧ b = n) ∨ (a = n ∧ b = y)) := by omega
    have c4 : (b < n ∧ a < n) ↔ (a < n ∧ b < n) := by omega
    simp only [c1, c2, c3, c4]
    by_cases h4 : a < n ∧ b < n
    · simp only [w.sym a b h4.1 h4.2]
    · simp only [h4, if_false]
  · unfold prtU
    rw [if_neg (by omega), if_neg (by omega), if_neg (by omega)]
    split
    · rename_i h; exact w.dia a h.1
    · rfl
theorem key_iff {a b c d : Nat} (hcd : c < d) : keyN a b = kII c d ↔ (a = c ∧ b = d) ∨ (a = d ∧ b = c) := by
  have e : keyN c d = kII c d := by unfold keyN; rw [if_pos hcd]
  rw [← e]
  constructor
  · exact key_eq
  · rintro (⟨rfl, rfl⟩ | ⟨rfl, rfl⟩)
    · rfl
    · exact key_comm _ _
theorem sgn_out {n : Nat} {W : Nat → Nat → Int} {a b : Nat} (h : ¬ (a < n ∧ b < n)) : sgnM n W (keyN a b) = none := by
  have core : ∀ a b : Nat, ¬ b < n ∨ ¬ a < b → sgnM n W (kII a b) = none := fun a b h => by
    show (if 0 ≤ (a : Int) ∧ (a : Int) < (b : Int) ∧ (b : Int) < n ∧ W (a : Int).toNat (b : Int).toNat ≠ 0 then some (V.int (W (a : Int).toNat (b : Int).toNat)) else none) = none
    rw [if_neg (by omega)]
  unfold keyN
  split
  · exact core a b (by omega)
  · exact core b a (by omega)
theorem prt_at {n : Nat} {W : Nat → Nat → Int} {x y a b : Nat} (w : Web n W) (hxy : x < y) (hyn : y < n) :
    ((fun j => if j = kII (y : Nat) (n : Nat) then some (V.int (W x y)) else (fun j => if j = kII (x : Nat) (n : Nat) then some (V.int 1) else (fun l => if l = kII (x : Nat) (y : Nat) then none else sgnM n W l) j) j) (keyN a b)).getD (.int 0) = .int (prtU n W x y a b) := by
  show (if keyN a b = kII (y : Nat) (n : Nat) then some (V.int (W x y)) else if keyN a b = kII (x : Nat) (n : Nat) then some (V.int 1) else if keyN a b = kII (x : Nat) (y : Nat) then none else sgnM n W (keyN a b)).getD (.int 0) = _
  unfold prtU
  simp only [key_iff hyn, key_iff (Nat.lt_trans hxy hyn), key_iff hxy]
  by_cases h1 : (a = x ∧ b = y) ∨ (a = y ∧ b = x)
  · have h2 : ¬ ((a = x ∧ b = n) ∨ (a = n ∧ b = x)) := by omega
    have h3 : ¬ ((a = y ∧ b = n) ∨ (a = n ∧ b = y)) := by omega
    simp only [h1, h2, h3, if_true, if_false]; rfl
  · by_cases h3 : (a = y ∧ b = n) ∨ (a = n ∧ b = y)
    · have h2 : ¬ ((a = x ∧ b = n) ∨ (a = n ∧ b = x)) := by omega
      simp only [h1, h2, h3, if_true, if_false]; rfl
    · by_cases h2 : (a = x ∧ b = n) ∨ (a = n ∧ b = x)
      · simp only [h1, h2, h3, if_true, if_false]; rfl
      · simp only [h1, h2, h3, if_false]
        by_cases h4 : a < n ∧ b < n
        · simp only [h4, and_self, if_true]
          exact sgn_key w h4.1 h4.2
        · simp only [h4, if_false]
          rw [sgn_out h4]; rfl
section
variable {P : Program} {w : World} {K : PySem.W.Frag} {mg : Str → Option Value} {base : Heap} {SE IW IT NB TM fI : Addr} {fd : FuncData}
def R_parted_tie : List PyData → PyData → Prop := fun ds d => ∃ n W x y, ds = [matD n W, tieD (x, y)] ∧ Web n W ∧ n ≤ 9 ∧ x < y ∧ y < n ∧ W x y ≠ 0 ∧ d = matD (n + 1) (prtU n W x y)
theorem sc_parted_tie : FnScope ["web", "tie", "signs", "sign"] ["web", "tie"] (defScope (topS 32)) := ⟨rfl, rfl, rfl, by decide +kernel, rfl, by decide +kernel, by decide +kernel⟩
theorem c_parted_tie (T : Txt K mg) (Er : Errs P K mg SE IW IT NB TM fI fd) : Cal P w K mg base CX0 6 "parted_tie" ["web", "tie"] (spD K R_parted_tie) := by
  have c_check_web := (c_check_web (P := P) (w := w) (base := base) T Er).noX
  have c_check_tie := (c_check_tie (P := P) (w := w) (base := base) T Er).noX
  have c_check_room := c_check_room (P := P) (w := w) (base := base) T
  have c_signs_of := c_signs_of (P := P) (w := w) (base := base) T
  have c_web_by := c_web_by (P := P) (w := w) (base := base) T
  refine T.d_parted_tie.calD sc_parted_tie (fun ds d ⟨n, W, x, y, e, _⟩ => by rw [e]; rfl) (fun f cdv A outer s F H vs ds d Q E hr z ha r q => ?_)
  have nd := sc_parted_tie.nd
  obtain ⟨n, W, x, y, rfl, ww, hn9, hxy, hyn, hw0, rfl⟩ := r
  obtain ⟨v1, v2, rfl, h1, h2⟩ := DpAll.two_inv ha
  refine ⟨_, (pss_cons (ps_expr (pe_cal c_check_web hr (by decide) pass0 (pa_cons (pv 0) pa_nil)))
      (pss_cons (ps_expr (pe_cal c_check_tie hr (by decide) pass0 (pa_cons (pv 0) (pa_cons (pv 1) pa_nil))))
      (pss_cons (ps_expr (pe_cal c_check_room hr (by decide) pass0 (pa_cons (pe_op op_add (q_len K T.len_n (pv 0)) pe_int) pa_nil)))
      (pss_cons (ps_set (i := 2) nd rfl (Or.inl rfl) (pe_cal c_signs_of hr (by decide) pass0 (pa_cons (pv 0) pa_nil)))
      (pss_cons (ps_set (i := 3) nd rfl (Or.inl rfl) (Ex2.pe_popK (hu1 hr) (pv 2) (pv 1) ⟨rfl, rfl, rfl, rfl⟩))
      (pss_cons (ps_dput (hu1 hr) (pv 2) (pe_tup (pa_cons (pe_ix (kIxT K) (pv 1) pe_int (fun _ _ => rfl)) (pa_cons (q_len K T.len_n (pv 0)) pa_nil))) pe_int rfl)
      (pss_cons (ps_dput (hu1 hr) (pv 2) (pe_tup (pa_cons (pe_ix (kIxT K) (pv 1) pe_int (fun _ _ => rfl)) (pa_cons (q_len K T.len_n (pv 0)) pa_nil))) (pv 3) rfl)
      (pss_one (ps_ret (pe_cal c_web_by hr (by decide) pass0 (pa_cons (pe_op op_add (q_len K T.len_n (pv 0)) pe_int) (pa_cons (pv 2) pa_nil)))))))))))), ?_⟩
  have hweb : IsWeb (matD n W) := isWeb_mat.mpr ww
  have htie : IsTie n W (tieD (x, y)) := ⟨x, y, rfl, hxy, hyn, hw0⟩
  refine st_seq (st_drop z (evp_callE0 (K := K) (eva_one (evd_var rfl h1)) ⟨_, rfl⟩ (fun cls d F' H' h => by obtain ⟨a, e, nw, _⟩ := h; injection e with e _; exact nw (by rw [← e]; exact hweb))) fun _ F1 H1 g1 _ => ?_)
  refine st_seq (st_drop g1.fh (evp_callE0 (K := K) (eva_cons (evd_var rfl (h1.up g1.f)) (eva_one (evd_var rfl (h2.up g1.f)))) ⟨n, W, _, rfl, by omega⟩ (fun cls d F' H' h => ?_)) fun _ F2 H2 g2 _ => ?_)
  · obtain ⟨n', W', a, e, _, nt, _⟩ := h
    injection e with e e'
    injection e' with e' _
    obtain ⟨rfl, hWW⟩ := mat_inj e
    subst e'
    exact nt ⟨x, y, rfl, hxy, hyn, by rw [← hWW x y (by omega) hyn]; exact hw0⟩
  have gA := g1.trans g2
  refine st_seq (st_drop g2.fh (evd_call (K := K) (eva_one (evd_opI (g := fun a b => a + b) (evd_lenR (evd_var rfl (h1.up gA.f))) evd_i)) ⟨n + 1, rfl, by omega, rfl⟩) fun _ F3 H3 g3 _ => ?_)
  have gB := gA.trans g3
  refine st_seq (st_asg g3.fh (evp_callN (eva_one (evd_var rfl (h1.up gB.f))) ⟨n, _, by omega, rfl, rfl, rfl⟩) fun vs4 F4 H4 g4 ⟨p, e4, hp4⟩ => ?_)
  subst e4
  have gC := gB.trans g4
  have hsg : sgnM n W (kII (x : Nat) (y : Nat)) = some (.int (W x y)) := by
    show (if 0 ≤ (x : Int) ∧ (x : Int) < (y : Int) ∧ (y : Int) < n ∧ W (x : Int).toNat (y : Int).toNat ≠ 0 then some (V.int (W (x : Int).toNat (y : Int).toNat)) else none) = _
    rw [if_pos ⟨by omega, by omega, by omega, by simpa using hw0⟩]
    simp
  have hH : H p = none := gB.h.free hp4.nw
  refine st_seq (st_dpop (K := K) (k := []) (ks := []) (i := (x : Nat)) (j := (y : Nat)) hp4 g4.fh rfl (evd_var rfl (h2.up gC.f)) hsg fun o5 F5 H5 g5 hp5 => ?_)
  have gD := (gC.trans g5).mut (o := o5) hH hp5.out
  have zD := gD.fh
  dsimp only
  refine st_seq (st_dput (k := kII (x : Nat) (n : Nat)) (v := .int 1) hp5 zD evv_c rfl (evp_key2 (K := K) (evd_ixT (n := 0) (evd_var rfl (h2.up gD.f)) evd_i rfl) (evd_lenR (evd_var rfl (h1.up gD.f)))) (by decide) fun o6 F6 H6 g6 hp6 => ?_)
  have gE := (gD.trans g6).mut (o := o6) hH hp6.out
  dsimp only
  refine st_seq (st_dput (k := kII (y : Nat) (n : Nat)) (v := .int (W x y)) hp6 gE.fh (evv_var rfl) rfl (evp_key2 (K := K) (evd_ixT (n := 1) (evd_var rfl (h2.up gE.f)) evd_i rfl) (evd_lenR (evd_var rfl (h1.up gE.f)))) (by decide) fun o7 F7 H7 g7 hp7 => ?_)
  have gF := (gE.trans g7).mut (o := o7) hH hp7.out
  dsimp only
  refine st_ret gF.fh (evd_web_by (K := K) (n := n + 1) (U := prtU n W x y) (by omega) (evd_eq (evd_opI (g := fun a b => a + b) (evd_lenR (evd_var rfl (h1.up gF.f))) evd_i) rfl) (evv_var rfl) hp7 fun a b ha hb => prt_at ww hxy hyn) fun v8 F8 H8 g8 p8 => ?_
  exact q v8 F8 H8 (gF.trans g8) p8
/-! ### what drawn makes of a parted web: the web again -/
theorem drawn_prt {n : Nat} {W : Nat → Nat → Int} {x y t : Nat} (w : Web n W) (hn : n ≤ 9) (hxy : x < y) (hyn : y < n) (hw0 : W x y ≠ 0) (ht : t = x ∨ t = y) :
    matD n W = matD (n + 1 - 1) (drawnU (n + 1) (prtU n W x y) t n) ∧ prtU n W x y t n ≠ 0 ∧ ∀ z, z < n + 1 → ¬ BadZ (prtU n W x y) t n z := by
  have pw := prt_web w hn hxy hyn
  have e1 : prtU n W x y x n = 1 := by unfold prtU; rw [if_neg (by omega), if_pos (by omega)]
  have e2 : prtU n W x y y n = W x y := by unfold prtU; rw [if_neg (by omega), if_neg (by omega), if_pos (by omega)]
  have e3 : prtU n W x y x y = 0 := by unfold prtU; rw [if_pos (by omega)]
  have e4 : prtU n W x y y x = 0 := by unfold prtU; rw [if_pos (by omega)]
  have e5 : ∀ z, z < n → z ≠ x → z ≠ y → prtU n W x y z n = 0 := fun z hz h1 h2 => by unfold prtU; rw [if_neg (by omega), if_neg (by omega), if_neg (by omega), if_neg (by omega)]
  have e6 : ∀ a b, a < n → b < n → ¬ ((a = x ∧ b = y) ∨ (a = y ∧ b = x)) → prtU n W x y a b = W a b := fun a b ha hb h => by unfold prtU; rw [if_neg h, if_neg (by omega), if_neg (by omega), if_pos ⟨ha, hb⟩]
  have et : prtU n W x y t n ≠ 0 := by rcases ht with rfl | rfl; (rw [e1]; decide); (rw [e2]; exact hw0)
  have htn : t < n := by omega
  have bad : ∀ z, z < n + 1 → ¬ BadZ (prtU n W x y) t n z := fun z hz hb => by
    unfold BadZ at hb
    have z0 : prtU n W x y t z = 0 ∨ prtU n W x y z n = 0 := by
      by_cases hzn : z = n
      · subst hzn; exact .inr (pw.dia z (by omega))
      · by_cases h1 : z = x
        · subst h1
          rcases ht with rfl | rfl
          · exact .inl (pw.dia _ (by omega))
          · exact .inl e4
        · by_cases h2 : z = y
          · subst h2
            rcases ht with rfl | rfl
            · exact .inl e3
            · exact .inl (pw.dia _ (by omega))
          · exact .inr (e5 z (by omega) h1 h2)
    rcases z0 with z0 | z0 <;> rw [z0] at hb <;> simp at hb
  refine ⟨?_, et, bad⟩
  have hk : keptL (n + 1) n = List.range n := by
    unfold keptL
    rw [List.range_succ, List.filter_append, List.filter_eq_self.mpr fun z hz => by have := List.mem_range.mp hz; simp; omega]
    simp
  rw [Nat.add_sub_cancel]
  refine mat_congr fun a b ha hb => ?_
  unfold drawnU subW
  rw [hk]
  have ga : (List.range n).getD a 0 = a := by rw [List.getD_eq_getElem?_getD, List.getElem?_range ha]; rfl
  have gb : (List.range n).getD b 0 = b := by rw [List.getD_eq_getElem?_getD, List.getElem?_range hb]; rfl
  rw [ga, gb]
  -- the signs ahead
  have hab : hereW (prtU n W x y) t n a b = prtU n W x y a b := by
    unfold hereW
    have i1 : sdI [(n : Int)] a = 1 := by rw [sdI_y, if_neg (by omega)]
    have i2 : sdI [(n : Int)] b = 1 := by rw [sdI_y, if_neg (by omega)]
    rw [i1, i2]
    split <;> simp
  have hnz : ∀ z, z < n → hereW (prtU n W x y) t n n z = if prtU n W x y t n = -1 then - prtU n W x y n z else prtU n W x y n z := fun z hz => by
    unfold hereW
    have i1 : sdI [(n : Int)] n = -1 := by rw [sdI_y, if_pos rfl]
    have i2 : sdI [(n : Int)] z = 1 := by rw [sdI_y, if_neg (by omega)]
    rw [i1, i2]
    split <;> omega
  have hzn : ∀ z, z < n → hereW (prtU n W x y) t n z n = hereW (prtU n W x y) t n n z := fun z hz => (here_web pw).sym z n (by omega) (by omega)
  have key : ∀ c, c < n → c ≠ t → prtU n W x y t c = 0 → hereW (prtU n W x y) t n n c = W t c := fun c hc hct h0 => by
    rw [hnz c hc, pw.sym n c (by omega) (by omega)]
    rcases ht with rfl | rfl
    · rw [e1, if_neg (by decide)]
      by_cases hcy : c = y
      · subst hcy; exact e2
      · rw [e5 c hc hct hcy, ← e6 t c (by omega) hc (by omega), h0]
    · rw [e2]
      by_cases hcx : c = x
      · subst hcx
        rw [e1, w.sym t c hyn hc]
        have := w.sgn c t (by omega) hyn
        split <;> omega
      · rw [e5 c hc hcx hct, ← e6 t c (by omega) hc (by omega), h0]
        split <;> rfl
  unfold mrgU
  rw [hab]
  by_cases h1 : a = t ∧ b ≠ t ∧ prtU n W x y a b = 0
  · rw [if_pos h1]
    obtain ⟨rfl, hbt, h0⟩ := h1
    exact (key b hb hbt h0).symm
  · rw [if_neg h1]
    by_cases h2 : b = t ∧ a ≠ t ∧ prtU n W x y a b = 0
    · rw [if_pos h2]
      obtain ⟨rfl, hat, h0⟩ := h2
      rw [hzn a ha, key a ha hat (by rw [pw.sym b a (by omega) (by omega)]; exact h0), w.sym a b ha hb]
    · rw [if_neg h2]
      by_cases h3 : (a = x ∧ b = y) ∨ (a = y ∧ b = x)
      · exfalso
        have z0 : prtU n W x y a b = 0 := by unfold prtU; rw [if_pos h3]
        rcases ht with rfl | rfl <;> omega
      · exact (e6 a b ha hb h3).symm
end
end Sg
set_option maxRecDepth 100000
set_option maxHeartbeats 1000000
/-! Mth3: the walk over a web that lays the sides. -/
namespace Sg
def put {α : Type} (f : Nat → α) (k : Nat) (a : α) : Nat → α := fun v => if v = k then a else f v
theorem put_same {α : Type} {f : Nat → α} {k : Nat} {a : α} : put f k a k = a := if_pos rfl
theorem put_ne {α : Type} {f : Nat → α} {k v : Nat} {a : α} (h : v ≠ k) : put f k a v = f v := if_neg h
/-- s lays sides that agree with W -/
def Wit (n : Nat) (W : Nat → Nat → Int) (s : Nat → Int) : Prop := (∀ v, v < n → s v = 1 ∨ s v = -1) ∧ ∀ x y, x < n → y < n → W x y ≠ 0 → s x * s y = W x y
def Bal (n : Nat) (W : Nat → Nat → Int) : Prop := ∃ s, Wit n W s
structure WI (n : Nat) (W : Nat → Nat → Int) (r : Nat) (sd : Nat → Int) (pr : Nat → Option Nat) (cmp dep : Nat → Nat) (op : Nat → Prop) : Prop where
  sg : ∀ v, v < n → sd v = 0 ∨ sd v = 1 ∨ sd v = -1
  cl : ∀ v u, v < n → u < n → sd v ≠ 0 → ¬ op v → W v u ≠ 0 → sd u ≠ 0 ∧ cmp u = cmp v
  rt : ∀ v, v < n → sd v ≠ 0 → cmp v < n ∧ sd (cmp v) = 1 ∧ cmp (cmp v) = cmp v
  wt : ∀ s, Wit n W s → ∀ v, v < n → sd v ≠ 0 → sd v * s v = s (cmp v)
  pa : ∀ v, v < n → sd v ≠ 0 → (pr v = none ∧ v = cmp v) ∨ ∃ p, pr v = some p ∧ p < n ∧ sd p ≠ 0 ∧ cmp p = cmp v ∧ dep p < dep v
  un : ∀ v, v < n → sd v = 0 → pr v = none
  ops : ∀ v, op v → v < n ∧ sd v ≠ 0 ∧ cmp v = r
section
variable {n r : Nat} {W : Nat → Nat → Int} {sd : Nat → Int} {pr : Nat → Option Nat} {cmp dep : Nat → Nat} {op : Nat → Prop}
theorem WI.init : WI n W r (fun _ => 0) (fun _ => none) (fun v => v) (fun _ => 0) (fun _ => False) :=
  ⟨fun _ _ => .inl rfl, fun _ _ _ _ h => (h rfl).elim, fun _ _ h => (h rfl).elim, fun _ _ _ _ h => (h rfl).elim, fun _ _ h => (h rfl).elim, fun _ _ _ => rfl, fun _ h => h.elim⟩
theorem WI.root (i : WI n W r sd pr cmp dep fun _ => False) (q : Nat) : WI n W q sd pr cmp dep fun _ => False := ⟨i.sg, i.cl, i.rt, i.wt, i.pa, i.un, fun _ h => h.elim⟩
theorem WI.iff {op' : Nat → Prop} (i : WI n W r sd pr cmp dep op) (h : ∀ v, op v ↔ op' v) : WI n W r sd pr cmp dep op' :=
  ⟨i.sg, fun v u a b c d => i.cl v u a b c fun z => d ((h v).mp z), i.rt, i.wt, i.pa, i.un, fun v z => i.ops v ((h v).mpr z)⟩
theorem WI.start {k : Nat} (i : WI n W r sd pr cmp dep fun _ => False) (hk : k < n) (h0 : sd k = 0) : WI n W k (put sd k 1) pr (put cmp k k) dep fun v => v = k := by
  have nk : ∀ v, sd v ≠ 0 → v ≠ k := fun v h e => h (by rw [e]; exact h0)
  refine ⟨fun v hv => ?_, fun v u hv hu hs ho hw => ?_, fun v hv hs => ?_, fun s hs v hv hsd => ?_, fun v hv hs => ?_, fun v hv hs => ?_, fun v h => ?_⟩
  · by_cases e : v = k
    · subst e; rw [put_same]; exact .inr (.inl rfl)
    · rw [put_ne e]; exact i.sg v hv
  · rw [put_ne ho] at hs
    obtain ⟨a, b⟩ := i.cl v u hv hu hs (fun z => z) hw
    rw [put_ne (nk u a), put_ne (nk u a), put_ne ho]
    exact ⟨a, b⟩
  · by_cases e : v = k
    · subst e; rw [put_same, put_same, put_same]; exact ⟨hv, rfl, rfl⟩
    · rw [put_ne e] at hs ⊢
      obtain ⟨a, b, c⟩ := i.rt v hv hs
      have nc : cmp v ≠ k := nk _ (by rw [b]; decide)
      rw [put_ne nc, put_ne nc]
      exact ⟨a, b, c⟩
  · by_cases e : v = k
    · subst e; rw [put_same, put_same, Int.one_mul]
    · rw [put_ne e] at hsd
      rw [put_ne e, put_ne e]
      exact i.wt s hs v hv hsd
  · by_cases e : v = k
    · subst e; rw [put_same]; exact .inl ⟨i.un v hv h0, rfl⟩
    · rw [put_ne e] at hs
      rcases i.pa v hv hs with ⟨a, b⟩ | ⟨p, a, b, c, d, f⟩
      · exact .inl ⟨a, by rw [put_ne e]; exact b⟩
      · exact .inr ⟨p, a, b, by rw [put_ne (nk p c)]; exact c, by rw [put_ne (nk p c), put_ne e]; exact d, f⟩
  · by_cases e : v = k
    · subst e; rw [put_same] at hs; cases hs
    · rw [put_ne e] at hs; exact i.un v hv hs
  · subst h
    exact ⟨hk, by rw [put_same]; decide, put_same⟩
theorem sq_one {a : Int} (h : a = 1 ∨ a = -1) : a * a = 1 := by rcases h with rfl | rfl <;> rfl
theorem WI.visit {x y : Nat} (i : WI n W r sd pr cmp dep op) (hx : op x) (hy : y < n) (h0 : sd y = 0) (hw : W x y = 1 ∨ W x y = -1) : WI n W r (put sd y (sd x * W x y)) (put pr y (some x)) (put cmp y (cmp x)) (put dep y (dep x + 1)) fun v => op v ∨ v = y := by
  have ny : ∀ v, sd v ≠ 0 → v ≠ y := fun v h e => h (by rw [e]; exact h0)
  obtain ⟨hxn, hxs, hxr⟩ := i.ops x hx
  have sx : sd x = 1 ∨ sd x = -1 := (i.sg x hxn).resolve_left hxs
  have snz : sd x * W x y = 1 ∨ sd x * W x y = -1 := by rcases sx with e | e <;> rcases hw with e2 | e2 <;> rw [e, e2] <;> decide
  have snz' : sd x * W x y ≠ 0 := by omega
  refine ⟨fun v hv => ?_, fun v u hv hu hs ho hwu => ?_, fun v hv hs => ?_, fun s hs v hv hsd => ?_, fun v hv hs => ?_, fun v hv hs => ?_, fun v h => ?_⟩
  · by_cases e : v = y
    · subst e; rw [put_same]; exact .inr snz
    · rw [put_ne e]; exact i.sg v hv
  · have e : v ≠ y := fun e => ho (.inr e)
    rw [put_ne e] at hs
    obtain ⟨a, b⟩ := i.cl v u hv hu hs (fun z => ho (.inl z)) hwu
    rw [put_ne (ny u a), put_ne (ny u a), put_ne e]
    exact ⟨a, b⟩
  · by_cases e : v = y
    · subst e
      obtain ⟨a, b, c⟩ := i.rt x hxn hxs
      have nc : cmp x ≠ v := ny _ (by rw [b]; decide)
      rw [put_same, put_ne nc, put_ne nc]
      exact ⟨a, b, c⟩
    · rw [put_ne e] at hs ⊢
      obtain ⟨a, b, c⟩ := i.rt v hv hs
      have nc : cmp v ≠ y := ny _ (by rw [b]; decide)
      rw [put_ne nc, put_ne nc]
      exact ⟨a, b, c⟩
  · by_cases e : v = y
    · subst e
      have q := i.wt s hs x hxn hxs
      have z := hs.2 x v hxn hy (by omega)
      have sv := sq_one (hs.1 v hy)
      rw [put_same, put_same, ← q, ← z]
      rw [Int.mul_assoc, Int.mul_assoc (s x), sv, Int.mul_one]
    · rw [put_ne e] at hsd
      rw [put_ne e, put_ne e]
      exact i.wt s hs v hv hsd
  · by_cases e : v = y
    · subst e
      have nx : x ≠ v := ny x hxs
      exact .inr ⟨x, put_same, hxn, by rw [put_ne nx]; exact hxs, by rw [put_ne nx, put_same], by rw [put_ne nx, put_same]; exact Nat.lt_succ_self _⟩
    · rw [put_ne e] at hs
      rcases i.pa v hv hs with ⟨a, b⟩ | ⟨p, a, b, c, d, f⟩
      · exact .inl ⟨by rw [put_ne e]; exact a, by rw [put_ne e]; exact b⟩
      · exact .inr ⟨p, by rw [put_ne e]; exact a, b, by rw [put_ne (ny p c)]; exact c, by rw [put_ne (ny p c), put_ne e]; exact d, by rw [put_ne (ny p c), put_ne e]; exact f⟩
  · by_cases e : v = y
    · subst e; rw [put_same] at hs; exact (snz' hs).elim
    · rw [put_ne e] at hs ⊢; exact i.un v hv hs
  · rcases h with h | rfl
    · obtain ⟨a, b, c⟩ := i.ops v h
      rw [put_ne (ny v b), put_ne (ny v b)]
      exact ⟨a, b, c⟩
    · rw [put_same, put_same]
      exact ⟨hy, snz', hxr⟩
/-- a neighbour of an open place that was met has its root -/
theorem WI.met {x y : Nat} (i : WI n W r sd pr cmp dep op) (hx : op x) (hy : y < n) (hs : sd y ≠ 0) (hw : W x y ≠ 0) (sym : W x y = W y x) : cmp y = cmp x := by
  obtain ⟨a, b, c⟩ := i.ops x hx
  by_cases ho : op y
  · rw [c, (i.ops y ho).2.2]
  · exact ((i.cl y x hy a hs ho (by rw [← sym]; exact hw)).2).symm
theorem WI.close {x : Nat} {op' : Nat → Prop} (i : WI n W r sd pr cmp dep op) (hx : op x) (hop : ∀ v, op' v → op v) (hop2 : ∀ v, op v → v = x ∨ op' v) (hall : ∀ u, u < n → W x u ≠ 0 → sd u ≠ 0 ∧ cmp u = cmp x) : WI n W r sd pr cmp dep op' :=
  ⟨i.sg, fun v u hv hu hs ho hw => by
    by_cases h : op v
    · rcases hop2 v h with e | e
      · subst e; exact hall u hu hw
      · exact (ho e).elim
    · exact i.cl v u hv hu hs h hw, i.rt, i.wt, i.pa, i.un, fun v h => i.ops v (hop v h)⟩
/-- the end: every tie lies in one tree, a witness agrees with the sides -/
theorem WI.agree (i : WI n W r sd pr cmp dep fun _ => False) (hall : ∀ v, v < n → sd v ≠ 0) (hb : Bal n W) {x y : Nat} (hx : x < n) (hy : y < n) (hw : W x y ≠ 0) : sd x * sd y = W x y := by
  obtain ⟨s, hs⟩ := hb
  have c := (i.cl x y hx hy (hall x hx) (fun z => z) hw).2
  have a := i.wt s hs x hx (hall x hx)
  have b := i.wt s hs y hy (hall y hy)
  have e := hs.2 x y hx hy hw
  rw [c, ← a] at b
  have sx := hs.1 x hx
  have sy := hs.1 y hy
  have dx := (i.sg x hx).resolve_left (hall x hx)
  have dy := (i.sg y hy).resolve_left (hall y hy)
  rw [← e]
  rcases sx with sx | sx <;> rcases sy with sy | sy <;> rcases dx with dx | dx <;> rcases dy with dy | dy <;> rw [sx, sy, dx, dy] at b <;> rw [sx, sy, dx, dy] <;> revert b <;> decide
end
/-- how many are not met -/
def cnt0 (n : Nat) (sd : Nat → Int) : Nat := ((List.range n).filter fun v => decide (sd v = 0)).length
theorem cnt_put {sd : Nat → Int} {y : Nat} {a : Int} (h0 : sd y = 0) (ha : a ≠ 0) : ∀ {n : Nat}, y < n → cnt0 n (put sd y a) + 1 = cnt0 n sd := by
  have low : ∀ m, m ≤ y → cnt0 m (put sd y a) = cnt0 m sd := by
    intro m hm
    unfold cnt0
    congr 1
    refine List.filter_congr fun v hv => ?_
    have := List.mem_range.mp hv
    rw [put_ne (by omega)]
  intro n
  induction n with
  | zero => intro h; omega
  | succ n ih =>
    intro h
    have sp : ∀ g : Nat → Int, cnt0 (n + 1) g = cnt0 n g + if g n = 0 then 1 else 0 := by
      intro g
      unfold cnt0
      rw [List.range_succ, List.filter_append, List.length_append]
      congr 1
      by_cases e : g n = 0 <;> simp [e]
    rw [sp, sp]
    by_cases e : n = y
    · subst e
      rw [low n (Nat.le_refl _), put_same, if_neg ha, if_pos h0]
    · rw [put_ne e]
      have := ih (by omega)
      omega
theorem cnt_le (n : Nat) (sd : Nat → Int) : cnt0 n sd ≤ n := by
  unfold cnt0
  have h := List.length_filter_le (fun v => decide (sd v = 0)) (List.range n)
  rw [List.length_range] at h
  exact h
end Sg
set_option maxRecDepth 100000
set_option maxHeartbeats 4000000
/-! G9: way_up, ring_by of a list, ring_through. -/
namespace Dv
open PySem PySem.Spec L2
theorem st_whileE {σ : St} {F H : Hp} {D : Ends} {tt : TT} {ts : TS} (M : Nat → St → Hp → Hp → Prop) (m0 : Nat) (F0 : Hp) (f0 : Same F0 F) (z : Same F H) (h0 : M m0 σ F H)
    (turn : ∀ m σ' F' H', Same F0 F' → Same F' H' → M m σ' F' H' → ∃ b : Bool, EvT tt σ' F' H' b ∧
      (b = true → ∀ F'' H'' (N : St → Hp → Prop), Gr F' H' F'' H'' → (∀ m2 σ3 F3 H3, m2 < m → Same F0 F3 → Same F3 H3 → M m2 σ3 F3 H3 → N σ3 H3) → ts { D with nx := N, ct := N, bk := D.nx } σ' H'') ∧
      (b = false → ∀ F'' H'', Gr F' H' F'' H'' → D.nx σ' H'')) : tWhile tt ts D σ H := by
  refine ⟨fun m σ' H' => ∃ F', Same F0 F' ∧ Same F' H' ∧ M m σ' F' H', ⟨m0, F, f0, z, h0⟩, ?_⟩
  rintro m σ' H' ⟨F', f, z', hm⟩
  obtain ⟨b, ht, h1, h2⟩ := turn m σ' F' H' f z' hm
  refine ht F' H' (Same.refl _) (Same.refl _) z' _ fun F'' H'' g => ?_
  cases b with
  | false => exact h2 rfl F'' H'' g
  | true =>
    refine ⟨fun σ3 H3 => ∃ m2 F3, m2 < m ∧ Same F0 F3 ∧ Same F3 H3 ∧ M m2 σ3 F3 H3, fun σ3 H3 ⟨m2, F3, a, b, c, e⟩ => ⟨m2, a, F3, b, c, e⟩, ?_⟩
    exact h1 rfl F'' H'' _ g fun m2 σ3 F3 H3 a b c e => ⟨m2, F3, a, b, c, e⟩
end Dv
namespace Sg
open PySem PySem.Spec L2 Dv
section
variable {P : Program} {w : World} {K : PySem.W.Frag} {mg : Str → Option Value} {base : Heap} {SE IW IT NB TM fI : Addr} {fd : FuncData}
def prD : Option Nat → PyData
  | none => .none
  | some p => .int (p : Nat)
abbrev sidesD (n : Nat) (sd : Nat → Int) : List PyData := (List.range n).map fun v => .int (sd v)
abbrev parsD (n : Nat) (pr : Nat → Option Nat) : List PyData := (List.range n).map fun v => prD (pr v)
abbrev natsD (L : List Nat) : List PyData := L.map fun x : Nat => .int (x : Nat)
/-- every place was met; the parents lead up to the root -/
structure Up (n : Nat) (pr : Nat → Option Nat) (cmp dep : Nat → Nat) : Prop where
  hi : n ≤ 100
  pa : ∀ v, v < n → (pr v = none ∧ v = cmp v) ∨ ∃ p, pr v = some p ∧ p < n ∧ cmp p = cmp v ∧ dep p < dep v
  db : ∀ v, v < n → dep v ≤ 100
/-- a way from x up to its root -/
def WayR (n : Nat) (cmp : Nat → Nat) (x : Nat) (L : List Nat) : Prop := (∃ M, L = x :: M) ∧ (∃ A, L = A ++ [cmp x]) ∧ (∀ v ∈ L, v < n) ∧ L.length ≤ 101
def sp_way_up (K : PySem.W.Frag) : Sp := fun vs H Q _ => ∃ (F : Hp) (n : Nat) (pr : Nat → Option Nat) (cmp dep : Nat → Nat) (x : Nat) (v1 : V), Same F H ∧ vs = [v1, .int (x : Nat)] ∧ Dp K F v1 (.list (parsD n pr)) ∧ Up n pr cmp dep ∧ x < n ∧
  ∀ v F' H' L, WayR n cmp x L → Gr F H F' H' → NewL K H (natsD L) v F' H' → Q v H'
theorem evp_way_up {σ : L2.St} {F H : Hp} {tp tx : TE} {E0 : XK} {n : Nat} {pr : Nat → Option Nat} {cmp dep : Nat → Nat} {x : Nat} (up : Up n pr cmp dep) (hx : x < n) (h1 : EvD K tp σ F H (.list (parsD n pr))) (h2 : EvD K tx σ F H (.int (x : Nat))) :
    EvP (tCall (sp_way_up K) [] E0 (tCons tp (tCons tx tNil))) σ F H (fun v F2 H2 => ∃ L, WayR n cmp x L ∧ NewL K H (natsD L) v F2 H2) :=
  fun F1 H1 a y z Q q => by
    refine eva_cons h1 (eva_one h2) F1 H1 a y z (fun vs H3 => sp_way_up K (vs ++ []) H3 Q E0) fun vs F2 H2 g2 p2 => ?_
    obtain ⟨v1, v2, rfl, k1, k2⟩ := DpAll.two_inv p2
    obtain rfl := k2.int_inv
    exact ⟨F2, n, pr, cmp, dep, x, v1, g2.fh, rfl, k1, up, hx, fun v F3 H3 L hL g3 ⟨p, e, hp⟩ => q v F3 H3 (g2.trans g3) ⟨L, hL, p, e, hp.base (y.trans g2.h)⟩⟩
theorem atI_last {α : Type} (A : List α) (c : α) : L2.atI (A ++ [c]) (-1) = some c := by
  unfold L2.atI ixN
  rw [if_neg (by decide), if_pos (by simp; omega), List.length_append, List.length_singleton]
  have e : ((-1 : Int) + ((A.length + 1 : Nat) : Int)).toNat = A.length := by omega
  rw [Option.bind_some, e]
  simp
theorem atI_last2 {α : Type} (A : List α) (b c : α) : L2.atI (A ++ [b] ++ [c]) (-2) = some b := by
  unfold L2.atI ixN
  rw [if_neg (by decide), if_pos (by simp; omega)]
  have e : ((-2 : Int) + ((A ++ [b] ++ [c]).length : Int)).toNat = A.length := by simp; omega
  rw [Option.bind_some, e]
  simp
theorem sc_way_up : FnScope ["parents", "place", "way"] ["parents", "place"] (defScope (topS 35)) := ⟨rfl, rfl, rfl, by decide +kernel, rfl, by decide +kernel, by decide +kernel⟩
theorem c_way_up (T : Txt K mg) : Cal P w K mg base CX0 1 "way_up" ["parents", "place"] (sp_way_up K) := by
  refine T.d_way_up.cal sc_way_up (fun vs H Q E ⟨F, n, pr, cmp, dep, x, v1, _, e, _⟩ => by rw [e]; rfl) (fun f cdv A outer s H vs Q E hr ⟨F, n, pr, cmp, dep, x, v1, z, e, h1, up, hx, q⟩ => ?_)
  have nd := sc_way_up.nd
  subst e
  refine ⟨_, (pss_cons (ps_set (i := 2) nd rfl (Or.inl rfl) (pe_lst (pa_cons (pv 1) pa_nil)))
      (pss_cons (ps_while PassesOwn.never (pt_cmpR op_notN (pe_ix (kIxL K) (pv 0) (pe_ix (kIxL K) (pv 2) (pe_un un_neg pe_int) (fun _ _ => rfl)) (fun _ _ => rfl)) pe_non (nomark _)) (pss_one (ps_expr (kApp K (pv 2) (pe_ix (kIxL K) (pv 0) (pe_ix (kIxL K) (pv 2) (pe_un un_neg pe_int) (fun _ _ => rfl)) (fun _ _ => rfl))))))
      (pss_one (ps_ret (pv 2))))), ?_⟩
  refine st_seq (st_asg z (evp_new (K := K) (eva_one (evd_vari (i := (x : Nat)) rfl)) (by simp)) fun v3 F3 H3 g3 ⟨p, e3, hp⟩ => ?_)
  subst e3
  have pat : ∀ {F4 H4 : Hp} {c : Nat} {tc : TE} {σ : L2.St}, Same F F4 → c < n → σ[0]? = some (some v1) → EvD K tc σ F4 H4 (.int (c : Nat)) → EvD K (tOp (rIxL K) (tVar 0) tc) σ F4 H4 (prD (pr c)) := fun f hc hσ h => evd_ixL (evd_var hσ (h1.up f)) h (at_rng hc)
  dsimp only
  refine st_seq (st_whileE (fun m σ' F' H' => σ' = [some v1, some (.int (x : Nat)), some (.ref p)] ∧ Gr F H F' H' ∧ ∃ A c, Own K H F' H' p (natsD (A ++ [c])) ∧ (∃ M, A ++ [c] = x :: M) ∧ (∀ v ∈ A ++ [c], v < n) ∧ cmp c = cmp x ∧ dep c ≤ m ∧ (A ++ [c]).length + dep c ≤ 101) 100 F3 (Same.refl _) g3.fh
    ⟨rfl, g3, [], x, hp, ⟨[], rfl⟩, by simpa using hx, rfl, up.db x hx, by have := up.db x hx; simp; omega⟩ ?_)
  rintro m σ' F' H' f' z' ⟨rfl, gg, A, c, ho, ⟨M, hM⟩, hall, hc, hdm, hlen⟩
  have hcn : c < n := hall c (by simp)
  have last : ∀ {F4 H4 : Hp}, Same F F4 → Own K H F4 H4 p (natsD (A ++ [c])) → EvD K (tOp (rIxL K) (tVar 0) (tOp (rIxL K) (tVar 2) (tUn (rU fun i => .int (-i)) (tC (.int 1))))) [some v1, some (.int (x : Nat)), some (.ref p)] F4 H4 (prD (pr c)) := fun f ho => pat f hcn rfl (evd_ixO ho (evv_var rfl) (evd_unI (g := fun a => -a) evd_i) (by
    rw [natsD, List.map_append]
    exact atI_last _ _))
  have e := up.pa c hcn
  have l0 := last gg.f ho
  rcases e with ⟨epr, er⟩ | ⟨p', hp', hpn, hpc, hpd⟩
  · rw [epr] at l0
    refine ⟨false, evt_test (evd_notN l0 rfl), (fun hb => by cases hb), fun _ F'' H'' g4 => ?_⟩
    refine st_ret (P := fun v F H => v = .ref p) g4.fh (evv_var rfl) fun v F5 H5 g5 ev => ?_
    subst ev
    exact q _ F5 H5 (A ++ [c]) ⟨⟨M, hM⟩, ⟨A, by rw [← hc, ← er]⟩, hall, by omega⟩ ((gg.trans g4).trans g5) ⟨p, rfl, (ho.up g4).up g5⟩
  · rw [hp'] at l0
    refine ⟨true, evt_test (evd_notN l0 rfl), fun _ F'' H'' N g4 hN => ?_, (fun hb => by cases hb)⟩
    refine st_append (d := .int (p' : Nat)) (ho.up g4) g4.fh rfl (by have h := last (gg.trans g4).f (ho.up g4); rw [hp'] at h; exact h) (by rw [List.length_map]; omega) fun xs F5 H5 g5 ho5 => ?_
    refine hN (dep p') _ F5 _ (by omega) (f'.trans (g4.trans g5).f) (same_mut g5.fh ho5.out) ⟨rfl, ((gg.trans g4).trans g5).mut hp.nw ho5.out, A ++ [c], p', ?_, ⟨M ++ [p'], by rw [hM]; rfl⟩, fun v hv => ?_, by rw [hpc, hc], Nat.le_refl _, ?_⟩
    · rw [natsD, List.map_append]
      exact ho5
    · rcases List.mem_append.mp hv with h | h
      · exact hall v h
      · rw [List.mem_singleton.mp h]; exact hpn
    · rw [List.length_append, List.length_singleton]; omega
/-! ### ring_by, of a list -/
def sp_ringL (K : PySem.W.Frag) : Sp := fun vs H Q _ => ∃ (F : Hp) (v : V) (ns : List Int), Same F H ∧ vs = [v] ∧ PlnL K (ns.map PyData.int) v F H ∧ Dp K F v (.list (ns.map PyData.int)) ∧ 2 ≤ ns.length ∧ ns.length ≤ 1000 ∧ ∀ v F' H' ds, Gr F H F' H' → Dp K F' v (.tuple ds) → Q v H'
theorem cut_rot {ns : List Int} {j : Nat} (hj : j < ns.length) : cutD (ns.map PyData.int) (some (j : Int)) none ++ cutD (ns.map PyData.int) none (some (j : Int)) = (ns.drop j ++ ns.take j).map PyData.int := by
  unfold cutD
  rw [HT.sIx_nat, HT.sIx_nat, HT.sIx_none, HT.sIx_none, Nat.min_eq_left (by rw [List.length_map]; omega), List.drop_zero, Nat.sub_zero, List.take_of_length_le (by rw [List.length_drop]; exact Nat.le_refl _), List.map_append, List.map_drop, List.map_take]
theorem idxT_len (n : Nat) : (Ex5.idxT none (some 0) n).length ≤ n := by
  unfold Ex5.idxT
  rw [List.length_map, List.length_range]
  unfold Builtin.Slice.sliceAdjust Builtin.Slice.slicePlaces
  simp only [show ¬ ((-1 : Int) > 0) by decide, show ((-1 : Int) < 0) by decide, show ¬ ((0 : Int) < 0) by decide, if_true, if_false, show (-(-1 : Int)) = 1 by decide, Int.ediv_one]
  split <;> omega
theorem c_ring_byL (T : Txt K mg) : Cal P w K mg base CX0 1 "ring_by" ["row"] (sp_ringL K) := by
  refine T.d_ring_by.cal sc_ring_by (fun vs H Q E ⟨F, v, ns, _, e, _⟩ => by rw [e]; rfl) (fun f cdv A outer s H vs Q E hr ⟨F, v, ns, z, e, hv, hd, h2, h3, q⟩ => ?_)
  have nd := sc_ring_by.nd
  subst e
  refine ⟨_, (pss_cons (ps_set (i := 1) nd rfl (Or.inl rfl) (kIdxL K (pv 0) (q_minL K rfl T.min_n (pv 0))))
      (pss_cons (ps_set (i := 2) nd rfl (Or.inl rfl) (pe_op (kCatA K) (q_tuple K T.tuple_n (pe_slice (kSlL K) (pv 0) (po_some (pv 1)) po_none)) (q_tuple K T.tuple_n (pe_slice (kSlL K) (pv 0) po_none (po_some (pv 1))))))
      (pss_one (ps_ret (pe_ifExp (pt_cmpR op_lt (pe_ix (kIxT K) (pv 2) pe_int (fun _ _ => rfl)) (pe_ix (kIxT K) (pv 2) (pe_un un_neg pe_int) (fun _ _ => rfl)) (nomark _)) (pv 2) (pe_op (kCatA K) (pe_slice (kSlT K) (pv 2) po_none (po_some pe_int)) (Ex5.pe_revS (pv 2) po_none (po_some pe_int)))))))), ?_⟩
  have row : ∀ {F1 H1 : Hp} {a b : Option V}, Gr F H F1 H1 → EvP (tVar 0) [some v, a, b] F1 H1 (PlnL K (ns.map PyData.int)) := fun g => evp_var rfl fun F2 H2 f h z2 => by
    obtain ⟨p, xs, e, hp, hx⟩ := hv
    exact ⟨p, xs, e, h _ _ (g.h _ _ hp), hx.up (g.f.trans f)⟩
  refine st_seq (st_asg z (evp_idxL (row (Gr.refl z)) (evd_minL (row (Gr.refl z)) (by omega))) fun v2 F2 H2 g2 ⟨j, e, hj⟩ => ?_)
  subst e
  have hrot := cut_rot hj
  have hrl : (ns.drop j ++ ns.take j).length = ns.length := by rw [List.length_append, List.length_drop, List.length_take]; omega
  generalize ns.drop j ++ ns.take j = rs at hrot hrl
  dsimp only
  refine st_seq (st_asg g2.fh (evd_eq (evd_catT (evd_tupL (evd_slL (evd_var rfl (hd.up g2.f)) (evo_some (K := K) (evd_vari rfl)) evo_none)) (evd_tupL (evd_slL (evd_var rfl (hd.up g2.f)) evo_none (evo_some (K := K) (evd_vari rfl)))) ?_) (congrArg PyData.tuple hrot)) fun v3 F3 H3 g3 p3 => ?_)
  · have h := congrArg List.length hrot
    rw [List.length_append, List.length_map] at h
    rw [h]; omega
  have l2 : 1 < rs.length := by omega
  obtain ⟨b, hb⟩ : ∃ b, rs[1]? = some b := ⟨rs[1], List.getElem?_eq_getElem l2⟩
  obtain ⟨A, c, hc⟩ : ∃ A c, rs = A ++ [c] := by
    rcases List.eq_nil_or_concat rs with e | ⟨A, c, e⟩
    · rw [e] at l2; simp at l2
    · exact ⟨A, c, by rw [e]; simp⟩
  refine st_ret (P := fun v F' _ => ∃ ds, Dp K F' v (.tuple ds)) g3.fh (evp_if (b := decide (b < c)) (evt_test (evd_cmpI (g := fun a b => decide (a < b)) (evd_ixT (n := 1) (evd_var rfl p3) evd_i (by rw [List.getElem?_map, hb]; rfl)) (evd_ixTI (evd_var rfl p3) (evd_unI (g := fun a => -a) evd_i) (by rw [hc, List.map_append]; exact atI_last _ _)))) (fun _ => EvP.imp (evd_var rfl p3) fun v F4 H4 h4 => ⟨_, h4⟩) fun _ => EvP.imp (evd_catT (evd_slT (evd_var rfl p3) evo_none (evo_some (K := K) evd_i)) (evd_revT (evd_var rfl p3) evo_none (evo_some (K := K) evd_i) ?_) ?_) fun v F4 H4 h4 => ⟨_, h4⟩) fun v F4 H4 g4 ⟨ds, h4⟩ => q v F4 H4 ds ((g2.trans g3).trans g4) h4
  · rw [List.length_map]
    exact Nat.le_trans (idxT_len _) (by omega)
  · have h1 := Ex5.atAll_len (Ex5.idxT none (some 0) (rs.map PyData.int).length) (rs.map PyData.int)
    have h2 := idxT_len (rs.map PyData.int).length
    have h3 : (cutD (rs.map PyData.int) none (some 1)).length ≤ rs.length := by
      unfold cutD
      rw [List.length_take, List.length_drop, List.length_map]
      omega
    rw [List.length_map] at h1 h2
    rw [List.length_map]
    omega
end
end Sg
set_option maxRecDepth 100000
set_option maxHeartbeats 4000000
/-! G10: ring_through. -/
namespace Dv
open PySem PySem.Spec L2
theorem st_par2 {σ : St} {F H : Hp} {D : Ends} {ta tb : TE} {i j : Nat} {P : V → Hp → Hp → Prop} {R : Hp → V → Hp → Hp → Prop} (z : Same F H) (h1 : EvP ta σ F H P) (h2 : ∀ F1 H1, Gr F H F1 H1 → EvP tb σ F1 H1 (R H1))
    (k : ∀ v w F1 H1 F2 H2, Gr F H F1 H1 → P v F1 H1 → Gr F1 H1 F2 H2 → R H1 w F2 H2 → D.nx ((σ.set i (some v)).set j (some w)) H2) : tPar i j (tCons ta (tCons tb tNil)) D σ H := by
  refine h1 F H (Same.refl _) (Same.refl _) z (fun v H1 => tb σ H1 fun w H2 => ∃ v' w', [v, w] = [v', w'] ∧ D.nx ((σ.set i (some v')).set j (some w')) H2) fun v F1 H1 g1 p1 => ?_
  exact h2 F1 H1 g1 F1 H1 (Same.refl _) (Same.refl _) g1.fh _ fun w F2 H2 g2 p2 => ⟨v, w, rfl, k v w F1 H1 F2 H2 g1 p1 g2 p2⟩
end Dv
namespace Sg
open PySem PySem.Spec L2 Dv
section
variable {P : Program} {w : World} {K : PySem.W.Frag} {mg : Str → Option Value} {base : Heap} {SE IW IT NB TM fI : Addr} {fd : FuncData}
def sp_ring_through (K : PySem.W.Frag) : Sp := fun vs H Q _ => ∃ (F : Hp) (n : Nat) (pr : Nat → Option Nat) (cmp dep : Nat → Nat) (x y : Nat) (v1 : V), Same F H ∧ vs = [v1, .int (x : Nat), .int (y : Nat)] ∧ Dp K F v1 (.list (parsD n pr)) ∧ Up n pr cmp dep ∧ x < n ∧ y < n ∧ x ≠ y ∧ cmp x = cmp y ∧
  ∀ v F' H' ds, Gr F H F' H' → Dp K F' v (.tuple ds) → Q v H'
theorem natsD_app (A : List Nat) (c : Nat) : natsD (A ++ [c]) = natsD A ++ [.int (c : Nat)] := by rw [natsD, List.map_append]; rfl
theorem natsD_eq (L : List Nat) : natsD L = (L.map fun x : Nat => (x : Int)).map PyData.int := by rw [List.map_map]; rfl
theorem idxL_m2 {n : Nat} (h : 1 ≤ n) : Ex5.idxL (some (-2)) none n = (List.range (n - 1)).map fun k => n - 1 - 1 - k := by
  have e : sliceBounds (some (-2)) none (some (-1)) n = (((n - 1 : Nat) : Int) - 1, -1, -1) := by
    unfold sliceBounds
    simp only [Option.getD_some, show ¬ ((-1 : Int) > 0) by decide, if_false, show ((-2 : Int) < 0) by decide, if_true]
    congr 1
    omega
  unfold Ex5.idxL
  rw [e]
  exact PySem.W.krv_sliceRange (n - 1)
theorem back_len {α : Type} {xs : List α} (h : 2 ≤ xs.length) : 1 ≤ (Ex5.atAll (Ex5.idxL (some (-2)) none xs.length) xs).length := by
  rw [idxL_m2 (by omega)]
  have hm : ∃ y, y ∈ Ex5.atAll ((List.range (xs.length - 1)).map fun k => xs.length - 1 - 1 - k) xs := by
    unfold Ex5.atAll
    refine ⟨xs[xs.length - 1 - 1], List.mem_filterMap.mpr ⟨xs.length - 1 - 1, List.mem_map.mpr ⟨0, List.mem_range.mpr (by omega), by omega⟩, List.getElem?_eq_getElem (by omega)⟩⟩
  obtain ⟨y, hy⟩ := hm
  exact List.length_pos_of_mem hy
theorem back_le {α : Type} (xs : List α) (h : 1 ≤ xs.length) : (Ex5.atAll (Ex5.idxL (some (-2)) none xs.length) xs).length ≤ xs.length := by
  refine Nat.le_trans (Ex5.atAll_len _ _) ?_
  rw [idxL_m2 h, List.length_map, List.length_range]
  omega
theorem evp_ringL {σ : L2.St} {F H : Hp} {te : TE} {E0 : XK} {ns : List Int} (h : EvP te σ F H (fun v F2 H2 => PlnL K (ns.map PyData.int) v F2 H2 ∧ Dp K F2 v (.list (ns.map PyData.int)))) (h2 : 2 ≤ ns.length) (h3 : ns.length ≤ 1000) :
    EvP (tCall (sp_ringL K) [] E0 (tCons te tNil)) σ F H (fun v F2 _ => ∃ ds, Dp K F2 v (.tuple ds)) := fun F1 H1 a b c Q q => by
  refine h F1 H1 a b c (fun v H2 => sp_ringL K ([v] ++ []) H2 Q E0) fun v F2 H2 g2 ⟨p1, p2⟩ => ?_
  exact ⟨F2, v, ns, g2.fh, rfl, p1, p2, h2, h3, fun v F3 H3 ds g3 p3 => q v F3 H3 (g2.trans g3) ⟨ds, p3⟩⟩
theorem sc_ring_through : FnScope ["parents", "x", "y", "one", "other"] ["parents", "x", "y"] (defScope (topS 36)) := ⟨rfl, rfl, rfl, by decide +kernel, rfl, by decide +kernel, by decide +kernel⟩
theorem c_ring_through (T : Txt K mg) : Cal P w K mg base CX0 2 "ring_through" ["parents", "x", "y"] (sp_ring_through K) := by
  have c_way_up := c_way_up (P := P) (w := w) (base := base) T
  have c_ring_by := c_ring_byL (P := P) (w := w) (base := base) T
  refine T.d_ring_through.cal sc_ring_through (fun vs H Q E ⟨F, n, pr, cmp, dep, x, y, v1, _, e, _⟩ => by rw [e]; rfl) (fun f cdv A outer s H vs Q E hr ⟨F, n, pr, cmp, dep, x, y, v1, z, e, h1, up, hx, hy, hxy, hc, q⟩ => ?_)
  have nd := sc_ring_through.nd
  subst e
  refine ⟨_, (pss_cons (ps_par (i := 3) (j := 4) rfl nd rfl rfl (by decide) rfl rfl (pa_cons (pe_cal c_way_up hr (by decide) pass0 (pa_cons (pv 0) (pa_cons (pv 1) pa_nil))) (pa_cons (pe_cal c_way_up hr (by decide) pass0 (pa_cons (pv 0) (pa_cons (pv 2) pa_nil))) pa_nil)) (by rfl))
      (pss_cons (ps_while PassesOwn.never (PW.pt (pw_and (pt_cmpR op_gt (q_len K T.len_n (pv 3)) pe_int (nomark _)) (pw_and (pt_cmpR op_gt (q_len K T.len_n (pv 4)) pe_int (nomark _)) (pw_and1 (pt_cmpR op_eq (pe_ix (kIxL K) (pv 3) (pe_un un_neg pe_int) (fun _ _ => rfl)) (pe_ix (kIxL K) (pv 4) (pe_un un_neg pe_int) (fun _ _ => rfl)) (nomark _)))))) (pss_cons (ps_expr (kPop K (pv 3)))
        (pss_one (ps_expr (kPop K (pv 4))))))
      (pss_one (ps_ret (pe_cal c_ring_by hr (by decide) pass0 (pa_cons (pe_op op_cat (pv 3) (Ex5.pe_revS (pv 4) (po_some (pe_un un_neg pe_int)) po_none)) pa_nil)))))), ?_⟩
  refine st_seq (st_par2 (R := fun H1 v F2 H2 => ∃ L, WayR n cmp y L ∧ NewL K H1 (natsD L) v F2 H2) z (evp_way_up up hx (evd_var rfl h1) (evd_vari rfl)) (fun F1 H1 g1 => evp_way_up up hy (evd_var rfl (h1.up g1.f)) (evd_vari rfl)) fun v w F1 H1 F2 H2 g1 p1 g2 p2 => ?_)
  obtain ⟨L1, ⟨⟨M1, m1⟩, ⟨A1, a1⟩, _, l1⟩, p, rfl, hp⟩ := p1
  obtain ⟨L2', ⟨⟨M2, m2⟩, ⟨A2, a2⟩, _, l2⟩, p', rfl, hp'⟩ := p2
  have hne : p ≠ p' := fun e => by
    obtain ⟨xs, h, _⟩ := hp.at_
    rw [e, hp'.nw] at h; cases h
  have gA := g1.trans g2
  have hpA := hp.up g2
  have hpB := hp'.base g1.h
  dsimp only
  refine st_seq (st_whileE (fun m σ' F' H' => σ' = [some v1, some (.int (x : Nat)), some (.int (y : Nat)), some (.ref p), some (.ref p')] ∧ Gr F H F' H' ∧ ∃ A B c, Own K H F' H' p (natsD (A ++ [c])) ∧ Own K H F' H' p' (natsD (B ++ [c])) ∧ (∃ M, A ++ [c] = x :: M) ∧ (∃ M, B ++ [c] = y :: M) ∧ A.length ≤ m ∧ A.length ≤ 101 ∧ B.length ≤ 101) 101 F2 (Same.refl _) gA.fh
    ⟨rfl, gA, A1, A2, cmp x, by rw [← a1]; exact hpA, by rw [hc, ← a2]; exact hpB, ⟨M1, by rw [← a1]; exact m1⟩, ⟨M2, by rw [hc, ← a2]; exact m2⟩, ?_, ?_, ?_⟩ ?_)
  · rw [a1, List.length_append, List.length_singleton] at l1; omega
  · rw [a1, List.length_append, List.length_singleton] at l1; omega
  · rw [a2, List.length_append, List.length_singleton] at l2; omega
  rintro m σ' F' H' f' z' ⟨rfl, gg, A, B, c, hoA, hoB, ⟨MA, hMA⟩, ⟨MB, hMB⟩, hm, lA, lB⟩
  -- the end
  have fin : ∀ F'' H'', Gr F' H' F'' H'' → (A ≠ [] ∨ B ≠ []) → tRet (tCall (sp_ringL K) [] E0 (tCons (tOp rCat (tVar 3) (Ex5.tRevS K (tVar 4) (tPart (tUn (rU fun i => .int (-i)) (tC (.int 2)))) tNoPart)) tNil)) { nx := fun x H' => Q V.non H', rt := Q } [some v1, some (.int (x : Nat)), some (.int (y : Nat)), some (.ref p), some (.ref p')] H'' := by
    intro F'' H'' g4 hAB
    have oA := hoA.up g4
    have oB := hoB.up g4
    rw [natsD_eq] at oA oB
    have hl : 2 ≤ (((A ++ [c]).map fun x : Nat => (x : Int)) ++ Ex5.atAll (Ex5.idxL (some (-2)) none ((B ++ [c]).map fun x : Nat => (x : Int)).length) ((B ++ [c]).map fun x : Nat => (x : Int))).length := by
      rw [List.length_append, List.length_map, List.length_append, List.length_singleton]
      rcases hAB with h | h
      · have : 0 < A.length := List.length_pos_iff.mpr h
        omega
      · have : 0 < B.length := List.length_pos_iff.mpr h
        have := back_len (xs := (B ++ [c]).map fun x : Nat => (x : Int)) (by rw [List.length_map, List.length_append, List.length_singleton]; omega)
        omega
    have hb := back_le ((B ++ [c]).map fun x : Nat => (x : Int)) (by simp)
    have hb2 : ((B ++ [c]).map fun x : Nat => (x : Int)).length = B.length + 1 := by simp
    have hl2 : (((A ++ [c]).map fun x : Nat => (x : Int)) ++ Ex5.atAll (Ex5.idxL (some (-2)) none ((B ++ [c]).map fun x : Nat => (x : Int)).length) ((B ++ [c]).map fun x : Nat => (x : Int))).length ≤ 1000 := by
      rw [List.length_append, List.length_map, List.length_append, List.length_singleton]
      omega
    refine st_ret g4.fh (evp_ringL (K := K) ?_ hl hl2) fun v F5 H5 g5 ⟨ds, h5⟩ => q v F5 H5 ds ((gg.trans g4).trans g5) h5
    rw [List.map_append, ← Ex5.atAll_map, ← List.length_map (f := PyData.int) (as := (B ++ [c]).map fun x : Nat => (x : Int))]
    refine evp_cat (evp_own oA rfl) (EvP.imp (evp_revL (evp_own oB rfl) (evo_some (K := K) (evd_unI (g := fun a => -a) evd_i)) evo_none) fun v F5 H5 h5 => h5.1) ?_
    rw [List.length_map, Ex5.atAll_map, List.length_map, List.length_map]
    rw [List.length_append, List.length_map] at hl2
    rw [List.length_map] at hl2 ⊢
    omega
  have hA0 : A = [] → B = [] → False := fun eA eB => by
    subst eA eB
    injection hMA with e1 _
    injection hMB with e2 _
    exact hxy (by omega)
  have len3 : EvD K (tCB (rLenQ K) (tCons (tVar 3) tNil)) [some v1, some (.int (x : Nat)), some (.int (y : Nat)), some (.ref p), some (.ref p')] F' H' (.int ((A.length + 1 : Nat) : Int)) := evd_eq (evd_lenO hoA (evv_var rfl)) (by simp)
  have len4 : EvD K (tCB (rLenQ K) (tCons (tVar 4) tNil)) [some v1, some (.int (x : Nat)), some (.int (y : Nat)), some (.ref p), some (.ref p')] F' H' (.int ((B.length + 1 : Nat) : Int)) := evd_eq (evd_lenO hoB (evv_var rfl)) (by simp)
  rcases List.eq_nil_or_concat A with eA | ⟨A', a, eA⟩
  · refine ⟨false, evt_eq (evt_and (c := false) (evt_test (evd_cmpI (g := fun a b => decide (a > b)) len3 evd_i)) fun h => ?_) ?_, (fun hb => by cases hb), fun _ F'' H'' g4 => fin F'' H'' g4 (.inr fun eB => hA0 eA eB)⟩
    · subst eA; simp at h
    · subst eA; rfl
  · rcases List.eq_nil_or_concat B with eB | ⟨B', b, eB⟩
    · refine ⟨false, evt_eq (evt_and (c := false) (evt_test (evd_cmpI (g := fun a b => decide (a > b)) len3 evd_i)) fun h => evt_eq (evt_and (c := false) (evt_test (evd_cmpI (g := fun a b => decide (a > b)) len4 evd_i)) fun h => ?_) ?_) ?_, (fun hb => by cases hb), fun _ F'' H'' g4 => fin F'' H'' g4 (.inl fun eA2 => hA0 eA2 eB)⟩
      · subst eB; simp at h
      · subst eB; rfl
      · simp
    · have i3 : EvD K (tOp (rIxL K) (tVar 3) (tUn (rU fun i => .int (-i)) (tC (.int 2)))) [some v1, some (.int (x : Nat)), some (.int (y : Nat)), some (.ref p), some (.ref p')] F' H' (.int (a : Nat)) := evd_ixO hoA (evv_var rfl) (evd_unI (g := fun a => -a) evd_i) (by
        subst eA; rw [natsD, List.map_append, List.concat_eq_append, List.map_append]; exact atI_last2 _ _ _)
      have i4 : EvD K (tOp (rIxL K) (tVar 4) (tUn (rU fun i => .int (-i)) (tC (.int 2)))) [some v1, some (.int (x : Nat)), some (.int (y : Nat)), some (.ref p), some (.ref p')] F' H' (.int (b : Nat)) := evd_ixO hoB (evv_var rfl) (evd_unI (g := fun a => -a) evd_i) (by
        subst eB; rw [natsD, List.map_append, List.concat_eq_append, List.map_append]; exact atI_last2 _ _ _)
      have hT : (decide (((A.length + 1 : Nat) : Int) > 1) && (decide (((B.length + 1 : Nat) : Int) > 1) && decide (((a : Nat) : Int) = ((b : Nat) : Int)))) = decide (a = b) := by
        have e1 : decide (((A.length + 1 : Nat) : Int) > 1) = true := decide_eq_true (by subst eA; simp; omega)
        have e2 : decide (((B.length + 1 : Nat) : Int) > 1) = true := decide_eq_true (by subst eB; simp; omega)
        rw [e1, e2, Bool.true_and, Bool.true_and, decide_eq_decide]
        omega
      refine ⟨decide (a = b), evt_eq (evt_and (evt_test (evd_cmpI (g := fun a b => decide (a > b)) len3 evd_i)) fun _ => evt_and (evt_test (evd_cmpI (g := fun a b => decide (a > b)) len4 evd_i)) fun _ => evt_test (evd_eqI i3 i4)) hT, fun hb F'' H'' N g4 hN => ?_, fun _ F'' H'' g4 => fin F'' H'' g4 (.inl (by subst eA; simp))⟩
      obtain rfl : a = b := of_decide_eq_true hb
      have gB := gg.trans g4
      refine st_seq (st_popD (d := .int (c : Nat)) (ds := natsD A) (by rw [← natsD_app]; exact hoA.up g4) g4.fh rfl fun xs ho3 => ?_)
      have hoB2 := (hoB.up g4).other (o := .lst xs) (Ne.symm hne)
      have g5 := gB.mut (o := .lst xs) ho3.nw ho3.out
      refine st_popD (d := .int (c : Nat)) (ds := natsD B) (by rw [← natsD_app]; exact hoB2) g5.fh rfl fun ys ho4 => ?_
      refine hN A'.length _ F'' _ (by subst eA; simp at hm; omega) (f'.trans g4.f) (same_mut g5.fh ho4.out) ⟨rfl, g5.mut ho4.nw ho4.out, A', B', a, ?_, ?_, ?_, ?_, Nat.le_refl _, ?_, ?_⟩
      · subst eA; rw [List.concat_eq_append] at ho3; exact ho3.other hne
      · subst eB; rw [List.concat_eq_append] at ho4; exact ho4
      · subst eA
        rw [List.concat_eq_append] at hMA
        cases A' with
        | nil => injection hMA with e1 _; exact ⟨[], by rw [e1]; rfl⟩
        | cons u A' => injection hMA with e1 _; exact ⟨A' ++ [a], by rw [e1]; rfl⟩
      · subst eB
        rw [List.concat_eq_append] at hMB
        cases B' with
        | nil => injection hMB with e1 _; exact ⟨[], by rw [e1]; rfl⟩
        | cons u B' => injection hMB with e1 _; exact ⟨B' ++ [a], by rw [e1]; rfl⟩
      · subst eA; simp at lA; omega
      · subst eB; simp at lB; omega
end
end Sg
set_option maxRecDepth 100000
set_option maxHeartbeats 4000000
/-! G11: walked. -/
namespace Dv
open PySem PySem.Spec L2
section
variable {K : PySem.W.Frag} {σ : St} {F F' H H' H0 F0 : Hp} {ta tb : TE} {i j : Int} {p q : Addr} {ds es : List PyData}
theorem evd_orI (ha : EvD K ta σ F H (.int i)) (hb : EvD K tb σ F H (.int j)) : EvD K (tOrT K ta tb) σ F H (.int (if i ≠ 0 then i else j)) :=
  fun F1 H1 x y z Q q => ha F1 H1 x y z _ fun v F2 H2 g2 p2 => by
    obtain rfl := p2.int_inv
    refine ⟨i != 0, rfl, ?_⟩
    by_cases h : i = 0
    · subst h
      exact hb F2 H2 (x.trans g2.f) (y.trans g2.h) g2.fh Q fun w F3 H3 g3 p3 => q w F3 H3 (g2.trans g3) p3
    · rw [if_pos (by simpa using h)]
      rw [if_pos h] at q
      exact q _ F2 H2 g2 (.int _)
theorem Own.give2 (hp : Own K H0 F H p ds) (hq : Own K H0 F H q es) (hne : p ≠ q) (g : Gr F0 H0 F H) : ∃ F', Gr F0 H0 F' H ∧ Same F F' ∧ Dp K F' (.ref p) (.list ds) ∧ Dp K F' (.ref q) (.list es) := by
  obtain ⟨xs, a, b⟩ := hp.at_
  obtain ⟨ys, a', b'⟩ := hq.at_
  have s1 : Same F (upd F p (.lst xs)) := same_upd hp.out
  have o2 : (upd F p (.lst xs)) q = none := by rw [upd_ne (Ne.symm hne)]; exact hq.out
  have s2 := s1.trans (same_upd (o := .lst ys) o2)
  refine ⟨upd (upd F p (.lst xs)) q (.lst ys), ⟨g.f.trans s2, g.h, fun c u e => ?_, fun c u e => ?_⟩, s2, .lst (SqL.of (by rw [upd_ne hne, upd_same])) (b.up s2), .lst (SqL.of upd_same) (b'.up s2)⟩
  · by_cases hc : c = q
    · subst hc; rw [upd_same] at e; cases e; exact a'
    · rw [upd_ne hc] at e
      by_cases hc : c = p
      · subst hc; rw [upd_same] at e; cases e; exact a
      · rw [upd_ne hc] at e; exact g.fh _ _ e
  · by_cases hc : c = q
    · subst hc; exact .inr hq.nw
    · rw [upd_ne hc] at e
      by_cases hc : c = p
      · subst hc; exact .inr hp.nw
      · rw [upd_ne hc] at e; exact g.nw c u e
end
end Dv
namespace Sg
open PySem PySem.Spec L2 Dv
theorem rep_rng {α : Type} {n : Nat} {d : α} : List.replicate n d = (List.range n).map fun _ => d := by
  refine List.ext_getElem (by simp) fun k h1 h2 => ?_
  simp
theorem set_rng {α : Type} {n i : Nat} {f : Nat → α} {a : α} (hi : i < n) : ((List.range n).map f).set i a = (List.range n).map (put f i a) := by
  refine List.ext_getElem (by simp) fun k h1 h2 => ?_
  simp only [List.length_map, List.length_range] at h2
  rw [List.getElem_set]
  simp only [List.getElem_map, List.getElem_range]
  unfold put
  by_cases e : i = k
  · subst e; simp
  · rw [if_neg e, if_neg (by omega)]
theorem set_sides {n i : Nat} {sd : Nat → Int} {a : Int} (hi : i < n) : (sidesD n sd).set i (.int a) = sidesD n (put sd i a) := by
  rw [set_rng hi]
  refine map_rng_congr fun k _ => ?_
  unfold put
  split <;> rfl
theorem set_pars {n i : Nat} {pr : Nat → Option Nat} {a : Nat} (hi : i < n) : (parsD n pr).set i (.int (a : Nat)) = parsD n (put pr i (some a)) := by
  rw [set_rng hi]
  refine map_rng_congr fun k _ => ?_
  unfold put
  split <;> rfl
section
variable {P : Program} {w : World} {K : PySem.W.Frag} {mg : Str → Option Value} {base : Heap} {SE IW IT NB TM fI : Addr} {fd : FuncData}
/-- what the walk leaves -/
structure Wkd (n : Nat) (W : Nat → Nat → Int) (sd : Nat → Int) (pr : Nat → Option Nat) (cmp dep : Nat → Nat) : Prop where
  wi : WI n W 0 sd pr cmp dep fun _ => False
  all : ∀ v, v < n → sd v ≠ 0
  db : ∀ v, v < n → dep v ≤ 100
theorem Wkd.up {n : Nat} {W : Nat → Nat → Int} {sd : Nat → Int} {pr : Nat → Option Nat} {cmp dep : Nat → Nat} (h : Wkd n W sd pr cmp dep) (hn : n ≤ 100) : Up n pr cmp dep :=
  ⟨hn, fun v hv => (h.wi.pa v hv (h.all v hv)).imp id fun ⟨p, a, b, _, c, d⟩ => ⟨p, a, b, c, d⟩, h.db⟩
def sp_walked (K : PySem.W.Frag) : Sp := fun vs H Q _ => ∃ (F : Hp) (n : Nat) (W : Nat → Nat → Int) (v1 : V), Same F H ∧ vs = [v1] ∧ Dp K F v1 (matD n W) ∧ Web n W ∧
  ∀ v F' H' sd pr cmp dep, Wkd n W sd pr cmp dep → Gr F H F' H' → Dp K F' v (.tuple [.list (sidesD n sd), .list (parsD n pr)]) → Q v H'
theorem sc_walked : FnScope ["web", "many", "sides", "parents", "start", "here", "x", "y"] ["web"] (defScope (topS 37)) := ⟨rfl, rfl, rfl, by decide +kernel, rfl, by decide +kernel, by decide +kernel⟩
theorem c_walked (T : Txt K mg) : Cal P w K mg base CX0 1 "walked" ["web"] (sp_walked K) := by
  refine T.d_walked.cal sc_walked (fun vs H Q E ⟨F, n, W, v1, _, e, _⟩ => by rw [e]; rfl) (fun f cdv A outer s H vs Q E hr ⟨F, n, W, v1, z, e, h1, ww, q⟩ => ?_)
  have nd := sc_walked.nd
  subst e
  refine ⟨_, (pss_cons (ps_set (i := 1) nd rfl (Or.inl rfl) (q_len K T.len_n (pv 0)))
      (pss_cons (ps_par (i := 2) (j := 3) rfl nd rfl rfl (by decide) rfl rfl (pa_cons (pe_op op_rep (pe_lst (pa_cons pe_int pa_nil)) (pv 1)) (pa_cons (pe_op op_rep (pe_lst (pa_cons pe_non pa_nil)) (pv 1)) pa_nil)) (by rfl))
      (pss_cons (ps_for PassesOwn.never rfl (pi_range1 rfl T.range_n (pa_cons (pv 1) pa_nil)) (pg_name (i := 4) nd rfl (Or.inl rfl)) (pss_cons (ps_set (i := 5) nd rfl (Or.inl rfl) (pe_ifExp (pt_cmpR op_eq (pe_ix (kIxL K) (pv 2) (pv 4) (fun _ _ => rfl)) pe_int (nomark _)) (pe_lst (pa_cons (pv 4) pa_nil)) (pe_lst pa_nil)))
        (pss_cons (ps_asg (pe_orT (pe_ix (kIxL K) (pv 2) (pv 4) (fun _ _ => rfl)) (pe_one pe_int)) (pg_sub (pv 2) (pv 4) set_list))
        (pss_one (ps_while PassesOwn.never (kTruth K (pv 5)) (pss_cons (ps_set (i := 6) nd rfl (Or.inl rfl) (kPop K (pv 5)))
          (pss_one (ps_for PassesOwn.never rfl (pi_range1 rfl T.range_n (pa_cons (pv 1) pa_nil)) (pg_name (i := 7) nd rfl (Or.inl rfl)) (pss_one (ps_if (PW.pt (pw_and (pt_cmpR op_ne (pe_ix (kIxT K) (pe_ix (kIxT K) (pv 0) (pv 6) (fun _ _ => rfl)) (pv 7) (fun _ _ => rfl)) pe_int (nomark _)) (pw_and1 (pt_cmpR op_eq (pe_ix (kIxL K) (pv 2) (pv 7) (fun _ _ => rfl)) pe_int (nomark _))))) (pss_cons (ps_asg (pe_tup (pa_cons (pe_op op_mul (pe_ix (kIxL K) (pv 2) (pv 6) (fun _ _ => rfl)) (pe_ix (kIxT K) (pe_ix (kIxT K) (pv 0) (pv 6) (fun _ _ => rfl)) (pv 7) (fun _ _ => rfl))) (pa_cons (pv 6) pa_nil))) (kPgT (n := 2) K rfl (pgs_cons (pg_sub (pv 2) (pv 7) set_list) (pgs_cons (pg_sub (pv 3) (pv 7) set_list) pgs_nil))))
              (pss_one (ps_expr (kApp K (pv 5) (pv 7))))) pss_nil))))))))))
      (pss_one (ps_ret (pe_tup (pa_cons (pv 2) (pa_cons (pv 3) pa_nil)))))))), ?_⟩
  have hn10 := ww.hi
  have cell : ∀ {F4 H4 : Hp} {a b : Nat} {ta tb : TE} {σ : L2.St}, Same F F4 → a < n → b < n → σ[0]? = some (some v1) → EvD K ta σ F4 H4 (.int (a : Nat)) → EvD K tb σ F4 H4 (.int (b : Nat)) → EvD K (tOp (rIxT K) (tOp (rIxT K) (tVar 0) ta) tb) σ F4 H4 (.int (W a b)) := fun f ha hb hσ h2 h3 => evd_cell (evd_var hσ (h1.up f)) h2 h3 ha hb
  refine st_seq (st_asg z (evd_lenR (evd_var rfl h1)) fun vn F1 H1 g1 pn => ?_)
  obtain rfl := pn.int_inv
  have hlo := ww.lo
  refine st_seq (st_par2 (R := fun H1 v F2 H2 => NewL K H1 (List.replicate n .none) v F2 H2) g1.fh (evp_rep (K := K) (eva_one evd_i) (evd_vari rfl) hlo (by omega)) (fun F2 H2 g2 => evp_rep (K := K) (eva_one evd_n) (evd_vari rfl) hlo (by omega)) fun v v' F2 H2 F3 H3 g2 ⟨p, ep, hp⟩ g3 ⟨p', ep', hp'⟩ => ?_)
  subst ep ep'
  have hne : p ≠ p' := fun e => by
    obtain ⟨xs, h, _⟩ := hp.at_
    rw [e, hp'.nw] at h; cases h
  have g12 := g1.trans g2
  have hpA : Own K H F3 H3 p (sidesD n fun _ => 0) := by
    have := (hp.up g3).base g1.h
    rw [rep_rng] at this
    exact this
  have hpB : Own K H F3 H3 p' (parsD n fun _ => none) := by
    have := hp'.base g12.h
    rw [rep_rng] at this
    exact this
  dsimp only
  refine st_seq (st_forI (K := K) (g := fun i => (i : Nat)) (n := n) (fun i σ' F' H' => ∃ u4 u5 u6 u7, σ' = [some v1, some (.int (n : Nat)), some (.ref p), some (.ref p'), u4, u5, u6, u7] ∧ Gr F H F' H' ∧ ∃ sd pr cmp dep, Own K H F' H' p (sidesD n sd) ∧ Own K H F' H' p' (parsD n pr) ∧
    WI n W 0 sd pr cmp dep (fun _ => False) ∧ (∀ v, v < i → sd v ≠ 0) ∧ ∀ v, v < n → dep v + cnt0 n sd ≤ n) (g12.trans g3).fh ?_ (fun F4 H4 g4 => ⟨_, _, _, _, rfl, (g12.trans g3).trans g4, _, _, _, _, hpA.up g4, hpB.up g4, .init, fun v h => absurd h (Nat.not_lt_zero _), fun v _ => by have := cnt_le n fun _ => 0; omega⟩) ?_ ?_)
  · have h := iwd_range1 (K := K) (n := (n : Int)) (ta := tVar 1) (σ := [some v1, some (.int (n : Nat)), some (.ref p), some (.ref p'), none, none, none, none]) (F := F3) (H := H3) (evd_vari rfl) (by omega) (by omega)
    rw [Int.toNat_natCast] at h
    exact h
  · rintro i σ' F' H' F'' H'' N hi f' z' ⟨u4, u5, u6, u7, rfl, gg, sd, pr, cmp, dep, ho, ho', wi, hmet, hdep⟩ g' hN
    have gA := gg.trans g'
    have ho2 := ho.up g'
    have ho2' := ho'.up g'
    have sdAt : ∀ {F4 H4 : Hp} {sd : Nat → Int} {k : Nat} {tk : TE} {σ : L2.St}, Own K H F4 H4 p (sidesD n sd) → k < n → σ[2]? = some (some (.ref p)) → EvD K tk σ F4 H4 (.int (k : Nat)) → EvD K (tOp (rIxL K) (tVar 2) tk) σ F4 H4 (.int (sd k)) := fun {F4 H4 sd k tk σ} ho hk hσ h => evd_ixO ho (evv_var hσ) h (by
      unfold L2.atI ixN
      rw [if_pos (by omega), if_pos (by rw [len_rng]; omega), Int.toNat_natCast]
      exact at_rng hk)
    refine st_seq (st_asg g'.fh (P := fun v F5 H5 => NewL K H'' (natsD (if sd i = 0 then [i] else [])) v F5 H5) (evp_if (b := decide (sd i = 0)) (evt_test (evd_eqI (sdAt ho2 hi rfl (evd_vari rfl)) evd_i)) (fun hb => ?_) fun hb => ?_) fun v5 F5 H5 g5 ⟨p3, e5, hp3⟩ => ?_)
    · rw [if_pos (of_decide_eq_true hb)]
      exact evp_new (eva_one (evd_vari rfl)) (by simp)
    · rw [if_neg (of_decide_eq_false hb)]
      exact evp_new eva_nil
    subst e5
    have gB := gA.trans g5
    have hp3' := hp3.base gA.h
    have oA := ho2.up g5
    have oB := ho2'.up g5
    have n1 : p ≠ p3 := fun e => by
      obtain ⟨xs, h, _⟩ := ho2.at_
      rw [e, hp3.nw] at h; cases h
    have n2 : p' ≠ p3 := fun e => by
      obtain ⟨xs, h, _⟩ := ho2'.at_
      rw [e, hp3.nw] at h; cases h
    -- sides[start] = sides[start] or 1
    refine st_seq (st_setO (K := K) (i := i) (d := .int (if sd i ≠ 0 then sd i else 1)) oA g5.fh (evd_orI (sdAt oA hi rfl (evd_vari rfl)) evd_i) rfl (fun _ _ _ => evd_vari rfl) (by rw [len_rng]; exact hi) fun xs F6 H6 g6 hp6 => ?_)
    have hset : (sidesD n sd).set i (.int (if sd i ≠ 0 then sd i else 1)) = sidesD n (put sd i (if sd i ≠ 0 then sd i else 1)) := set_sides hi
    rw [hset] at hp6
    have oB6 := (oB.up g6).other (o := .lst xs) (Ne.symm hne)
    have o36 := (hp3'.up g6).other (o := .lst xs) (Ne.symm n1)
    have gC := (gB.trans g6).mut (o := .lst xs) hp6.nw hp6.out
    -- what stands ahead of the while
    obtain ⟨sd1, cmp1, stk0, hst, wi1, eS, hcnt, hm1, hi1, hl0⟩ : ∃ sd1 cmp1 stk0, Own K H F6 (upd H6 p (.lst xs)) p (sidesD n sd1) ∧ WI n W i sd1 pr cmp1 dep (fun v => v ∈ stk0) ∧ (if sd i = 0 then [i] else []) = stk0 ∧ (∀ v, v < n → dep v + cnt0 n sd1 ≤ n) ∧ (∀ v, v < i → sd1 v ≠ 0) ∧ sd1 i ≠ 0 ∧ stk0.length ≤ 1 := by
      by_cases h0 : sd i = 0
      · rw [if_neg (by simpa using h0)] at hp6
        refine ⟨put sd i 1, put cmp i i, [i], hp6, (wi.start hi h0).iff fun v => by simp, by rw [if_pos h0], fun v hv => ?_, fun v hv => ?_, by rw [put_same]; decide, Nat.le_refl _⟩
        · have h1 := hdep v hv
          have h2 := cnt_put (sd := sd) (a := 1) h0 (by decide) hi
          omega
        · rw [put_ne (by omega)]; exact hmet v hv
      · rw [if_pos h0] at hp6
        have e : sidesD n (put sd i (sd i)) = sidesD n sd := map_rng_congr fun k _ => by
          unfold put
          split
          · rename_i e; rw [e]
          · rfl
        rw [e] at hp6
        exact ⟨sd, cmp, [], hp6, (wi.root i).iff fun v => by simp, by rw [if_neg h0], hdep, hmet, h0, Nat.zero_le _⟩
    rw [eS] at o36
    have f6 : Same F F6 := (gB.trans g6).f
    clear hp6 hset hdep hmet wi ho ho' ho2 ho2' oA oB hp3 hp3' eS
    dsimp only
    refine st_whileE (σ := [some v1, some (.int (n : Nat)), some (.ref p), some (.ref p'), some (.int (i : Nat)), some (.ref p3), u6, u7]) (fun m σ' F' H' => ∃ u6 u7 sd pr cmp dep stk, σ' = [some v1, some (.int (n : Nat)), some (.ref p), some (.ref p'), some (.int (i : Nat)), some (.ref p3), u6, u7] ∧ Gr F H F' H' ∧ Own K H F' H' p (sidesD n sd) ∧ Own K H F' H' p' (parsD n pr) ∧ Own K H F' H' p3 (natsD stk) ∧
      WI n W i sd pr cmp dep (fun v => v ∈ stk) ∧ (∀ v, v < n → dep v + cnt0 n sd ≤ n) ∧ (∀ v, v < i + 1 → sd v ≠ 0) ∧ cnt0 n sd + stk.length = m ∧ m ≤ 50) _ F'' (g5.f.trans g6.f) gC.fh
      ⟨_, _, sd1, pr, cmp1, dep, stk0, rfl, gC, hst, oB6, o36, wi1, hcnt, fun v hv => ?_, rfl, by have := cnt_le n sd1; omega⟩ ?_
    · rcases Nat.lt_succ_iff_lt_or_eq.mp hv with h | h
      · exact hm1 v h
      · subst h; exact hi1
    clear hst oB6 o36 wi1 hcnt hm1 hi1 hl0
    rintro m σ' F' H' f' z' ⟨u6, u7, sd, pr, cmp, dep, stk, rfl, gg, oP, oQ, oS, wi, hdep, hmet, hm, hm50⟩
    refine ⟨!(natsD stk).isEmpty, evt_truO oS (evv_var rfl), fun hb F7 H7 N' g7 hN' => ?_, fun hb F7 H7 g7 => ?_⟩
    · -- one more place
      obtain ⟨S, x, eS⟩ : ∃ S x, stk = S ++ [x] := by
        rcases List.eq_nil_or_concat stk with e | ⟨S, x, e⟩
        · subst e; simp at hb
        · exact ⟨S, x, by rw [e]; simp⟩
      subst eS
      have oS7 := oS.up g7
      rw [natsD_app] at oS7
      refine st_seq (st_popA oS7 g7.fh rfl fun vx ys hvx oS8 => ?_)
      obtain rfl := hvx.int_inv
      have oP8 := (oP.up g7).other (o := .lst ys) n1
      have oQ8 := (oQ.up g7).other (o := .lst ys) n2
      have gD := (gg.trans g7).mut (o := .lst ys) oS8.nw oS8.out
      have hx := wi.ops x (by simp)
      have wi8 : WI n W i sd pr cmp dep (fun v => v ∈ S ∨ v = x) := wi.iff fun v => by simp
      have hm8 : cnt0 n sd + S.length + 1 = m := by rw [List.length_append, List.length_singleton] at hm; omega
      clear oS7 oP oQ oS wi
      dsimp only
      refine st_forI (K := K) (g := fun i => (i : Nat)) (n := n) (fun j σ' F' H' => ∃ u7 sd pr cmp dep stk, σ' = [some v1, some (.int (n : Nat)), some (.ref p), some (.ref p'), some (.int (i : Nat)), some (.ref p3), some (.int (x : Nat)), u7] ∧ Gr F H F' H' ∧ Own K H F' H' p (sidesD n sd) ∧ Own K H F' H' p' (parsD n pr) ∧ Own K H F' H' p3 (natsD stk) ∧
        WI n W i sd pr cmp dep (fun v => v ∈ stk ∨ v = x) ∧ (∀ v, v < n → dep v + cnt0 n sd ≤ n) ∧ (∀ v, v < i + 1 → sd v ≠ 0) ∧ cnt0 n sd + stk.length + 1 = m ∧ ∀ u, u < j → W x u ≠ 0 → sd u ≠ 0) gD.fh ?_ (fun F9 H9 g9 => ⟨_, sd, pr, cmp, dep, S, rfl, gD.trans g9, oP8.up g9, oQ8.up g9, oS8.up g9, wi8, hdep, hmet, hm8, fun u h => absurd h (Nat.not_lt_zero _)⟩) ?_ ?_
      · have h := iwd_range1 (K := K) (n := (n : Int)) (ta := tVar 1) (σ := [some v1, some (.int (n : Nat)), some (.ref p), some (.ref p'), some (.int (i : Nat)), some (.ref p3), some (.int (x : Nat)), u7]) (F := F7) (H := upd H7 p3 (.lst ys)) (evd_vari rfl) (by omega) (by omega)
        rw [Int.toNat_natCast] at h
        exact h
      · clear hdep hmet hm8 wi8 oP8 oQ8 oS8
        rintro j σ' F' H' F9 H9 N2 hj f9 z9 ⟨u7, sd, pr, cmp, dep, stk, rfl, gg, oP, oQ, oS, wi, hdep, hmet, hm, hnb⟩ g9 hN2
        have gE := gg.trans g9
        have oP9 := oP.up g9
        have oQ9 := oQ.up g9
        have oS9 := oS.up g9
        refine st_if g9.fh (b := !decide (W x j = 0) && decide (sd j = 0)) (evt_and (evt_test (evd_neI (cell gE.f hx.1 hj rfl (evd_vari rfl) (evd_vari rfl)) evd_i)) fun _ => evt_test (evd_eqI (sdAt oP9 hj rfl (evd_vari rfl)) evd_i)) (fun hb F10 H10 g10 => ?_) fun hb F10 H10 g10 => ?_
        · simp only [Bool.and_eq_true, Bool.not_eq_true', decide_eq_false_iff_not, decide_eq_true_eq] at hb
          have hw : W x j = 1 ∨ W x j = -1 := (ww.sgn x j hx.1 hj).resolve_left hb.1
          have wi2 := wi.visit (x := x) (y := j) (.inr rfl) hj hb.2 hw
          have oP10 := oP9.up g10
          have oQ10 := oQ9.up g10
          have hxs := (wi.ops x (.inr rfl)).2.1
          have cm : CMul (sd x) (W x j) := .inr (by rcases hw with e | e <;> rw [e] <;> decide)
          refine st_seq (st_setO2 (K := K) (i := j) (d := .int (sd x * W x j)) (e := .int (x : Nat)) oP10 oQ10 hne g10.fh (evd_tup (eva_cons (evd_opC (g := fun a b => a * b) (sdAt oP10 hx.1 rfl (evd_vari rfl)) (cell (gE.trans g10).f hx.1 hj rfl (evd_vari rfl) (evd_vari rfl)) cm) (eva_one (evd_vari rfl))) (by simp)) rfl rfl rfl (by rw [len_rng]; exact hj) (by rw [len_rng]; exact hj) fun as bs F11 H11 g11 oP11 oQ11 => ?_)
          rw [set_sides hj] at oP11
          rw [set_pars hj] at oQ11
          have g12' := ((gE.trans g10).trans g11).mut (o := .lst as) oP11.nw oP11.out
          have g13 := g12'.mut (o := .lst bs) oQ11.nw oQ11.out
          have oS11 := (((oS9.up g10).up g11).other (o := .lst as) (Ne.symm n1)).other (o := .lst bs) (Ne.symm n2)
          have hc := cnt_put (sd := sd) (a := sd x * W x j) hb.2 (by
            rcases (wi.sg x hx.1).resolve_left hxs with e | e <;> rcases hw with e2 | e2 <;> rw [e, e2] <;> decide) hj
          refine st_append (d := .int (j : Nat)) oS11 g13.fh rfl (evd_vari rfl) (by rw [List.length_map]; omega) fun cs F12 H12 g12 oS12 => ?_
          refine hN2 _ F12 _ ((g10.f.trans g11.f).trans g12.f) (same_mut g12.fh oS12.out) ⟨_, _, _, _, _, stk ++ [j], rfl, (g13.trans g12).mut oS12.nw oS12.out, (oP11.up g12).other n1, (oQ11.up g12).other n2, by rw [natsD_app]; exact oS12, wi2.iff fun v => ?_, fun v hv => ?_, fun v hv => ?_, ?_, fun u hu hwu => ?_⟩
          · simp only [List.mem_append, List.mem_singleton]
            constructor
            · rintro ((h | h) | h)
              · exact .inl (.inl h)
              · exact .inr h
              · exact .inl (.inr h)
            · rintro ((h | h) | h)
              · exact .inl (.inl h)
              · exact .inr h
              · exact .inl (.inr h)
          · have h1 := hdep v hv
            unfold put at hc ⊢
            by_cases e : v = j
            · rw [if_pos e]
              have h2 := hdep x hx.1
              omega
            · rw [if_neg e]; omega
          · by_cases e : v = j
            · subst e; exact (hmet v hv hb.2).elim
            · rw [put_ne e]; exact hmet v hv
          · rw [List.length_append, List.length_singleton]; omega
          · by_cases e : u = j
            · subst e; rw [put_same]
              rcases (wi.sg x hx.1).resolve_left hxs with e | e <;> rcases hw with e2 | e2 <;> rw [e, e2] <;> decide
            · rw [put_ne e]; exact hnb u (by omega) hwu
        · refine hN2 _ F10 H10 g10.f g10.fh ⟨_, sd, pr, cmp, dep, stk, rfl, gE.trans g10, oP9.up g10, oQ9.up g10, oS9.up g10, wi, hdep, hmet, hm, fun u hu hwu => ?_⟩
          rcases Nat.lt_succ_iff_lt_or_eq.mp hu with h | h
          · exact hnb u h hwu
          · subst h
            intro h0
            rw [decide_eq_false hwu, decide_eq_true h0] at hb
            cases hb
      · clear hdep hmet hm8 wi8 oP8 oQ8 oS8
        rintro σ' F' H' f9 z9 ⟨u7, sd, pr, cmp, dep, stk, rfl, gg, oP, oQ, oS, wi, hdep, hmet, hm, hnb⟩
        have hxo := wi.ops x (.inr rfl)
        refine hN' (cnt0 n sd + stk.length) _ F' H' (by omega) ((f'.trans g7.f).trans f9) z9 ⟨_, _, sd, pr, cmp, dep, stk, rfl, gg, oP, oQ, oS, wi.close (x := x) (.inr rfl) (fun v h => .inl h) (fun v h => h.symm) (fun u hu hwu => ?_), hdep, hmet, rfl, by omega⟩
        exact ⟨hnb u hu hwu, wi.met (.inr rfl) hu (hnb u hu hwu) hwu (ww.sym x u hxo.1 hu)⟩
    · have e : stk = [] := by
        cases stk with
        | nil => rfl
        | cons a l => simp at hb
      subst e
      refine hN _ F7 H7 (f'.trans g7.f) g7.fh ⟨_, _, _, _, rfl, gg.trans g7, sd, pr, cmp, dep, oP.up g7, oQ.up g7, (wi.iff fun v => by simp).root 0, hmet, hdep⟩
  · rintro σ' F' H' f' z' ⟨u4, u5, u6, u7, rfl, gg, sd, pr, cmp, dep, ho, ho', wi, hmet, hdep⟩
    obtain ⟨F5, g5, f5, d1, d2⟩ := ho.give2 ho' hne gg
    refine st_ret g5.fh (evd_tup (K := K) (eva_cons (evd_var rfl d1) (eva_one (evd_var rfl d2))) (by simp)) fun v F6 H6 g6 p6 => q v F6 H6 sd pr cmp dep ⟨wi, hmet, fun v hv => by have := hdep v hv; omega⟩ (g5.trans g6) p6
end
end Sg
set_option maxRecDepth 100000
set_option maxHeartbeats 4000000
/-! G12: balance_of, camp_of, is_balanced, is_camp. -/
namespace Dv
open PySem PySem.Spec L2
section
variable {K : PySem.W.Frag} {σ : St} {F F' H H' H0 F0 : Hp} {te ta tb : TE} {i j : Int} {p q : Addr} {ds es : List PyData} {D : Ends}
theorem iwd_enumL (h : EvD K te σ F H (.list ds)) : IwD K (iEnum K (tCons te tNil)) σ F H ds.length fun i => .tuple [.int (i : Nat), ds.getD i .none] :=
  fun F1 H1 x y z R q => h F1 H1 x y z _ fun v F2 H2 g2 p2 => by
    obtain ⟨a, xs, rfl, hs, ha⟩ := p2.lst_inv
    have hl := ha.len
    refine ⟨a, xs, rfl, g2.fh.seq hs, q _ F2 H2 g2 (fun i F' H' f z' hi => ?_) (fun F' H' f z' => ⟨xs, (f.trans z').seq hs, by omega⟩) fun i F' H' u H'' f z' hi hy => ?_⟩
    · exact ⟨xs, xs[i]'(by omega), (f.trans z').seq hs, List.getElem?_eq_getElem (by omega)⟩
    · obtain ⟨T, y, rfl, hT, rfl, hy⟩ := hy
      obtain ⟨d, h1, h2⟩ := ha.atV (hy xs ((f.trans z').seq hs))
      have e : ds.getD i .none = d := by rw [List.getD_eq_getElem?_getD, h1]; rfl
      refine ⟨upd F' T (.tup [.int (i : Nat), y]), .new z' hT, ?_⟩
      show Dp K _ _ (.tuple [.int (i : Nat), ds.getD i .none])
      rw [e]
      exact .tup (SqT.of upd_same) (.cons (.int _) (.one (h2.up (f.trans (same_upd (z'.free hT))))))
/-- a for over pairs of ints -/
theorem st_forP {wi : TI} {ts : TS} {n s s1 : Nat} {g g1 : Nat → Int} (Pv : Nat → St → Hp → Hp → Prop) (z : Same F H) (hi : IwD K wi σ F H n fun i => .tuple [.int (g i), .int (g1 i)]) (h0 : ∀ F1 H1, Gr F H F1 H1 → Pv 0 σ F1 H1)
    (hs : ∀ i σ' F' H' F'' H'' (N : St → Hp → Prop), i < n → Same F F' → Same F' H' → Pv i σ' F' H' → Gr F' H' F'' H'' → (∀ σ3 F3 H3, Same F'' F3 → Same F3 H3 → Pv (i + 1) σ3 F3 H3 → N σ3 H3) →
      ts { D with nx := N, ct := N, bk := D.nx } ((σ'.set s (some (.int (g i)))).set s1 (some (.int (g1 i)))) H'')
    (hd : ∀ σ' F' H', Same F F' → Same F' H' → Pv n σ' F' H' → D.nx σ' H') : tFor wi (gTup K 2 (gCons (gName s) (gCons (gName s1) gNil))) ts D σ H :=
  st_for Pv z hi h0 (fun i σ' F' H' F'' H'' x N h1 h2 h3 h4 h5 h6 h7 => tgd_two_int (σ := σ') (F := F'') (H := H'') F'' H'' x (Same.refl _) (Same.refl _) h5.fh h6 _ fun σ2 e => by
    rw [e]
    exact hs i σ' F' H' F'' H'' N h1 h2 h3 h4 h5 h7) hd
end
end Dv
namespace Sg
open PySem PySem.Spec L2 Dv
theorem wit_congr {n : Nat} {W U : Nat → Nat → Int} {s : Nat → Int} (h : ∀ x y, x < n → y < n → W x y = U x y) (w : Wit n W s) : Wit n U s := ⟨w.1, fun x y hx hy hw => by rw [← h x y hx hy] at hw ⊢; exact w.2 x y hx hy hw⟩
theorem bal_congr {n : Nat} {W U : Nat → Nat → Int} (h : ∀ x y, x < n → y < n → W x y = U x y) : Bal n W ↔ Bal n U :=
  ⟨fun ⟨s, w⟩ => ⟨s, wit_congr h w⟩, fun ⟨s, w⟩ => ⟨s, wit_congr (fun x y hx hy => (h x y hx hy).symm) w⟩⟩
/-- L is a camp of W -/
def IsCamp (n : Nat) (W : Nat → Nat → Int) (L : List Nat) : Prop := ∀ x y, x < y → y < n → W x y ≠ 0 → ((decide (x ∈ L) != decide (y ∈ L)) = decide (W x y = -1))
def Lot (n : Nat) (L : List Nat) : Prop := L.Pairwise (· < ·) ∧ ∀ x ∈ L, x < n
theorem camp_congr {n : Nat} {W U : Nat → Nat → Int} {L : List Nat} (h : ∀ x y, x < n → y < n → W x y = U x y) (c : IsCamp n W L) : IsCamp n U L := fun x y hxy hy hw => by
  rw [← h x y (by omega) hy] at hw ⊢
  exact c x y hxy hy hw
theorem lot_filter (n : Nat) (p : Nat → Bool) : Lot n ((List.range n).filter p) :=
  ⟨List.Pairwise.filter _ (List.pairwise_lt_range), fun x hx => List.mem_range.mp (List.mem_filter.mp hx).1⟩
theorem nat_mem {L : List Nat} {x : Nat} : ((x : Int) ∈ L.map fun y : Nat => (y : Int)) ↔ x ∈ L := by
  rw [List.mem_map]
  constructor
  · rintro ⟨y, hy, e⟩
    have : y = x := by omega
    rw [← this]; exact hy
  · exact fun h => ⟨x, h, rfl⟩
section
variable {P : Program} {w : World} {K : PySem.W.Frag} {mg : Str → Option Value} {base : Heap} {SE IW IT NB TM fI : Addr} {fd : FuncData}
def PreW : List PyData → Prop := fun ds => ∃ n W, ds = [matD n W] ∧ Web n W
def R_balance_of : List PyData → PyData → Prop := fun ds d => ∃ n W, ds = [matD n W] ∧ Web n W ∧ ((Bal n W ∧ ∃ L, Lot n L ∧ IsCamp n W L ∧ d = .tuple [natD L, .none]) ∨ (¬ Bal n W ∧ ∃ es, d = .tuple [.none, .tuple es]))
theorem evp_walked {σ : L2.St} {F H : Hp} {te : TE} {E0 : XK} {n : Nat} {W : Nat → Nat → Int} (ww : Web n W) (h : EvD K te σ F H (matD n W)) :
    EvP (tCall (sp_walked K) [] E0 (tCons te tNil)) σ F H (fun v F2 _ => ∃ sd pr cmp dep, Wkd n W sd pr cmp dep ∧ Dp K F2 v (.tuple [.list (sidesD n sd), .list (parsD n pr)])) := fun F1 H1 a b c Q q => by
  refine h F1 H1 a b c (fun v H2 => sp_walked K ([v] ++ []) H2 Q E0) fun v F2 H2 g2 p2 => ?_
  exact ⟨F2, n, W, v, g2.fh, rfl, p2, ww, fun v F3 H3 sd pr cmp dep hk g3 p3 => q v F3 H3 (g2.trans g3) ⟨sd, pr, cmp, dep, hk, p3⟩⟩
theorem evp_ring_through {σ : L2.St} {F H : Hp} {tp tx ty : TE} {E0 : XK} {n : Nat} {pr : Nat → Option Nat} {cmp dep : Nat → Nat} {x y : Nat} (up : Up n pr cmp dep) (hx : x < n) (hy : y < n) (hxy : x ≠ y) (hc : cmp x = cmp y) (h1 : EvD K tp σ F H (.list (parsD n pr))) (h2 : EvD K tx σ F H (.int (x : Nat))) (h3 : EvD K ty σ F H (.int (y : Nat))) :
    EvP (tCall (sp_ring_through K) [] E0 (tCons tp (tCons tx (tCons ty tNil)))) σ F H (fun v F2 _ => ∃ ds, Dp K F2 v (.tuple ds)) := fun F1 H1 a b c Q q => by
  refine eva_cons h1 (eva_cons h2 (eva_one h3)) F1 H1 a b c (fun vs H3 => sp_ring_through K (vs ++ []) H3 Q E0) fun vs F2 H2 g2 p2 => ?_
  obtain ⟨v1, v2, v3, rfl, k1, k2, k3⟩ := DpAll.three_inv p2
  obtain rfl := k2.int_inv
  obtain rfl := k3.int_inv
  exact ⟨F2, n, pr, cmp, dep, x, y, v1, g2.fh, rfl, k1, up, hx, hy, hxy, hc, fun v F3 H3 ds g3 p3 => q v F3 H3 (g2.trans g3) ⟨ds, p3⟩⟩
theorem sc_balance_of : FnScope ["web", "sides", "parents", "x", "y", "place", "side"] ["web"] (defScope (topS 38)) := ⟨rfl, rfl, rfl, by decide +kernel, rfl, by decide +kernel, by decide +kernel⟩
theorem c_balance_of (T : Txt K mg) : Cal P w K mg base CX0 3 "balance_of" ["web"] (spS K PreW R_balance_of) := by
  have c_walked := c_walked (P := P) (w := w) (base := base) T
  have c_ties_of := c_ties_of (P := P) (w := w) (base := base) T
  have c_ring_through := c_ring_through (P := P) (w := w) (base := base) T
  refine T.d_balance_of.cal sc_balance_of (spS_len fun ds ⟨n, W, e, _⟩ => by rw [e]; rfl) (fun f cdv A outer s H vs Q E hr ⟨F, ds, z, ha, pre, q⟩ => ?_)
  have nd := sc_balance_of.nd
  obtain ⟨n, W, rfl, ww⟩ := pre
  obtain ⟨v1, rfl, h1⟩ := DpAll.one_inv ha
  refine ⟨_, (pss_cons (ps_asg (pe_cal c_walked hr (by decide) pass0 (pa_cons (pv 0) pa_nil)) (kPgT (n := 2) K rfl (pgs_cons (pg_name (i := 1) nd rfl (Or.inl rfl)) (pgs_cons (pg_name (i := 2) nd rfl (Or.inl rfl)) pgs_nil))))
      (pss_cons (ps_for PassesOwn.never rfl (kLst K (pe_cal c_ties_of hr (by decide) pass0 (pa_cons (pv 0) pa_nil))) (kPgT (n := 2) K rfl (pgs_cons (pg_name (i := 3) nd rfl (Or.inl rfl)) (pgs_cons (pg_name (i := 4) nd rfl (Or.inl rfl)) pgs_nil))) (pss_one (ps_if (pt_cmpR op_ne (pe_op op_mul (pe_ix (kIxL K) (pv 1) (pv 3) (fun _ _ => rfl)) (pe_ix (kIxL K) (pv 1) (pv 4) (fun _ _ => rfl))) (pe_ix (kIxT K) (pe_ix (kIxT K) (pv 0) (pv 3) (fun _ _ => rfl)) (pv 4) (fun _ _ => rfl)) (nomark _)) (pss_one (ps_ret (pe_tup (pa_cons pe_non (pa_cons (pe_cal c_ring_through hr (by decide) pass0 (pa_cons (pv 2) (pa_cons (pv 3) (pa_cons (pv 4) pa_nil)))) pa_nil))))) pss_nil)))
      (pss_one (ps_ret (pe_tup (pa_cons (q_tuple K T.tuple_n (pe_lc (own := [("place", 5), ("side", 6)]) rfl nd (kEnL K T.enumerate_n (pv 1)) (blkOk_by (by kernel_rfl)) (fun _ _ _ _ _ => (kPgT (n := 2) K rfl (pgs_cons (pg_name (i := 5) nd rfl (Or.inl rfl)) (pgs_cons (pg_name (i := 6) nd rfl (Or.inl rfl)) pgs_nil)))) (fun _ _ _ _ _ => (pts_one (pt_cmpR op_eq (pv 6) pe_int (nomark _)))) (fun _ _ _ _ _ => (pv 5)))) (pa_cons pe_non pa_nil))))))), ?_⟩
  have hn10 := ww.hi
  refine st_seq (evp_walked (K := K) ww (evd_var rfl h1) F H (Same.refl _) (Same.refl _) z _ fun v F1 H1 g1 ⟨sd, pr, cmp, dep, wk, p1⟩ => ?_)
  refine tgd_two (K := K) (F := F1) (H := H1) F1 H1 v (Same.refl _) (Same.refl _) g1.fh p1 _ fun σ2 ⟨vs, vp, e, hs, hp⟩ => ?_
  subst e
  have cm : ∀ a b, a < n → CMul a (sd b) ∨ True := fun _ _ _ => .inr trivial
  have sdv : ∀ v, v < n → sd v = 1 ∨ sd v = -1 := fun v hv => (wk.wi.sg v hv).resolve_left (wk.all v hv)
  have sdAt : ∀ {F4 H4 : Hp} {k : Nat} {tk : TE} {σ : L2.St}, Same F1 F4 → k < n → σ[1]? = some (some vs) → EvD K tk σ F4 H4 (.int (k : Nat)) → EvD K (tOp (rIxL K) (tVar 1) tk) σ F4 H4 (.int (sd k)) := fun f hk hσ h => evd_ixL (evd_var hσ (hs.up f)) h (at_rng hk)
  dsimp only
  refine st_seq (st_forP (K := K) (g := fun i => (((tiesL n W).getD i (0, 0)).1 : Nat)) (g1 := fun i => (((tiesL n W).getD i (0, 0)).2 : Nat)) (n := (tiesL n W).length) (fun i σ' F' H' => ∃ u3 u4, σ' = [some v1, some vs, some vp, u3, u4, none, none] ∧ Gr F H F' H' ∧ Same F1 F' ∧ ∀ k, k < i → sd ((tiesL n W).getD k (0, 0)).1 * sd ((tiesL n W).getD k (0, 0)).2 = W ((tiesL n W).getD k (0, 0)).1 ((tiesL n W).getD k (0, 0)).2) g1.fh
    (iwd_pairs (evd_call (eva_one (evd_var rfl (h1.up g1.f))) ⟨n, W, by omega, rfl, rfl⟩)) (fun F2 H2 g2 => ⟨_, _, rfl, g1.trans g2, g2.f, fun k h => absurd h (Nat.not_lt_zero _)⟩) ?_ ?_)
  · rintro i σ' F' H' F'' H'' N hi f' z' ⟨u3, u4, rfl, gg, fs, hok⟩ g' hN
    have tt := ties_at hi
    generalize hx : ((tiesL n W).getD i (0, 0)).1 = x at tt
    generalize hy : ((tiesL n W).getD i (0, 0)).2 = y at tt
    obtain ⟨hxy, hyn, hw⟩ := tt
    have hxn : x < n := by omega
    have gA := gg.trans g'
    have fA := fs.trans g'.f
    have cm : CMul (sd x) (sd y) := .inr (by rcases sdv y hyn with e | e <;> rw [e] <;> decide)
    refine st_if g'.fh (b := !decide (sd x * sd y = W x y)) (evt_test (evd_neI (evd_opC (g := fun a b => a * b) (sdAt fA hxn rfl (evd_vari rfl)) (sdAt fA hyn rfl (evd_vari rfl)) cm) (evd_cell (evd_var rfl (h1.up gA.f)) (evd_vari rfl) (evd_vari rfl) hxn hyn))) (fun hb F2 H2 g2 => ?_) fun hb F2 H2 g2 => ?_
    · have hne : sd x * sd y ≠ W x y := by simpa using hb
      have nb : ¬ Bal n W := fun b => hne (wk.wi.agree wk.all b hxn hyn hw)
      have hc := (wk.wi.cl x y hxn hyn (wk.all x hxn) (fun z => z) hw).2
      refine st_ret (P := fun v F3 _ => ∃ es, Dp K F3 v (.tuple [.none, .tuple es])) g2.fh ?_ fun v F3 H3 g3 ⟨es, p3⟩ => q v F3 H3 _ ⟨n, W, rfl, ww, .inr ⟨nb, es, rfl⟩⟩ ((gA.trans g2).trans g3) p3
      intro F3 H3 a3 b3 z3 Q3 q3
      refine evp_ring_through (K := K) (wk.up (by omega)) hxn hyn (by omega) hc.symm (evd_var rfl (hp.up (fA.trans (g2.f.trans a3)))) (evd_vari rfl) (evd_vari rfl) F3 H3 (Same.refl _) (Same.refl _) z3 (fun u H4 => tNil _ H4 fun xs H5 => (fun vs H6 => vs.length ≤ sizeLine ∧ ∀ p, H6 p = none → Q3 (.ref p) (upd H6 p (.tup vs))) (V.non :: u :: xs) H5) fun u F4 H4 g4 ⟨es, p4⟩ => ?_
      refine ⟨show 2 ≤ sizeLine by decide, fun p hp => q3 _ (upd F4 p (.tup [.non, u])) _ (g4.trans (.new g4.fh hp)) ⟨es, .tup (SqT.of upd_same) (.cons .non (.one (p4.up (same_upd (g4.fh.free hp)))))⟩⟩
    · refine hN _ F2 H2 g2.f g2.fh ⟨_, _, rfl, gA.trans g2, fA.trans g2.f, fun k hk => ?_⟩
      rcases Nat.lt_succ_iff_lt_or_eq.mp hk with h | h
      · exact hok k h
      · subst h
        rw [hx, hy]
        simpa using hb
  · rintro σ' F' H' f' z' ⟨u3, u4, rfl, gg, fs, hok⟩
    have agree : ∀ x y, x < y → y < n → W x y ≠ 0 → sd x * sd y = W x y := fun x y hxy hyn hw => by
      obtain ⟨k, hk, e⟩ := List.mem_iff_getElem.mp (mem_ties.mpr ⟨hxy, hyn, hw⟩)
      have h := hok k hk
      rw [List.getD_eq_getElem?_getD, List.getElem?_eq_getElem hk] at h
      simp only [Option.getD_some, e] at h
      exact h
    have hbal : Bal n W := ⟨sd, sdv, fun x y hx hy hw => by
      rcases Nat.lt_trichotomy x y with h | h | h
      · exact agree x y h hy hw
      · subst h; exact (hw (ww.dia x hx)).elim
      · rw [ww.sym x y hx hy] at hw ⊢
        rw [Int.mul_comm]
        exact agree y x h hx hw⟩
    refine st_ret z' (evd_tup (K := K) (eva_cons (evd_tupL (evd_lcP (g := fun k => (k : Nat)) (g1 := fun k => sd k) (fun k => decide (sd k = 1)) (fun k => .int (k : Nat)) ((iwd_enumL (ds := sidesD n sd) (evd_var rfl (hs.up fs))).congr fun k hk => ?_) (by rw [len_rng]; omega) (fun k F2 H2 hk f2 h2 z2 => evt_test (K := K) (evd_eqI (evd_vari rfl) evd_i)) fun k F2 H2 hk _ f2 h2 z2 => evd_vari rfl)) (eva_one evd_n)) (by simp)) fun v F2 H2 g2 p2 => ?_
    · rw [len_rng] at hk
      rw [getD_rng hk]
    · rw [len_rng] at p2
      have e : PyData.tuple (picks n (fun k => decide (sd k = 1)) fun k => .int (k : Nat)) = natD ((List.range n).filter fun k => decide (sd k = 1)) := by
        unfold picks natD lotD
        rw [List.map_map]
        rfl
      rw [e] at p2
      refine q v F2 H2 _ ⟨n, W, rfl, ww, .inl ⟨hbal, _, lot_filter _ _, fun x y hxy hyn hw => ?_, rfl⟩⟩ (gg.trans g2) p2
      have h := agree x y hxy hyn hw
      have hx : x < n := by omega
      have m1 : (x ∈ (List.range n).filter fun k => decide (sd k = 1)) ↔ sd x = 1 := by simp [List.mem_filter, hx]
      have m2 : (y ∈ (List.range n).filter fun k => decide (sd k = 1)) ↔ sd y = 1 := by simp [List.mem_filter, hyn]
      rw [← h]
      rcases sdv x hx with e1 | e1 <;> rcases sdv y hyn with e2 | e2 <;> simp [m1, m2, e1, e2]
/-! ### some_bad_ring, camp_of, is_balanced -/
def R_some_bad_ring : List PyData → PyData → Prop := fun ds d => ∃ n W, ds = [matD n W] ∧ Web n W ∧ ((Bal n W ∧ d = .none) ∨ (¬ Bal n W ∧ ∃ es, d = .tuple es))
theorem sc_some_bad_ring : FnScope ["web"] ["web"] (defScope (topS 39)) := ⟨rfl, rfl, rfl, by decide +kernel, rfl, by decide +kernel, by decide +kernel⟩
theorem c_some_bad_ring (T : Txt K mg) : Cal P w K mg base CX0 4 "some_bad_ring" ["web"] (spS K PreW R_some_bad_ring) := by
  have c_balance_of := c_balance_of (P := P) (w := w) (base := base) T
  refine T.d_some_bad_ring.cal sc_some_bad_ring (spS_len fun ds ⟨n, W, e, _⟩ => by rw [e]; rfl) (fun f cdv A outer s H vs Q E hr ⟨F, ds, z, ha, pre, q⟩ => ?_)
  have pre' := pre
  obtain ⟨n, W, rfl, ww⟩ := pre'
  obtain ⟨v1, rfl, h1⟩ := DpAll.one_inv ha
  refine ⟨_, (pss_one (ps_ret (pe_ix (kIxT K) (pe_cal c_balance_of hr (by decide) pass0 (pa_cons (pv 0) pa_nil)) pe_int (fun _ _ => rfl)))), ?_⟩
  refine st_ret (P := fun v F3 _ => ∃ d, R_some_bad_ring [matD n W] d ∧ Dp K F3 v d) z (fun F1 H1 a b c Q' q' => evp_callS (K := K) (eva_one (evd_var rfl h1)) pre F1 H1 a b c _ fun v F2 H2 g2 ⟨d, hd, p2⟩ => ?_) fun v F3 H3 g3 ⟨d, hd, p3⟩ => q v F3 H3 d hd g3 p3
  have fin : ∀ {d2 d1 : PyData}, Dp K F2 v (.tuple [d1, d2]) → R_some_bad_ring [matD n W] d2 → tC (.int 1) (L2.start ["web"] [v1]) H2 (fun y H3 => rIxT K v y H3 Q') := fun p2 hR => by
    obtain ⟨a, xs, rfl, hs, hx⟩ := p2.tup_inv
    obtain ⟨u1, u2, rfl, k1, k2⟩ := DpAll.two_inv hx
    exact ⟨a, _, 1, u2, rfl, rfl, sqT_mono g2.fh hs, rfl, q' u2 F2 H2 g2 ⟨_, hR, k2⟩⟩
  obtain ⟨n', W', e, _, h⟩ := hd
  injection e with e _
  obtain ⟨rfl, hWW⟩ := mat_inj e
  rcases h with ⟨hb, L, _, _, rfl⟩ | ⟨hb, es, rfl⟩
  · exact fin p2 ⟨n, W, rfl, ww, .inl ⟨(bal_congr hWW).mpr hb, rfl⟩⟩
  · exact fin p2 ⟨n, W, rfl, ww, .inr ⟨fun h => hb ((bal_congr hWW).mp h), es, rfl⟩⟩
end
end Sg
set_option maxRecDepth 100000
set_option maxHeartbeats 4000000
/-! G13: camp_of, is_balanced, is_camp_of, is_camp. -/
namespace Sg
open PySem PySem.Spec L2 Dv
section
variable {P : Program} {w : World} {K : PySem.W.Frag} {mg : Str → Option Value} {base : Heap} {SE IW IT NB TM fI : Addr} {fd : FuncData}
def PreB : List PyData → Prop := fun ds => ∃ n W, ds = [matD n W] ∧ Web n W ∧ Bal n W
def R_camp_of : List PyData → PyData → Prop := fun ds d => ∃ n W L, ds = [matD n W] ∧ Web n W ∧ Lot n L ∧ IsCamp n W L ∧ d = natD L
theorem sc_camp_of : FnScope ["web", "lot", "ring"] ["web"] (defScope (topS 40)) := ⟨rfl, rfl, rfl, by decide +kernel, rfl, by decide +kernel, by decide +kernel⟩
theorem c_camp_of (T : Txt K mg) : Cal P w K mg base CX0 4 "camp_of" ["web"] (spS K PreB R_camp_of) := by
  have c_balance_of := c_balance_of (P := P) (w := w) (base := base) T
  refine T.d_camp_of.cal sc_camp_of (spS_len fun ds ⟨n, W, e, _⟩ => by rw [e]; rfl) (fun f cdv A outer s H vs Q E hr ⟨F, ds, z, ha, pre, q⟩ => ?_)
  have nd := sc_camp_of.nd
  obtain ⟨n, W, rfl, ww, bal⟩ := pre
  obtain ⟨v1, rfl, h1⟩ := DpAll.one_inv ha
  refine ⟨_, (pss_cons (ps_asg (pe_cal c_balance_of hr (by decide) pass0 (pa_cons (pv 0) pa_nil)) (kPgT (n := 2) K rfl (pgs_cons (pg_name (i := 1) nd rfl (Or.inl rfl)) (pgs_cons (pg_name (i := 2) nd rfl (Or.inl rfl)) pgs_nil))))
      (pss_cons (ps_if (pt_cmpR op_notN (pv 2) pe_non (nomark _)) (pss_one ps_never) pss_nil)
      (pss_one (ps_ret (pv 1))))), ?_⟩
  refine st_seq (evp_callS (K := K) (eva_one (evd_var rfl h1)) ⟨n, W, rfl, ww⟩ F H (Same.refl _) (Same.refl _) z _ fun v F1 H1 g1 ⟨d, hd, p1⟩ => ?_)
  obtain ⟨n', W', e, ww', h⟩ := hd
  injection e with e _
  obtain ⟨rfl, hWW⟩ := mat_inj e
  obtain ⟨_, L, lot, camp, rfl⟩ := h.resolve_right fun h => h.1 ((bal_congr hWW).mp bal)
  refine tgd_two (K := K) (F := F1) (H := H1) F1 H1 v (Same.refl _) (Same.refl _) g1.fh p1 _ fun σ2 ⟨vl, vr, e, hl, hv⟩ => ?_
  obtain rfl := hv.non_inv
  subst e
  refine st_seq (st_if g1.fh (b := false) (evt_test (evd_notN (d := .none) (evd_var (K := K) rfl .non) rfl)) (fun h => by cases h) fun _ F2 H2 g2 => ?_)
  exact st_ret g2.fh (evd_var (K := K) (d := natD L) rfl (hl.up g2.f)) fun v3 F3 H3 g3 p3 => q v3 F3 H3 _ ⟨n, W, L, rfl, ww, lot, camp_congr (fun x y hx hy => (hWW x y hx hy).symm) camp, rfl⟩ ((g1.trans g2).trans g3) p3
def R_is_balanced : List PyData → PyData → Prop := fun ds d => ∃ n W b, ds = [matD n W] ∧ Web n W ∧ (b = true ↔ Bal n W) ∧ d = .bool b
theorem sc_is_balanced : FnScope ["web"] ["web"] (defScope (topS 41)) := ⟨rfl, rfl, rfl, by decide +kernel, rfl, by decide +kernel, by decide +kernel⟩
theorem c_is_balanced (T : Txt K mg) (Er : Errs P K mg SE IW IT NB TM fI fd) : Cal P w K mg base CX0 6 "is_balanced" ["web"] (spD K R_is_balanced) := by
  have c_check_web := (c_check_web (P := P) (w := w) (base := base) T Er).noX
  have c_some_bad_ring := c_some_bad_ring (P := P) (w := w) (base := base) T
  refine T.d_is_balanced.calD sc_is_balanced (fun ds d ⟨n, W, b, e, _⟩ => by rw [e]; rfl) (fun f cdv A outer s F H vs ds d Q E hr z ha r q => ?_)
  have nd := sc_is_balanced.nd
  obtain ⟨n, W, b, rfl, ww, hb, rfl⟩ := r
  obtain ⟨v1, rfl, h1⟩ := DpAll.one_inv ha
  refine ⟨_, (pss_cons (ps_expr (pe_cal c_check_web hr (by decide) pass0 (pa_cons (pv 0) pa_nil)))
      (pss_one (ps_ret (pe_cmpR op_isN (pe_cal c_some_bad_ring hr (by decide) pass0 (pa_cons (pv 0) pa_nil)) pe_non (nomark _))))), ?_⟩
  refine st_seq (st_drop z (evp_callE0 (K := K) (eva_one (evd_var rfl h1)) ⟨_, rfl⟩ (fun cls d F' H' h => by obtain ⟨a, e, nw, _⟩ := h; injection e with e _; exact nw (by rw [← e]; exact isWeb_mat.mpr ww))) fun _ F1 H1 g1 _ => ?_)
  dsimp only
  refine st_ret (P := fun v F3 _ => Dp K F3 v (.bool b)) g1.fh (fun F2 H2 a2 b2 z2 Q2 q2 => ?_) fun v F2 H2 g2 p2 => ?_
  rotate_left
  · exact q v F2 H2 (g1.trans g2) p2
  refine evp_callS (K := K) (eva_one (evd_var rfl (h1.up g1.f))) ⟨n, W, rfl, ww⟩ F2 H2 a2 b2 z2 _ fun v F3 H3 g3 ⟨d, hd, p3⟩ => ?_
  refine ⟨rfl, q2 _ F3 H3 g3 ?_⟩
  obtain ⟨n', W', e, _, h⟩ := hd
  injection e with e _
  obtain ⟨rfl, hWW⟩ := mat_inj e
  rcases h with ⟨hb', rfl⟩ | ⟨hb', es, rfl⟩
  · obtain rfl := p3.non_inv
    rw [hb.mpr ((bal_congr hWW).mpr hb')]
    exact .bl _
  · obtain ⟨a, xs, rfl, _⟩ := p3.tup_inv
    have e : b = false := by
      cases b with
      | false => rfl
      | true => exact (hb' ((bal_congr hWW).mp (hb.mp rfl))).elim
    rw [e]
    exact .bl _
def R_is_camp_of : List PyData → PyData → Prop := fun ds d => ∃ n W L, ds = [matD n W, natD L] ∧ n ≤ 10 ∧ IsCamp n W L ∧ d = .bool true
theorem sc_is_camp_of : FnScope ["web", "lot", "x", "y"] ["web", "lot"] (defScope (topS 42)) := ⟨rfl, rfl, rfl, by decide +kernel, rfl, by decide +kernel, by decide +kernel⟩
theorem c_is_camp_of (T : Txt K mg) : Cal P w K mg base CX0 2 "is_camp_of" ["web", "lot"] (spD K R_is_camp_of) := by
  have c_ties_of := c_ties_of (P := P) (w := w) (base := base) T
  refine T.d_is_camp_of.calD sc_is_camp_of (fun ds d ⟨n, W, L, e, _⟩ => by rw [e]; rfl) (fun f cdv A outer s F H vs ds d Q E hr z ha r q => ?_)
  have nd := sc_is_camp_of.nd
  obtain ⟨n, W, L, rfl, hn, camp, rfl⟩ := r
  obtain ⟨v1, v2, rfl, h1, h2⟩ := DpAll.two_inv ha
  refine ⟨_, (pss_one (ps_ret (q_all K rfl T.all_n (pe_lc (own := [("x", 2), ("y", 3)]) rfl nd (kLst K (pe_cal c_ties_of hr (by decide) pass0 (pa_cons (pv 0) pa_nil))) (blkOk_by (by kernel_rfl)) (fun _ _ _ _ _ => (kPgT (n := 2) K rfl (pgs_cons (pg_name (i := 2) nd rfl (Or.inl rfl)) (pgs_cons (pg_name (i := 3) nd rfl (Or.inl rfl)) pgs_nil)))) (fun _ _ _ _ _ => pts_nil) (fun _ _ _ _ _ => (pe_cmpR op_eq (pe_cmpR op_ne (pe_cmpR (kIn K) (pv 2) (pv 1) (by rfl)) (pe_cmpR (kIn K) (pv 3) (pv 1) (by rfl)) (nomark _)) (pe_cmpR op_eq (pe_ix (kIxT K) (pe_ix (kIxT K) (pv 0) (pv 2) (fun _ _ => rfl)) (pv 3) (fun _ _ => rfl)) (pe_un un_neg pe_int) (nomark _)) (nomark _))))))), ?_⟩
  have hl := ties_len n W
  have hl2 : n * n ≤ 10 * 10 := Nat.mul_le_mul hn hn
  refine st_ret z (evd_eq (evd_allR (f := fun k => (!(decide ((((tiesL n W).getD k (0, 0)).1 : Int) ∈ L.map fun x : Nat => (x : Int)) == decide ((((tiesL n W).getD k (0, 0)).2 : Int) ∈ L.map fun x : Nat => (x : Int)))) == decide (W ((tiesL n W).getD k (0, 0)).1 ((tiesL n W).getD k (0, 0)).2 = -1))
    (evd_lcP0 (K := K) _ (iwd_pairs (evd_call (eva_one (evd_var rfl h1)) ⟨n, W, by omega, rfl, rfl⟩)) (by omega) fun k F1 H1 hk f1 hh1 z1 => ?_)) ?_) q
  · have tt := ties_at hk
    refine evd_eqB (evd_neB (evd_inT (neg := false) (evd_vari rfl) (evd_var rfl (h2.up f1))) (evd_inT (neg := false) (evd_vari rfl) (evd_var rfl (h2.up f1)))) (evd_eqI (evd_cell (evd_var rfl (h1.up f1)) (evd_vari rfl) (evd_vari rfl) (by omega) tt.2.1) (evd_unI (g := fun a => -a) evd_i))
  · congr 1
    rw [List.all_eq_true]
    intro k hk
    have tt := ties_at (List.mem_range.mp hk)
    have c := camp _ _ tt.1 tt.2.1 tt.2.2
    simp only [nat_mem]
    rw [← c]
    simp [bne]
def R_is_camp : List PyData → PyData → Prop := fun ds d => ∃ n W L, ds = [matD n W, natD L] ∧ Web n W ∧ Lot n L ∧ IsCamp n W L ∧ d = .bool true
theorem lot_len : ∀ {L : List Nat} {k n : Nat}, L.Pairwise (· < ·) → (∀ x ∈ L, k ≤ x ∧ x < n) → L.length ≤ n - k
  | [], _, _, _, _ => by simp
  | a :: L, k, n, h, hx => by
    have ha := hx a List.mem_cons_self
    have h2 := List.pairwise_cons.mp h
    have := lot_len (k := a + 1) (n := n) h2.2 fun x hm => ⟨h2.1 x hm, (hx x (List.mem_cons_of_mem _ hm)).2⟩
    simp only [List.length_cons]
    omega
theorem Lot.len {n : Nat} {L : List Nat} (h : Lot n L) : L.length ≤ n := by have := lot_len (k := 0) h.1 fun x hx => ⟨Nat.zero_le _, h.2 x hx⟩; omega
theorem lot_at {n : Nat} {L : List Nat} (h : Lot n L) (hn : n ≤ 1000) : R_is_lot_of [.int (n : Nat), natD L] (.bool true) := by
  have hlen := h.len
  refine ⟨n, _, rfl, rfl, by rw [List.length_map]; omega, fun x hx => ?_, fun k hk => ?_⟩
  · obtain ⟨y, hy, rfl⟩ := List.mem_map.mp hx
    have := h.2 y hy
    omega
  · rw [List.length_map] at hk
    rw [natD_at (by omega), natD_at (by omega)]
    have := List.pairwise_iff_getElem.mp h.1 k (k + 1) (by omega) hk (by omega)
    rw [List.getD_eq_getElem?_getD, List.getElem?_eq_getElem (by omega), List.getD_eq_getElem?_getD, List.getElem?_eq_getElem hk]
    simp only [Option.getD_some]
    omega
theorem sc_is_camp : FnScope ["web", "lot"] ["web", "lot"] (defScope (topS 43)) := ⟨rfl, rfl, rfl, by decide +kernel, rfl, by decide +kernel, by decide +kernel⟩
theorem c_is_camp (T : Txt K mg) (Er : Errs P K mg SE IW IT NB TM fI fd) : Cal P w K mg base CX0 6 "is_camp" ["web", "lot"] (spD K R_is_camp) := by
  have c_check_web := (c_check_web (P := P) (w := w) (base := base) T Er).noX
  have c_check_lot := c_check_lot (P := P) (w := w) (base := base) T
  have c_is_camp_of := c_is_camp_of (P := P) (w := w) (base := base) T
  refine T.d_is_camp.calD sc_is_camp (fun ds d ⟨n, W, L, e, _⟩ => by rw [e]; rfl) (fun f cdv A outer s F H vs ds d Q E hr z ha r q => ?_)
  have nd := sc_is_camp.nd
  obtain ⟨n, W, L, rfl, ww, lot, camp, rfl⟩ := r
  obtain ⟨v1, v2, rfl, h1, h2⟩ := DpAll.two_inv ha
  refine ⟨_, (pss_cons (ps_expr (pe_cal c_check_web hr (by decide) pass0 (pa_cons (pv 0) pa_nil)))
      (pss_cons (ps_expr (pe_cal c_check_lot hr (by decide) pass0 (pa_cons (q_len K T.len_n (pv 0)) (pa_cons (pv 1) pa_nil))))
      (pss_one (ps_ret (pe_cal c_is_camp_of hr (by decide) pass0 (pa_cons (pv 0) (pa_cons (pv 1) pa_nil))))))), ?_⟩
  refine st_seq (st_drop z (evp_callE0 (K := K) (eva_one (evd_var rfl h1)) ⟨_, rfl⟩ (fun cls d F' H' h => by obtain ⟨a, e, nw, _⟩ := h; injection e with e _; exact nw (by rw [← e]; exact isWeb_mat.mpr ww))) fun _ F1 H1 g1 _ => ?_)
  refine st_seq (st_drop g1.fh (evd_call (K := K) (R := R_check_lot) (eva_cons (evd_lenR (evd_var rfl (h1.up g1.f))) (eva_one (evd_var rfl (h2.up g1.f)))) ⟨rfl, lot_at lot (by have := ww.hi; omega)⟩) fun _ F2 H2 g2 _ => ?_)
  have gA := g1.trans g2
  exact st_ret g2.fh (evd_call (K := K) (eva_cons (evd_var rfl (h1.up gA.f)) (eva_one (evd_var rfl (h2.up gA.f)))) ⟨n, W, L, rfl, ww.hi, camp, rfl⟩) fun v3 F3 H3 g3 p3 => q v3 F3 H3 (gA.trans g3) p3
end
end Sg
set_option maxRecDepth 100000
set_option maxHeartbeats 1000000
/-! Ext8: sorted(t), t a tuple of ints. -/
namespace Ext8
open PySem PySem.Spec PySem.Calls PyProof.Rows L2
section
variable {X : Cx}
def rSortT (K : PySem.W.Frag) : List V → Hp → VK → Prop := fun vs H Q => ∃ (a : Addr) (ns : List Int), vs = [V.ref a] ∧ SqT K H a (ns.map V.int) ∧ ns.length < 64 ∧
  ∀ (ns' : List Int) (p : Addr), ns'.Perm ns → ns'.Pairwise (· ≤ ·) → H p = none → Q (.ref p) (upd H p (.lst (ns'.map V.int)))
theorem cr_sortT : CallR X (.builtin "sorted") (rSortT X.K) := by
  intro pins s σ H vs us Q I r h
  obtain ⟨a, ns, rfl, hs, h64, q⟩ := h
  obtain ⟨its, rv, ⟨o, ho, hc, n, hd⟩, hz⟩ := I.tuple hs
  rw [Vals.ref1 r]
  have hi := rv.ints
  have hl := rv.length
  refine Calls.call_function_entry kind_sorted plain_sorted entry_sorted (args_sorted1 _) ?_
  unfold Builtin.«sorted»
  refine wpAny_bind (m := checkCount "sorted" 1 1 _) (wpAny_pure ?_)
  refine wpAny_bind (wpAny_collect_seq a (.inr rfl) ho hc hd (fun h' hk => ?_) (by rw [List.size_toArray]; omega))
  have e : its.toArray.toList = its := by simp
  rw [e]
  refine wpAny_bind (wpAny_newList ?_ (by omega))
  have hoL : (h'.push (seqObj "list" its.toArray 0)).get? h'.objs.size = some (seqObj "list" its.toArray 0) := Heap.get?_push_size _ rfl
  show wpAny _ _ _ _ _ { s with heap := h'.push (seqObj "list" its.toArray 0) }
  refine wpAny_bind (wpAny_holding (wpAny_call_entry slot_list_sort ⟨_, hoL, rfl⟩ entry_list_sort (list_sort_tree hoL hi (by rw [List.length_map] at hl; omega) fun out ns' h1 h2 h3 => ⟨_, rfl, ?_⟩) (args_list_sort _)))
  obtain ⟨ep, he'⟩ := sortedHeap_at (out := out) hoL
  have hlen : (ns'.map V.int).length ≤ sizeLine := by rw [List.length_map, h2.length_eq]; exact small64 h64
  have old : ∀ b u, h'.get? b = some u → (sortedHeap (h'.push (seqObj "list" its.toArray 0)) h'.objs.size its out).get? b = some u := fun b u hb => by
    have hlt := Heap.lt_size hb
    rw [sortedHeap_old (Nat.ne_of_lt hlt) (by rw [size_push']; exact Nat.lt_succ_of_lt hlt)]
    exact Heap.get?_push_of_some _ hb
  have I2 := I.kept (t' := s.toks) hk
  refine wpAny_pure ⟨_, rfl, ?_⟩
  exact ⟨.ref _, upd H h'.objs.size (.lst (ns'.map V.int)), I2.laid (t' := s.toks) old (Nat.le_refl _) ⟨hlen, out.toList, ep, vals_of_ints h1, he'⟩, rfl, q ns' _ h2 h3 (I2.hok.fresh (Nat.le_refl _))⟩
end
end Ext8
set_option maxRecDepth 100000
set_option maxHeartbeats 4000000
/-! Dv11: comprehensions as own lists, i += 1, sorted of tuples and lists of ints, an own list read as data. -/
namespace Dv
open PySem PySem.Spec L2
section
variable {K : PySem.W.Frag} {σ : St} {F F' H H' H0 F0 H2 F2 : Hp} {te ta tb : TE} {tt : TT} {i j : Int} {p q : Addr} {v : V} {ds es : List PyData} {D : Ends}
theorem evp_lcO {wi : TI} {g : TG} {n : Nat} {item : Nat → PyData} {vs : List Nat} {P : Nat → St → Hp → Prop} (p : Nat → Bool) (f : Nat → PyData) (hi : IwD K wi σ F H n item) (hn : n ≤ 50000)
    (hg : ∀ i F1 H1, i < n → Same F F1 → Same H H1 → TgD K g (wipe σ vs) F1 H1 (item i) (P i)) (hw : ∀ i σ2 F1, P i σ2 F1 → wipe σ2 vs = wipe σ vs)
    (ht : ∀ i σ2 F1 H1, i < n → Same F F1 → Same H H1 → Same F1 H1 → P i σ2 F1 → EvT tt σ2 F1 H1 (p i))
    (he : ∀ i σ2 F1 H1, i < n → p i = true → Same F F1 → Same H H1 → Same F1 H1 → P i σ2 F1 → EvD K te σ2 F1 H1 (f i)) : EvP (tLc wi g tt te vs) σ F H (OwnL K (picks n p f)) :=
  fun F1 H1 x y z Q q => hi F1 H1 x y z _ fun J F2 H2 g2 go stop yld D hD => by
    refine ⟨fun i m Hc => m = n - i ∧ i ≤ n ∧ ∃ Fc xs, Gr F2 H2 Fc Hc ∧ Fc D = none ∧ Hc D = some (.lst xs) ∧ DpAll K Fc xs (picks i p f), ⟨n, rfl, Nat.zero_le _, F2, [], .own g2.fh hD, g2.fh.free hD, upd_same, .nil⟩, ?_⟩
    rintro i m Hc ⟨rfl, hin, Fc, xs, gc, nD, eD, hx⟩
    by_cases hlt : i < n
    · refine .inr ⟨go i Fc Hc gc.f gc.fh hlt, fun H' => i + 1 ≤ n ∧ ∃ Fc xs, Gr F2 H2 Fc H' ∧ Fc D = none ∧ H' D = some (.lst xs) ∧ DpAll K Fc xs (picks (i + 1) p f), fun H' h => ⟨n - (i + 1), by omega, rfl, h.1, h.2⟩, fun u H' hy => ?_⟩
      obtain ⟨F3, g3, hu⟩ := yld i Fc Hc u H' gc.f gc.fh hlt hy
      have s3 : Same F F3 := (x.trans g2.f).trans (gc.f.trans g3.f)
      have t3 : Same H H' := (y.trans g2.h).trans (gc.h.trans g3.h)
      refine hg i F3 H' hlt s3 t3 F3 H' u (Same.refl _) (Same.refl _) g3.fh hu _ fun σ2 hP => ⟨hw i σ2 F3 hP, ?_⟩
      refine ht i σ2 F3 H' hlt s3 t3 g3.fh hP F3 H' (Same.refl _) (Same.refl _) g3.fh _ fun F4 H4 g4 => ?_
      have e4 : H4 D = some (.lst xs) := g4.h _ _ (g3.h _ _ eD)
      have n4 : F4 D = none := (g3.trans g4).out eD nD
      have x4 : DpAll K F4 xs (picks i p f) := hx.up (g3.trans g4).f
      cases hp : p i with
      | true =>
        refine he i σ2 F3 H' hlt hp s3 t3 g3.fh hP F4 H4 g4.f g4.h g4.fh _ fun w F5 H5 g5 hw5 => ?_
        have e5 : H5 D = some (.lst xs) := g5.h _ _ e4
        refine ⟨xs, e5, ?_, hlt, F5, xs ++ [w], ?_, g5.out e4 n4, upd_same, ?_⟩
        · have l1 := x4.len
          have l2 := picks_len i p f
          exact Nat.lt_of_le_of_lt (show xs.length ≤ 50000 by omega) (by decide)
        · have G := ((gc.trans g3).trans g4).trans g5
          have hfd : H2 D = none := hD
          exact ⟨G.f, fun b o hb => by rw [upd_ne (ne_of_none hb hfd)]; exact G.h _ _ hb, same_mut G.fh (g5.out e4 n4), G.nw⟩
        · rw [picks_yes hp]
          exact (x4.up g5.f).app (.one hw5)
      | false =>
        refine ⟨hlt, F4, xs, (gc.trans g3).trans g4, n4, e4, ?_⟩
        rw [picks_no hp]
        exact x4
    · have e : i = n := by omega
      subst e
      exact .inl ⟨stop Fc Hc gc.f gc.fh, q _ Fc Hc (g2.trans gc) ⟨D, xs, rfl, nD, eD, hx⟩⟩

theorem evp_lcIO {wi : TI} {s n : Nat} {vs : List Nat} {g : Nat → Int} (p : Nat → Bool) (f : Nat → PyData) (hi : IwD K wi σ F H n fun i => .int (g i)) (hn : n ≤ 50000)
    (ht : ∀ i F1 H1, i < n → Same F F1 → Same H H1 → Same F1 H1 → EvT tt ((wipe σ vs).set s (some (.int (g i)))) F1 H1 (p i))
    (he : ∀ i F1 H1, i < n → p i = true → Same F F1 → Same H H1 → Same F1 H1 → EvD K te ((wipe σ vs).set s (some (.int (g i)))) F1 H1 (f i)) (hs : s ∈ vs := by decide) : EvP (tLc wi (gName s) tt te vs) σ F H (OwnL K (picks n p f)) :=
  evp_lcO p f hi hn (fun _ _ _ _ _ _ => tgd_int) (by rintro _ _ _ rfl; exact wipe_set hs) (by rintro i σ2 F1 H1 h1 h2 h3 h4 rfl; exact ht i F1 H1 h1 h2 h3 h4) (by rintro i σ2 F1 H1 h1 h2 h3 h4 h5 rfl; exact he i F1 H1 h1 h2 h3 h4 h5)
theorem st_augI {n : Nat} {g : Int → Int → Int} (z : Same F H) (hn : σ[n]? = some (some (.int i))) (he : EvD K te σ F H (.int j)) (k : ∀ F1 H1, Gr F H F1 H1 → D.nx (σ.set n (some (.int (g i j)))) H1) : tAug n te (ipI g) D σ H :=
  ⟨_, hn, he F H (Same.refl _) (Same.refl _) z _ fun v F1 H1 g1 p1 => by obtain rfl := p1.int_inv; exact ⟨i, j, rfl, rfl, k F1 H1 g1⟩⟩
theorem EvV.thaw {xs : List V} (hp : H p = some (.lst xs)) (ho : F p = none) (h : EvV te σ (upd F p (.lst xs)) H v) : EvV te σ F H v := fun F1 H1 x y z Q q => by
  have h1 : H1 p = some (.lst xs) := y _ _ hp
  have hx : Same (upd F p (.lst xs)) (upd F1 p (.lst xs)) := fun b o e => by
    by_cases hb : b = p
    · subst hb; rw [upd_same] at e ⊢; exact e
    · rw [upd_ne hb] at e ⊢; exact x _ _ e
  have hz : Same (upd F1 p (.lst xs)) H1 := fun b o e => by
    by_cases hb : b = p
    · subst hb; rw [upd_same] at e; rw [h1]; exact e
    · rw [upd_ne hb] at e; exact z _ _ e
  refine h _ H1 hx y hz Q fun u F2 H2 g e => q u (fun b => if b = p then F1 p else F2 b) H2 ⟨fun b o e => ?_, g.h, fun b o e => ?_, fun b o e => ?_⟩ e
  · by_cases hb : b = p
    · simp only [hb, if_true]; rw [hb] at e; exact e
    · simp only [hb, if_false]
      exact g.f b o (by rw [upd_ne hb]; exact e)
  · by_cases hb : b = p
    · simp only [hb, if_true] at e ⊢
      exact g.h _ _ (z _ _ e)
    · simp only [hb, if_false] at e
      exact g.fh _ _ e
  · by_cases hb : b = p
    · simp only [hb, if_true] at e ⊢
      exact .inl e
    · simp only [hb, if_false] at e
      rcases g.nw b o e with h | h
      · exact .inl (by rw [upd_ne hb] at h; exact h)
      · exact .inr h
theorem Own.frz (h : Own K H0 F H p ds) : ∃ xs, H p = some (.lst xs) ∧ Dp K (upd F p (.lst xs)) (.ref p) (.list ds) := by
  obtain ⟨xs, a, b⟩ := h.at_
  exact ⟨xs, a, .lst (SqL.of upd_same) (b.up (same_upd h.out))⟩
theorem evp_sortT {ns : List Int} (h : EvD K te σ F H (.tuple (ns.map PyData.int))) (h0 : ns.length < 64) : EvP (tCB (Ext8.rSortT K) (tCons te tNil)) σ F H (fun v F2 H2 => ∃ ms : List Int, ms.Perm ns ∧ ms.Pairwise (· ≤ ·) ∧ PlnL K (ms.map PyData.int) v F2 H2 ∧ Dp K F2 v (.list (ms.map PyData.int))) :=
  fun F1 H1 x y z Q q => h F1 H1 x y z _ fun v F2 H2 g2 p2 => by
    obtain ⟨a, xs, rfl, hs, hx⟩ := p2.tup_inv
    obtain rfl := hx.ints_inv
    refine ⟨a, ns, rfl, sqT_mono g2.fh hs, h0, fun ms p hm1 hm2 hp => ?_⟩
    have hd : DpAll K (upd F2 p (.lst (ms.map V.int))) (ms.map V.int) (ms.map PyData.int) := DpAll.ints ms
    exact q _ (upd F2 p (.lst (ms.map V.int))) _ (g2.trans (.new g2.fh hp)) ⟨ms, hm1, hm2, ⟨p, _, rfl, upd_same, hd⟩, .lst (SqL.of upd_same) hd⟩
/-- the ints, sorted, once each -/
def canon (n : Nat) (L : List Nat) : List Nat := (List.range n).filter fun x => decide (x ∈ L)
theorem canon_perm {n : Nat} {L : List Nat} (nd : L.Nodup) (lt : ∀ x ∈ L, x < n) : (canon n L).Perm L :=
  (List.perm_ext_iff_of_nodup (List.Pairwise.filter _ List.nodup_range) nd).mpr fun x => by
    rw [List.mem_filter, List.mem_range, decide_eq_true_iff]
    exact ⟨fun h => h.2, fun h => ⟨lt x h, h⟩⟩
theorem canon_eq {n : Nat} {L : List Nat} {ms : List Int} (nd : L.Nodup) (lt : ∀ x ∈ L, x < n) (hp : ms.Perm (L.map fun x : Nat => (x : Int))) (hs : ms.Pairwise (· ≤ ·)) : ms = (canon n L).map fun x : Nat => (x : Int) := by
  refine List.Perm.eq_of_pairwise (le := (· ≤ ·)) (fun a b _ _ h1 h2 => Int.le_antisymm h1 h2) hs ?_ (hp.trans ((canon_perm nd lt).symm.map _))
  rw [List.pairwise_map]
  refine List.Pairwise.filter _ (List.Pairwise.imp (fun h => ?_) List.pairwise_lt_range)
  omega
theorem evd_sorted {n : Nat} {L : List Nat} (nd : L.Nodup) (lt : ∀ x ∈ L, x < n) (h : EvP te σ F H (fun v F2 H2 => ∃ ms : List Int, ms.Perm (L.map fun x : Nat => (x : Int)) ∧ ms.Pairwise (· ≤ ·) ∧ PlnL K (ms.map PyData.int) v F2 H2 ∧ Dp K F2 v (.list (ms.map PyData.int)))) :
    EvD K te σ F H (.list (((canon n L).map fun x : Nat => (x : Int)).map PyData.int)) := h.imp fun v F2 H2 ⟨ms, h1, h2, _, h4⟩ => by rw [← canon_eq nd lt h1 h2]; exact h4
end
end Dv
set_option maxRecDepth 100000
set_option maxHeartbeats 4000000
/-! G14: alike, pieces. -/
namespace Sg
open PySem PySem.Spec L2 Dv
section
variable {X : Cx} {e : Expr} {te : TE} {p pos : Pos} (K : PySem.W.Frag)
theorem q_sortIT (m : X.mg "sorted" = none) (h : PE X e te) (g : Gl X "sorted" := by rfl) (hs : starEach [e] X.env = (false, eval e X.env) :: starEach [] X.env := by rfl) (hK : X.K = K := by rfl) : PE X (.Call (.Name "sorted" p) [e] [] pos) (tCB (Ext8.rSortT K) (tCons te tNil)) := by
  subst hK
  exact pe_callB Ext8.cr_sortT g m bt_sorted (pa_cons h pa_nil hs) (he := hs)
end
/-! ### shapes of data -/
def Shp (k : Nat) (d : PyData) : Prop := d.canLay0 = true ∧ d.depth ≤ k
theorem Shp.int {k : Nat} {i : Int} : Shp k (.int i) := ⟨by simp [PyData.canLay0], by simp [PyData.depth]⟩
theorem shp_all {k : Nat} : ∀ {ds : List PyData}, (∀ d ∈ ds, Shp k d) → PyData.canLayAll0 ds = true ∧ PyData.depthAll ds ≤ k
  | [], _ => ⟨by simp [PyData.canLayAll0], by simp [PyData.depthAll]⟩
  | d :: ds, h => by
    have h1 := h d List.mem_cons_self
    have h2 := shp_all (ds := ds) fun e he => h e (List.mem_cons_of_mem _ he)
    exact ⟨by simp [PyData.canLayAll0, h1.1, h2.1], by have a := h1.2; have b := h2.2; simp only [PyData.depthAll]; omega⟩
theorem Shp.tup {k : Nat} {ds : List PyData} (h : ∀ d ∈ ds, Shp k d) : Shp (k + 1) (.tuple ds) := ⟨by simpa [PyData.canLay0] using (shp_all h).1, by have := (shp_all h).2; simp only [PyData.depth]; omega⟩
theorem Shp.lst {k : Nat} {ds : List PyData} (h : ∀ d ∈ ds, Shp k d) : Shp (k + 1) (.list ds) := ⟨by simpa [PyData.canLay0] using (shp_all h).1, by have := (shp_all h).2; simp only [PyData.depth]; omega⟩
theorem Shp.ok {k : Nat} {d : PyData} (h : Shp k d) (hk : k ≤ 64 := by decide) : SeqAt.shaped d = true := by
  unfold SeqAt.shaped
  rw [h.1, Bool.true_and, decide_eq_true_iff]
  exact Nat.le_trans h.2 hk
theorem Shp.tie {p : Nat × Nat} : Shp 1 (tieD p) := .tup fun d hd => by
  rcases List.mem_cons.mp hd with rfl | hd
  · exact .int
  · rw [List.mem_singleton.mp hd]; exact .int
theorem Shp.ties {l : List (Nat × Nat)} : Shp 2 (.list (l.map tieD)) := .lst fun d hd => by
  obtain ⟨p, _, rfl⟩ := List.mem_map.mp hd
  exact .tie
theorem Shp.mat {n : Nat} {W : Nat → Nat → Int} : Shp 2 (matD n W) := .tup fun d hd => by
  obtain ⟨x, _, rfl⟩ := List.mem_map.mp hd
  refine .tup fun e he => ?_
  obtain ⟨y, _, rfl⟩ := List.mem_map.mp he
  exact .int
section
variable {P : Program} {w : World} {K : PySem.W.Frag} {mg : Str → Option Value} {base : Heap} {SE IW IT NB TM fI : Addr} {fd : FuncData}
def R_same : List PyData → PyData → Prop := fun ds d => ∃ n W, ds = [matD n W, matD n W] ∧ n ≤ 10 ∧ d = .bool true
theorem sc_has_same_ties : FnScope ["web", "other_web"] ["web", "other_web"] (defScope (topS 47)) := ⟨rfl, rfl, rfl, by decide +kernel, rfl, by decide +kernel, by decide +kernel⟩
theorem c_has_same_ties (T : Txt K mg) : Cal P w K mg base CX0 2 "has_same_ties" ["web", "other_web"] (spD K R_same) := by
  have c_ties_of := c_ties_of (P := P) (w := w) (base := base) T
  refine T.d_has_same_ties.calD sc_has_same_ties (fun ds d ⟨n, W, e, _⟩ => by rw [e]; rfl) (fun f cdv A outer s F H vs ds d Q E hr z ha r q => ?_)
  have nd := sc_has_same_ties.nd
  obtain ⟨n, W, rfl, hn, rfl⟩ := r
  obtain ⟨v1, v2, rfl, h1, h2⟩ := DpAll.two_inv ha
  refine ⟨_, (pss_one (ps_ret (pe_and (pe_cmpR op_eq (q_len K T.len_n (pv 0)) (q_len K T.len_n (pv 1)) (nomark _)) (pe_one (pe_cmpR (kEqD K hr.units) (pe_cal c_ties_of hr (by decide) pass0 (pa_cons (pv 0) pa_nil)) (pe_cal c_ties_of hr (by decide) pass0 (pa_cons (pv 1) pa_nil)) (nomark _)))))), ?_⟩
  refine st_ret z (evd_eq (evd_and (evd_eqI (evd_lenR (evd_var rfl h1)) (evd_lenR (evd_var rfl h2))) fun _ => evd_eqD (evd_call (eva_one (evd_var rfl h1)) ⟨n, W, by omega, rfl, rfl⟩) (evd_call (eva_one (evd_var rfl h2)) ⟨n, W, by omega, rfl, rfl⟩) Shp.ties.ok Shp.ties.ok) ?_) q
  rw [SeqAt.eqv_refl _ Shp.ties.1]
  simp
def R_product : List PyData → PyData → Prop := fun ds d => ∃ n W, ds = [matD n W, matD n W] ∧ Web n W ∧ d = matD n fun x y => W x y * W x y
theorem sc_product_of : FnScope ["web", "other_web", "x", "y"] ["web", "other_web"] (defScope (topS 48)) := ⟨rfl, rfl, rfl, by decide +kernel, rfl, by decide +kernel, by decide +kernel⟩
theorem c_product_of (T : Txt K mg) : Cal P w K mg base CX0 1 "product_of" ["web", "other_web"] (spD K R_product) := by
  refine T.d_product_of.calD sc_product_of (fun ds d ⟨n, W, e, _⟩ => by rw [e]; rfl) (fun f cdv A outer s F H vs ds d Q E hr z ha r q => ?_)
  have nd := sc_product_of.nd
  obtain ⟨n, W, rfl, ww, rfl⟩ := r
  obtain ⟨v1, v2, rfl, h1, h2⟩ := DpAll.two_inv ha
  have hn := ww.hi
  refine ⟨_, (pss_one (ps_ret (q_tuple K T.tuple_n (pe_lc (own := [("x", 2)]) rfl nd (pi_range1 rfl T.range_n (pa_cons (q_len K T.len_n (pv 0)) pa_nil)) (blkOk_by (by kernel_rfl)) (fun _ _ _ _ _ => (pg_name (i := 2) nd rfl (Or.inr rfl))) (fun _ _ _ _ _ => pts_nil) (fun _ _ _ _ _ => (q_tuple K T.tuple_n (pe_lc (own := [("y", 3)]) rfl nd (pi_range1 rfl T.range_n (pa_cons (q_len K T.len_n (pv 0)) pa_nil)) (blkOk_by (by kernel_rfl)) (fun _ _ _ _ _ => (pg_name (i := 3) nd rfl (Or.inl rfl))) (fun _ _ _ _ _ => pts_nil) (fun _ _ _ _ _ => (pe_op op_mul (pe_ix (kIxT K) (pe_ix (kIxT K) (pv 0) (pv 2) (fun _ _ => rfl)) (pv 3) (fun _ _ => rfl)) (pe_ix (kIxT K) (pe_ix (kIxT K) (pv 1) (pv 2) (fun _ _ => rfl)) (pv 3) (fun _ _ => rfl))))))))))), ?_⟩
  refine st_ret z (evd_tupL (K := K) (evd_lcI0 (g := fun k => (k : Nat)) (n := ((n : Nat) : Int).toNat) (fun x => rowD n (fun x y => W x y * W x y) x) (iwd_range1 (n := (n : Int)) (evd_lenR (evd_var rfl h1)) (by omega) (by omega)) (by omega) fun x F1 H1 hx f1 hh1 z1 => ?_)) q
  refine evd_tupL (K := K) (evd_lcI0 (g := fun k => (k : Nat)) (n := ((n : Nat) : Int).toNat) (fun y => .int (W x y * W x y)) (iwd_range1 (n := (n : Int)) (evd_lenR (evd_var rfl (h1.up f1))) (by omega) (by omega)) (by omega) fun y F2 H2 hy f2 hh2 z2 => ?_)
  simp only [Int.toNat_natCast] at hx hy
  exact evd_opC (g := fun a b => a * b) (evd_cell (evd_var rfl (h1.up (f1.trans f2))) (evd_vari rfl) (evd_vari rfl) hx hy) (evd_cell (evd_var rfl (h2.up (f1.trans f2))) (evd_vari rfl) (evd_vari rfl) hx hy) (.inr (by rcases ww.sgn x y hx hy with e | e | e <;> rw [e] <;> decide))
theorem sq_web {n : Nat} {W : Nat → Nat → Int} (ww : Web n W) : Web n (fun x y => W x y * W x y) ∧ Bal n (fun x y => W x y * W x y) := by
  have sg : ∀ x y, x < n → y < n → W x y * W x y = 0 ∨ W x y * W x y = 1 := fun x y hx hy => by rcases ww.sgn x y hx hy with e | e | e <;> rw [e] <;> decide
  refine ⟨⟨ww.lo, ww.hi, fun x y hx hy => ?_, fun x y hx hy => ?_, fun x hx => ?_⟩, fun _ => 1, fun _ _ => .inl rfl, fun x y hx hy h => ?_⟩
  · rcases sg x y hx hy with e | e
    · exact .inl e
    · exact .inr (.inl e)
  · show W x y * W x y = W y x * W y x
    rw [ww.sym x y hx hy]
  · show W x x * W x x = 0
    rw [ww.dia x hx]; rfl
  · rcases sg x y hx hy with e | e
    · exact (h e).elim
    · show (1 : Int) * 1 = W x y * W x y
      rw [e]; rfl
def R_alike : List PyData → PyData → Prop := fun ds d => ∃ n W, ds = [matD n W, matD n W] ∧ Web n W ∧ d = .bool true
theorem sc_alike_of : FnScope ["web", "other_web"] ["web", "other_web"] (defScope (topS 49)) := ⟨rfl, rfl, rfl, by decide +kernel, rfl, by decide +kernel, by decide +kernel⟩
theorem c_alike_of (T : Txt K mg) : Cal P w K mg base CX0 5 "alike_of" ["web", "other_web"] (spD K R_alike) := by
  have c_has_same_ties := c_has_same_ties (P := P) (w := w) (base := base) T
  have c_product_of := c_product_of (P := P) (w := w) (base := base) T
  have c_some_bad_ring := c_some_bad_ring (P := P) (w := w) (base := base) T
  refine T.d_alike_of.calD sc_alike_of (fun ds d ⟨n, W, e, _⟩ => by rw [e]; rfl) (fun f cdv A outer s F H vs ds d Q E hr z ha r q => ?_)
  have nd := sc_alike_of.nd
  obtain ⟨n, W, rfl, ww, rfl⟩ := r
  obtain ⟨v1, v2, rfl, h1, h2⟩ := DpAll.two_inv ha
  refine ⟨_, (pss_one (ps_ret (pe_and (pe_cal c_has_same_ties hr (by decide) pass0 (pa_cons (pv 0) (pa_cons (pv 1) pa_nil))) (pe_one (pe_cmpR op_isN (pe_cal c_some_bad_ring hr (by decide) pass0 (pa_cons (pe_cal c_product_of hr (by decide) pass0 (pa_cons (pv 0) (pa_cons (pv 1) pa_nil))) pa_nil)) pe_non (nomark _)))))), ?_⟩
  refine st_ret z (evd_and (K := K) (b := true) (c := true) (evd_call (eva_cons (evd_var rfl h1) (eva_one (evd_var rfl h2))) ⟨n, W, rfl, ww.hi, rfl⟩) fun _ => ?_) q
  intro F1 H1 a1 b1 z1 Q1 q1
  refine evp_callS (K := K) (eva_one (evd_call (eva_cons (evd_var rfl h1) (eva_one (evd_var rfl h2))) ⟨n, W, rfl, ww, rfl⟩)) ⟨n, _, rfl, (sq_web ww).1⟩ F1 H1 a1 b1 z1 _ fun v F2 H2 g2 ⟨d, hd, p2⟩ => ?_
  refine ⟨rfl, q1 _ F2 H2 g2 ?_⟩
  obtain ⟨n', W', e, _, h⟩ := hd
  injection e with e _
  obtain ⟨rfl, hWW⟩ := mat_inj e
  rcases h with ⟨_, rfl⟩ | ⟨hb, _⟩
  · obtain rfl := p2.non_inv
    exact .bl _
  · exact (hb ((bal_congr hWW).mp (sq_web ww).2)).elim
theorem sc_are_alike : FnScope ["web", "other_web"] ["web", "other_web"] (defScope (topS 50)) := ⟨rfl, rfl, rfl, by decide +kernel, rfl, by decide +kernel, by decide +kernel⟩
theorem c_are_alike (T : Txt K mg) (Er : Errs P K mg SE IW IT NB TM fI fd) : Cal P w K mg base CX0 6 "are_alike" ["web", "other_web"] (spD K R_alike) := by
  have c_check_web := (c_check_web (P := P) (w := w) (base := base) T Er).noX
  have c_alike_of := c_alike_of (P := P) (w := w) (base := base) T
  refine T.d_are_alike.calD sc_are_alike (fun ds d ⟨n, W, e, _⟩ => by rw [e]; rfl) (fun f cdv A outer s F H vs ds d Q E hr z ha r q => ?_)
  have nd := sc_are_alike.nd
  have r' := r
  obtain ⟨n, W, rfl, ww, rfl⟩ := r'
  obtain ⟨v1, v2, rfl, h1, h2⟩ := DpAll.two_inv ha
  refine ⟨_, (pss_cons (ps_expr (pe_cal c_check_web hr (by decide) pass0 (pa_cons (pv 0) pa_nil)))
      (pss_cons (ps_expr (pe_cal c_check_web hr (by decide) pass0 (pa_cons (pv 1) pa_nil)))
      (pss_one (ps_ret (pe_cal c_alike_of hr (by decide) pass0 (pa_cons (pv 0) (pa_cons (pv 1) pa_nil))))))), ?_⟩
  have okw : ∀ cls d F' H', ¬ X_check_web IW [matD n W] cls d F' H' := fun cls d F' H' h => by obtain ⟨a, e, nw, _⟩ := h; injection e with e _; exact nw (by rw [← e]; exact isWeb_mat.mpr ww)
  refine st_seq (st_drop z (evp_callE0 (K := K) (eva_one (evd_var rfl h1)) ⟨_, rfl⟩ okw) fun _ F1 H1 g1 _ => ?_)
  refine st_seq (st_drop g1.fh (evp_callE0 (K := K) (eva_one (evd_var rfl (h2.up g1.f))) ⟨_, rfl⟩ okw) fun _ F2 H2 g2 _ => ?_)
  have gA := g1.trans g2
  exact st_ret g2.fh (evd_call (K := K) (eva_cons (evd_var rfl (h1.up gA.f)) (eva_one (evd_var rfl (h2.up gA.f)))) r) fun v3 F3 H3 g3 p3 => q v3 F3 H3 (gA.trans g3) p3
end
end Sg
set_option maxRecDepth 100000
set_option maxHeartbeats 4000000
/-! G15: piece_with, pieces_among, pieces_of. -/
namespace Sg
open PySem PySem.Spec L2 Dv
theorem getD_app {α : Type} {L M : List α} {k : Nat} {d : α} (h : k < L.length) : (L ++ M).getD k d = L.getD k d := by
  rw [List.getD_eq_getElem?_getD, List.getElem?_append_left h, ← List.getD_eq_getElem?_getD]
/-- y stands in the piece of p -/
def InC (n : Nat) (W : Nat → Nat → Int) (p y : Nat) : Prop := ∀ S : Nat → Prop, (∀ u v, u < n → v < n → S u → W u v ≠ 0 → S v) → S p → S y
open Classical in
noncomputable def cmpL (n : Nat) (W : Nat → Nat → Int) (p : Nat) : List Nat := (List.range n).filter fun y => @decide (InC n W p y) (propDecidable _)
open Classical in
theorem mem_cmp {n : Nat} {W : Nat → Nat → Int} {p y : Nat} : y ∈ cmpL n W p ↔ y < n ∧ InC n W p y := by
  unfold cmpL
  rw [List.mem_filter, List.mem_range, decide_eq_true_iff]
theorem InC.refl {n : Nat} {W : Nat → Nat → Int} {p : Nat} : InC n W p p := fun _ _ h => h
theorem InC.step {n : Nat} {W : Nat → Nat → Int} {p u v : Nat} (h : InC n W p u) (hu : u < n) (hv : v < n) (hw : W u v ≠ 0) : InC n W p v := fun S c s => c u v hu hv (h S c s) hw
theorem cmp_lot (n : Nat) (W : Nat → Nat → Int) (p : Nat) : Lot n (cmpL n W p) := by
  unfold cmpL
  exact lot_filter n _
theorem InC.meet {n : Nat} {W : Nat → Nat → Int} {p q y : Nat} (ww : Web n W) (h1 : InC n W p y) (h2 : InC n W q y) : InC n W q p := Classical.byContradiction fun hn => by
  refine h1 (fun v => ¬ InC n W q v) (fun u v hu hv hno hw hin => hno (hin.step hv hu ?_)) hn h2
  rw [ww.sym v u hv hu]
  exact hw
theorem lot_nodup {n : Nat} {L : List Nat} (h : Lot n L) : L.Nodup := h.1.imp fun h => Nat.ne_of_lt h
theorem nodup_len {n : Nat} {L : List Nat} (nd : L.Nodup) (lt : ∀ x ∈ L, x < n) : L.length ≤ n := by
  rw [← (canon_perm nd lt).length_eq]
  exact (show Lot n (canon n L) from lot_filter n _).len
open Classical in
theorem canon_cmp {n : Nat} {W : Nat → Nat → Int} {p : Nat} {L : List Nat} (hp : p ∈ L) (hin : ∀ x ∈ L, x < n ∧ InC n W p x) (hcl : ∀ u ∈ L, ∀ v, v < n → W u v ≠ 0 → v ∈ L) : canon n L = cmpL n W p := by
  unfold canon cmpL
  refine List.filter_congr fun x hx => ?_
  rw [decide_eq_decide]
  exact ⟨fun h => (hin x h).2, fun h => h (fun y => y ∈ L) (fun u v _ hv hu hw => hcl u hu v hv hw) hp⟩
section
variable {P : Program} {w : World} {K : PySem.W.Frag} {mg : Str → Option Value} {base : Heap} {SE IW IT NB TM fI : Addr} {fd : FuncData}
def R_piece_with : List PyData → PyData → Prop := fun ds d => ∃ n W p, ds = [matD n W, natD (List.range n), .int (p : Nat)] ∧ Web n W ∧ p < n ∧ d = natD (cmpL n W p)
theorem sc_piece_with : FnScope ["web", "places", "place", "here", "at", "y"] ["web", "places", "place"] (defScope (topS 25)) := ⟨rfl, rfl, rfl, by decide +kernel, rfl, by decide +kernel, by decide +kernel⟩
theorem c_piece_with (T : Txt K mg) : Cal P w K mg base CX0 1 "piece_with" ["web", "places", "place"] (spD K R_piece_with) := by
  refine T.d_piece_with.calD sc_piece_with (fun ds d ⟨n, W, p, e, _⟩ => by rw [e]; rfl) (fun f cdv A outer s F H vs ds d Q E hr z ha r q => ?_)
  have nd := sc_piece_with.nd
  obtain ⟨n, W, x, rfl, ww, hx, rfl⟩ := r
  have hn10 := ww.hi
  obtain ⟨v1, v2, v3, rfl, h1, h2, h3⟩ := DpAll.three_inv ha
  obtain rfl := h3.int_inv
  refine ⟨_, (pss_cons (ps_set (i := 3) nd rfl (Or.inr rfl) (pe_lst (pa_cons (pv 2) pa_nil)))
      (pss_cons (ps_set (i := 4) nd rfl (Or.inr rfl) pe_int)
      (pss_cons (ps_while PassesOwn.never (pt_cmpR op_lt (pv 4) (q_len K T.len_n (pv 3)) (nomark _)) (pss_cons (ps_aug (i := 3) nd rfl (Or.inr rfl) (pe_lc (own := [("y", 5)]) rfl nd (kTup K (pv 1)) (blkOk_by (by kernel_rfl)) (fun _ _ _ _ _ => (pg_name (i := 5) nd rfl (Or.inl rfl))) (fun _ _ _ _ _ => (pts_one (PW.pt (pw_and (pt_cmpR op_ne (pe_ix (kIxT K) (pe_ix (kIxT K) (pv 0) (pe_ix (kIxL K) (pv 3) (pv 4) (fun _ _ => rfl)) (fun _ _ => rfl)) (pv 5) (fun _ _ => rfl)) pe_int (nomark _)) (pw_and1 (pt_cmpR (kNotIn K) (pv 5) (pv 3) (by rfl))))))) (fun _ _ _ _ _ => (pv 5))) iop_ext)
        (pss_one (ps_aug (i := 4) nd rfl (Or.inr rfl) pe_int ip_add))))
      (pss_one (ps_ret (q_tuple K T.tuple_n (q_sortI K T.sorted_n (pv 3)))))))), ?_⟩
  refine st_seq (st_asg z (evp_new (K := K) (eva_one (evd_vari (i := (x : Nat)) rfl)) (by simp)) fun v3 F3 H3 g3 ⟨p, e3, hp⟩ => ?_)
  subst e3
  dsimp only
  refine st_seq (st_asg g3.fh (evd_i (K := K) (i := 0)) fun v4 F4 H4 g4 p4 => ?_)
  obtain rfl := p4.int_inv
  dsimp only
  refine st_seq (st_whileE (fun m σ' F' H' => ∃ at_ : Nat, σ' = [some v1, some v2, some (.int (x : Nat)), some (.ref p), some (.int (at_ : Nat)), none] ∧ Gr F H F' H' ∧ m = n - at_ ∧ ∃ L, Own K H F' H' p (natsD L) ∧ L.Nodup ∧ x ∈ L ∧ (∀ y ∈ L, y < n ∧ InC n W x y) ∧ at_ ≤ L.length ∧ ∀ k, k < at_ → ∀ v, v < n → W (L.getD k 0) v ≠ 0 → v ∈ L) n F4 (Same.refl _) g4.fh
    ⟨0, rfl, g3.trans g4, by omega, [x], hp.up g4, List.pairwise_singleton _ x, List.mem_singleton.mpr rfl, fun y hy => by rw [List.mem_singleton.mp hy]; exact ⟨hx, InC.refl⟩, Nat.zero_le _, fun k hk => absurd hk (Nat.not_lt_zero _)⟩ ?_)
  rintro m σ' F' H' f' z' ⟨at_, rfl, gg, rfl, L, ho, hnd, hxL, hin, hat, hcl⟩
  have hlen := nodup_len hnd fun y hy => (hin y hy).1
  refine ⟨decide (at_ < L.length), evt_test (evd_eq (evd_cmpI (g := fun a b => decide (a < b)) (evd_vari (i := (at_ : Nat)) rfl) (evd_lenO ho (evv_var rfl))) ?_), fun hb F'' H'' N g5 hN => ?_, fun hb F'' H'' g5 => ?_⟩
  · rw [List.length_map]
    congr 1
    rw [decide_eq_decide]
    omega
  · have hlt : at_ < L.length := of_decide_eq_true hb
    have hu : L.getD at_ 0 ∈ L := at_mem hlt
    generalize hue : L.getD at_ 0 = u at hu
    have hun := (hin u hu).1
    have gA := gg.trans g5
    have ho5 := ho.up g5
    have hat0 : L2.atI (natsD L) ((at_ : Nat) : Int) = some (.int (u : Nat)) := by
      refine atI_nat ?_
      rw [natsD, List.getElem?_map, List.getElem?_eq_getElem hlt]
      rw [List.getD_eq_getElem?_getD, List.getElem?_eq_getElem hlt] at hue
      simp only [Option.getD_some] at hue
      rw [hue]; rfl
    have hno : ∀ (M : List Nat), natsD M = (M.map fun y : Nat => (y : Int)).map PyData.int := natsD_eq
    have hnx : ((List.range n).filter fun y => !decide (W u y = 0) && !decide (y ∈ L)).Nodup := List.Pairwise.filter _ List.nodup_range
    have hmx : ∀ y, y ∈ ((List.range n).filter fun y => !decide (W u y = 0) && !decide (y ∈ L)) ↔ y < n ∧ W u y ≠ 0 ∧ y ∉ L := fun y => by rw [List.mem_filter, List.mem_range]; simp
    generalize hMe : ((List.range n).filter fun y => !decide (W u y = 0) && !decide (y ∈ L)) = M at hnx hmx
    have hMl := nodup_len hnx fun y hy => ((hmx y).mp hy).1
    refine st_seq (st_ext (es := natsD M) ho5 g5.fh rfl ?_ (by rw [List.length_map, List.length_map]; omega) (by simp) fun xs F6 H6 g6 ho6 => ?_)
    · have e : natsD M = picks n (fun y => !decide (W u y = 0) && !decide (y ∈ L)) fun y => .int (y : Nat) := by rw [← hMe]; rfl
      rw [e]
      have iw : IwD K (iTup K (tVar 1)) [some v1, some v2, some (.int (x : Nat)), some (.ref p), some (.int (at_ : Nat)), none] F'' H'' n fun i => .int (i : Nat) := by
        have h := iwd_nats (K := K) (te := tVar 1) (σ := [some v1, some v2, some (.int (x : Nat)), some (.ref p), some (.int (at_ : Nat)), none]) (L := List.range n) (H := H'') (evd_var rfl (h2.up gA.f))
        rw [List.length_range] at h
        refine h.congr fun i hi => ?_
        rw [List.getD_eq_getElem?_getD, List.getElem?_range hi]; rfl
      refine evp_lcIO (g := fun i => (i : Nat)) _ _ iw (by omega) (fun y F6 H6 hy f6 hh6 z6 => ?_) fun y F6 H6 hy _ f6 hh6 z6 => evd_vari rfl
      have hot : Own K H F'' H'' p ((L.map fun y : Nat => (y : Int)).map PyData.int) := by rw [← natsD_eq]; exact ho5
      refine evt_and (evt_test (evd_neI (evd_cell (evd_var rfl (h1.up (gA.f.trans f6))) ((evd_ixO ho5 (evv_var rfl) (evd_vari rfl) hat0).mono f6 hh6) (evd_vari rfl) hun hy) evd_i)) fun _ => (evt_test (evd_eq (evd_inO' (neg := true) (n := (y : Nat)) hot (evd_vari rfl) (evv_var rfl)) ?_)).mono f6 hh6
      congr 1
      simp only [if_true, nat_mem]
    · have gB := (gA.trans g6).mut (o := .lst xs) hp.nw ho6.out
      have zB := ho6.out
      dsimp only
      refine st_augI (i := (at_ : Nat)) (j := 1) (g := fun a b => a + b) gB.fh rfl (evd_i (K := K)) fun F7 H7 g7 => ?_
      refine hN (n - (at_ + 1)) _ F7 H7 (by omega) ((f'.trans (g5.trans g6).f).trans g7.f) g7.fh ⟨at_ + 1, rfl, gB.trans g7, rfl, L ++ M, ?_, ?_, List.mem_append_left _ hxL, fun y hy => ?_, by rw [List.length_append]; omega, fun k hk v hv hw => ?_⟩
      · have := ho6.up g7
        rw [natsD, List.map_append]
        exact this
      · exact List.nodup_append.mpr ⟨hnd, hnx, fun a ha b hb e => ((hmx b).mp hb).2.2 (e ▸ ha)⟩
      · rcases List.mem_append.mp hy with h | h
        · exact hin y h
        · obtain ⟨hyn, hw, _⟩ := (hmx y).mp h
          exact ⟨hyn, (hin u hu).2.step hun hyn hw⟩
      · rcases Nat.lt_succ_iff_lt_or_eq.mp hk with h | h
        · rw [getD_app (by omega)] at hw
          exact List.mem_append_left _ (hcl k h v hv hw)
        · subst h
          rw [getD_app hlt, hue] at hw
          by_cases hvL : v ∈ L
          · exact List.mem_append_left _ hvL
          · exact List.mem_append_right _ ((hmx v).mpr ⟨hv, hw, hvL⟩)
  · have hge : at_ = L.length := by have := of_decide_eq_false hb; omega
    have gA := gg.trans g5
    have ho5 := ho.up g5
    have hot : Own K H F'' H'' p ((L.map fun y : Nat => (y : Int)).map PyData.int) := by rw [← natsD_eq]; exact ho5
    have hcn : canon n L = cmpL n W x := canon_cmp hxL hin fun u hu v hv hw => by
      obtain ⟨k, hk, e⟩ := List.mem_iff_getElem.mp hu
      refine hcl k (by omega) v hv ?_
      rw [List.getD_eq_getElem?_getD, List.getElem?_eq_getElem hk]
      simp only [Option.getD_some, e]
      exact hw
    refine st_ret g5.fh (evd_eq (e := natD (cmpL n W x)) (evd_tupL (K := K) (evd_sorted (n := n) hnd (fun y hy => (hin y hy).1) (evp_sortI (evp_own hot rfl) (by rw [List.length_map]; omega)))) (by rw [hcn])) fun v6 F6 H6 g6 p6 => q v6 F6 H6 (gA.trans g6) p6
/-! ### the pieces -/
theorem evd_tupRg {σ : L2.St} {F H : Hp} {ta : TE} {n : Nat} (h : EvD K ta σ F H (.int (n : Nat))) (hn : n ≤ 1000) : EvD K (tTupRg (tRg1 ta)) σ F H (natD (List.range n)) := fun F1 H1 a b c Q q => by
  refine h F1 H1 a b c _ fun v F2 H2 g2 p2 => ?_
  obtain rfl := p2.int_inv
  refine ⟨n, rfl, RgOk.of_le (by omega) (by omega) (by omega) (by omega), fun p hp => ?_⟩
  have e : rgV 0 (n : Int) = ((List.range n).map fun x : Nat => (x : Int)).map V.int := by
    unfold rgV
    rw [List.map_map, Int.sub_zero, Int.toNat_natCast]
    refine List.map_congr_left fun i _ => ?_
    show V.int (0 + (i : Int)) = V.int (i : Int)
    rw [Int.zero_add]
  rw [e]
  exact q _ (upd F2 p (.tup _)) _ (g2.trans (.new g2.fh hp)) (.tup (SqT.of upd_same) (DpAll.ints _))
def PcsOf (n : Nat) (W : Nat → Nat → Int) (rs : List Nat) : Prop := (∀ r ∈ rs, r < n) ∧ rs.Pairwise (fun a b => ∀ x, x ∈ cmpL n W a → x ∉ cmpL n W b)
noncomputable abbrev pcsD (n : Nat) (W : Nat → Nat → Int) (rs : List Nat) : List PyData := rs.map fun r => natD (cmpL n W r)
def R_pieces : List PyData → PyData → Prop := fun ds d => ∃ n W rs, ds = [matD n W] ∧ Web n W ∧ PcsOf n W rs ∧ rs.length ≤ n ∧ (∀ k, k < n → ∃ r ∈ rs, k ∈ cmpL n W r) ∧ d = .list (pcsD n W rs)
def Pre_among : List PyData → Prop := fun ds => ∃ n W, ds = [matD n W, natD (List.range n)] ∧ Web n W
def R_among : List PyData → PyData → Prop := fun ds d => ∃ a b, ds = [a, b] ∧ R_pieces [a] d
theorem sc_pieces_among : FnScope ["web", "places", "found", "place", "piece"] ["web", "places"] (defScope (topS 26)) := ⟨rfl, rfl, rfl, by decide +kernel, rfl, by decide +kernel, by decide +kernel⟩
theorem c_pieces_among (T : Txt K mg) : Cal P w K mg base CX0 2 "pieces_among" ["web", "places"] (spS K Pre_among R_among) := by
  have c_piece_with := c_piece_with (P := P) (w := w) (base := base) T
  refine T.d_pieces_among.cal sc_pieces_among (spS_len fun ds ⟨n, W, e, _⟩ => by rw [e]; rfl) (fun f cdv A outer s H vs Q E hr ⟨F, ds, z, ha, pre, q⟩ => ?_)
  have nd := sc_pieces_among.nd
  obtain ⟨n, W, rfl, ww⟩ := pre
  have hn10 := ww.hi
  obtain ⟨v1, v2, rfl, h1, h2⟩ := DpAll.two_inv ha
  refine ⟨_, (pss_cons (ps_set (i := 2) nd rfl (Or.inl rfl) (pe_lst pa_nil))
      (pss_cons (ps_for PassesOwn.never rfl (kTup K (pv 1)) (pg_name (i := 3) nd rfl (Or.inr rfl)) (pss_one (ps_if (pt_not (pt_val (q_any K rfl T.any_n (pe_lc (own := [("piece", 4)]) rfl nd (kLst K (pv 2)) (blkOk_by (by kernel_rfl)) (fun _ _ _ _ _ => (pg_name (i := 4) nd rfl (Or.inl rfl))) (fun _ _ _ _ _ => pts_nil) (fun _ _ _ _ _ => (pe_cmpR (kIn K) (pv 3) (pv 4) (by rfl))))))) (pss_one (ps_expr (kApp K (pv 2) (pe_cal c_piece_with hr (by decide) pass0 (pa_cons (pv 0) (pa_cons (pv 1) (pa_cons (pv 3) pa_nil))))))) pss_nil)))
      (pss_one (ps_ret (pv 2))))), ?_⟩
  refine st_seq (st_asg z (evp_new (K := K) eva_nil (by simp)) fun v3 F3 H3 g3 ⟨p, e3, hp⟩ => ?_)
  subst e3
  dsimp only
  have iw : ∀ {F3 H3 : Hp} {σ : L2.St}, Same F F3 → σ[1]? = some (some v2) → IwD K (iTup K (tVar 1)) σ F3 H3 n fun i => .int (i : Nat) := fun {F3 H3 σ} f e => by
    have h := iwd_nats (K := K) (te := tVar 1) (σ := σ) (L := List.range n) (H := H3) (evd_var e (h2.up f))
    rw [List.length_range] at h
    refine h.congr fun i hi => ?_
    rw [List.getD_eq_getElem?_getD, List.getElem?_range hi]; rfl
  refine st_seq (st_forI (K := K) (g := fun i => (i : Nat)) (n := n) (fun i σ' F' H' => ∃ u, σ' = [some v1, some v2, some (.ref p), u, none] ∧ Gr F H F' H' ∧ ∃ rs, Own K H F' H' p (pcsD n W rs) ∧ PcsOf n W rs ∧ rs.length ≤ i ∧ ∀ k, k < i → ∃ r ∈ rs, k ∈ cmpL n W r) g3.fh (iw g3.f rfl)
    (fun F4 H4 g4 => ⟨none, rfl, g3.trans g4, [], hp.up g4, ⟨(fun r h => by cases h), List.Pairwise.nil⟩, Nat.le_refl _, fun k h => absurd h (Nat.not_lt_zero _)⟩) ?_ ?_)
  · rintro i σ' F' H' F'' H'' N hi f' z' ⟨u, rfl, gg, rs, ho, ⟨hlt, hpw⟩, hlen, hcov⟩ g' hN
    have gA := gg.trans g'
    have ho' := ho.up g'
    obtain ⟨xs, hxs, hfz⟩ := ho'.frz
    have hany : EvD K (tCB (rAny K) (tCons (tLc (iList K (tVar 2)) (gName 4) tYes (tOp (rIn K false) (tVar 3) (tVar 4)) [4]) tNil)) [some v1, some v2, some (.ref p), some (.int (i : Nat)), none] F'' H'' (.bool (rs.any fun r => decide (i ∈ cmpL n W r))) := by
      refine evd_of_v (EvV.thaw hxs ho'.out (evv_of_bl (K := K) ?_)) (.bl _)
      refine evd_eq (evd_anyR (f := fun k => decide (i ∈ cmpL n W (rs.getD k 0))) (n := (pcsD n W rs).length) (evd_lcD0 (K := K) _ (iwd_lst (ds := pcsD n W rs) (evd_var rfl hfz)) (by rw [List.length_map]; omega) fun k v F5 H5 hk f5 hh5 z5 hv => ?_)) ?_
      · rw [List.length_map] at hk
        have e : (pcsD n W rs).getD k .none = natD (cmpL n W (rs.getD k 0)) := by
          rw [List.getD_eq_getElem?_getD, List.getElem?_map, List.getElem?_eq_getElem hk, List.getD_eq_getElem?_getD, List.getElem?_eq_getElem hk]; rfl
        rw [e] at hv
        refine evd_eq (evd_inT (neg := false) (n := (i : Nat)) (evd_vari rfl) (evd_var rfl hv)) ?_
        congr 1
        simp only [nat_mem, Bool.false_eq_true, if_false]
      · congr 1
        rw [Bool.eq_iff_iff, List.any_eq_true, List.any_eq_true]
        rw [List.length_map]
        constructor
        · rintro ⟨k, hk, h⟩
          exact ⟨_, at_mem (List.mem_range.mp hk), h⟩
        · rintro ⟨r, hr, h⟩
          obtain ⟨k, hk, rfl⟩ := List.mem_iff_getElem.mp hr
          refine ⟨k, List.mem_range.mpr hk, ?_⟩
          rw [List.getD_eq_getElem?_getD, List.getElem?_eq_getElem hk]
          exact h
    refine st_if g'.fh (evt_not (evt_B hany)) (fun hb F5 H5 g5 => ?_) fun hb F5 H5 g5 => ?_
    · have hno : ∀ r ∈ rs, i ∉ cmpL n W r := fun r hr h => by
        have : rs.any (fun r => decide (i ∈ cmpL n W r)) = true := List.any_eq_true.mpr ⟨r, hr, decide_eq_true h⟩
        rw [this] at hb
        cases hb
      have gB := gA.trans g5
      refine st_append (d := natD (cmpL n W i)) (ho'.up g5) g5.fh rfl (evd_call (eva_cons (evd_var rfl (h1.up gB.f)) (eva_cons (evd_var rfl (h2.up gB.f)) (eva_one (evd_vari rfl)))) ⟨n, W, i, rfl, ww, hi, rfl⟩) (by rw [List.length_map]; omega) fun ys F6 H6 g6 ho6 => ?_
      refine hN _ F6 _ (g5.trans g6).f (same_mut g6.fh ho6.out) ⟨_, rfl, (gB.trans g6).mut hp.nw ho6.out, rs ++ [i], ?_, ⟨fun r hr => ?_, List.pairwise_append.mpr ⟨hpw, List.pairwise_singleton _ _, fun a ha b hb x hx hxb => ?_⟩⟩, by rw [List.length_append, List.length_singleton]; omega, fun k hk => ?_⟩
      · show Own K H F6 _ p ((rs ++ [i]).map fun r => natD (cmpL n W r))
        rw [List.map_append]
        exact ho6
      · rcases List.mem_append.mp hr with h | h
        · exact hlt r h
        · rw [List.mem_singleton.mp h]; exact hi
      · rw [List.mem_singleton.mp hb] at hxb
        exact hno a ha (mem_cmp.mpr ⟨hi, InC.meet ww (mem_cmp.mp hxb).2 (mem_cmp.mp hx).2⟩)
      · rcases Nat.lt_succ_iff_lt_or_eq.mp hk with h | h
        · obtain ⟨r, hr, hk⟩ := hcov k h
          exact ⟨r, List.mem_append_left _ hr, hk⟩
        · subst h
          exact ⟨k, List.mem_append_right _ (List.mem_singleton.mpr rfl), mem_cmp.mpr ⟨hi, InC.refl⟩⟩
    · have hyes : ∃ r ∈ rs, i ∈ cmpL n W r := by
        have h : rs.any (fun r => decide (i ∈ cmpL n W r)) = true := by simpa using hb
        obtain ⟨r, hr, h⟩ := List.any_eq_true.mp h
        exact ⟨r, hr, of_decide_eq_true h⟩
      refine hN _ F5 H5 g5.f g5.fh ⟨_, rfl, gA.trans g5, rs, ho'.up g5, ⟨hlt, hpw⟩, by omega, fun k hk => ?_⟩
      rcases Nat.lt_succ_iff_lt_or_eq.mp hk with h | h
      · exact hcov k h
      · subst h; exact hyes
  · rintro σ' F' H' f' z' ⟨u, rfl, gg, rs, ho, hpc, hlen, hcov⟩
    refine st_ret (P := fun v F3 H3 => v = .ref p) z' (evv_var rfl) fun v F5 H5 g5 e => ?_
    subst e
    obtain ⟨F6, g6, _, hd⟩ := (ho.up g5).give (gg.trans g5)
    exact q _ F6 H5 _ ⟨_, _, rfl, n, W, rs, rfl, ww, hpc, hlen, hcov, rfl⟩ g6 hd
theorem sc_pieces_of : FnScope ["web"] ["web"] (defScope (topS 27)) := ⟨rfl, rfl, rfl, by decide +kernel, rfl, by decide +kernel, by decide +kernel⟩
theorem c_pieces_of (T : Txt K mg) : Cal P w K mg base CX0 3 "pieces_of" ["web"] (spS K PreW R_pieces) := by
  have c_pieces_among := c_pieces_among (P := P) (w := w) (base := base) T
  refine T.d_pieces_of.cal sc_pieces_of (spS_len fun ds ⟨n, W, e, _⟩ => by rw [e]; rfl) (fun f cdv A outer s H vs Q E hr ⟨F, ds, z, ha, pre, q⟩ => ?_)
  have nd := sc_pieces_of.nd
  obtain ⟨n, W, rfl, ww⟩ := pre
  have hn10 := ww.hi
  obtain ⟨v1, rfl, h1⟩ := DpAll.one_inv ha
  refine ⟨_, (pss_one (ps_ret (pe_cal c_pieces_among hr (by decide) pass0 (pa_cons (pv 0) (pa_cons (pe_tupRg rfl rfl T.tuple_n (prg_1 rfl T.range_n (q_len K T.len_n (pv 0)))) pa_nil))))), ?_⟩
  refine st_ret (P := fun v F3 _ => ∃ d, R_pieces [matD n W] d ∧ Dp K F3 v d) z ?_ fun v F3 H3 g3 ⟨d, hd, p3⟩ => q v F3 H3 d hd g3 p3
  refine (evp_callS (K := K) (eva_cons (evd_var rfl h1) (eva_one (evd_tupRg (evd_lenR (evd_var rfl h1)) (by omega)))) ⟨n, W, rfl, ww⟩).imp fun v F3 H3 ⟨d, ⟨a, b, e, hd⟩, p3⟩ => ⟨d, by injection e with e _; rw [e]; exact hd, p3⟩
end
end Sg
set_option maxRecDepth 100000
set_option maxHeartbeats 4000000
/-! G16: camps_of, camps. -/
namespace Dv
open PySem PySem.Spec L2
section
variable {K : PySem.W.Frag} {σ : St} {F H : Hp} {te tx : TE} {tt : TT} {D : Ends} {P R : V → Hp → Hp → Prop}
theorem st_forE {g : TG} {ts : TS} (z : Same F H) (h : EvP te σ F H P) (k : ∀ v F1 H1, Gr F H F1 H1 → P v F1 H1 → tFor (iList K (tC v)) g ts D σ H1) : tFor (iList K te) g ts D σ H :=
  h F H (Same.refl _) (Same.refl _) z (fun v H1 => tFor (iList K (tC v)) g ts D σ H1) k
theorem evp_lcE {g : TG} {vs : List Nat} (h : EvP te σ F H P) (k : ∀ v F1 H1, Same F F1 → Same H H1 → P v F1 H1 → EvP (tLc (iList K (tC v)) g tt tx vs) σ F1 H1 R) : EvP (tLc (iList K te) g tt tx vs) σ F H R := fun F1 H1 a b c Q q =>
  h F1 H1 a b c (fun v H2 => tLc (iList K (tC v)) g tt tx vs σ H2 Q) fun v F2 H2 g2 p2 => k v F2 H2 (a.trans g2.f) (b.trans g2.h) p2 F2 H2 (Same.refl _) (Same.refl _) g2.fh Q fun v3 F3 H3 g3 p3 => q v3 F3 H3 (g2.trans g3) p3
end
end Dv
namespace Sg
open PySem PySem.Spec L2 Dv
theorem hu4 {k : Nat} {A : Around} (r : Room k A) : A.units + 2 + 2 < cLine := by have := r.units; omega
theorem natD_eq (L : List Nat) : natD L = .tuple (natsD L) := by rw [natsD_eq]
/-- a half lot: over the pieces rs of first's web -/
structure GF (C : Nat → List Nat) (first : List Nat) (i : Nat) (f : List Nat) : Prop where
  nd : f.Nodup
  src : ∀ x ∈ f, ∃ j, j < i ∧ x ∈ C j
  side : ∀ j, j < i → (∀ x ∈ C j, (x ∈ f ↔ x ∈ first)) ∨ ∀ x ∈ C j, (x ∈ f ↔ x ∉ first)
theorem GF.step {C : Nat → List Nat} {first f : List Nat} {i : Nat} {b : Bool} (h : GF C first i f) (hn : (C i).Nodup) (hd : ∀ j, j < i → ∀ x, x ∈ C j → x ∉ C i) : GF C first (i + 1) (f ++ (C i).filter fun y => decide (y ∈ first) == b) := by
  have mem : ∀ x, x ∈ (C i).filter (fun y => decide (y ∈ first) == b) ↔ x ∈ C i ∧ (decide (x ∈ first) = b) := fun x => by rw [List.mem_filter, beq_iff_eq]
  refine ⟨List.nodup_append.mpr ⟨h.nd, List.Pairwise.filter _ hn, fun a ha c hc e => ?_⟩, fun x hx => ?_, fun j hj => ?_⟩
  · subst e
    obtain ⟨j, hj, hx⟩ := h.src a ha
    exact hd j hj a hx ((mem a).mp hc).1
  · rcases List.mem_append.mp hx with hx | hx
    · obtain ⟨j, hj, hx⟩ := h.src x hx
      exact ⟨j, by omega, hx⟩
    · exact ⟨i, by omega, ((mem x).mp hx).1⟩
  · rcases Nat.lt_succ_iff_lt_or_eq.mp hj with hj | hj
    · have e : ∀ x ∈ C j, (x ∈ f ++ (C i).filter fun y => decide (y ∈ first) == b) ↔ x ∈ f := fun x hx => by
        rw [List.mem_append]
        exact ⟨fun h' => h'.resolve_right fun h' => hd j hj x hx ((mem x).mp h').1, .inl⟩
      rcases h.side j hj with s | s
      · exact .inl fun x hx => (e x hx).trans (s x hx)
      · exact .inr fun x hx => (e x hx).trans (s x hx)
    · subst hj
      have e : ∀ x ∈ C j, (x ∈ f ++ (C j).filter fun y => decide (y ∈ first) == b) ↔ decide (x ∈ first) = b := fun x hx => by
        rw [List.mem_append]
        constructor
        · rintro (h' | h')
          · obtain ⟨k, hk, hx'⟩ := h.src x h'
            exact (hd k hk x hx' hx).elim
          · exact ((mem x).mp h').2
        · exact fun h' => .inr ((mem x).mpr ⟨hx, h'⟩)
      cases b with
      | true => exact .inl fun x hx => (e x hx).trans decide_eq_true_iff
      | false => exact .inr fun x hx => (e x hx).trans (by simp)
theorem getD_at {α : Type} {L : List α} {j : Nat} {d : α} (h : j < L.length) : L.getD j d = L[j] := by rw [List.getD_eq_getElem?_getD, List.getElem?_eq_getElem h]; rfl
theorem getD_mem {α : Type} {L : List α} {j : Nat} {d : α} (h : j < L.length) : L.getD j d ∈ L := by rw [getD_at h]; exact List.getElem_mem _
theorem GF.camp {n : Nat} {W : Nat → Nat → Int} {rs first f : List Nat} (ww : Web n W) (h : GF (fun j => cmpL n W (rs.getD j 0)) first rs.length f) (hcov : ∀ k, k < n → ∃ r ∈ rs, k ∈ cmpL n W r) (hf : IsCamp n W first) : Lot n (canon n f) ∧ IsCamp n W (canon n f) := by
  refine ⟨lot_filter n _, fun x y hxy hyn hw => ?_⟩
  have hx : x < n := by omega
  have e : ∀ z, z < n → (z ∈ canon n f ↔ z ∈ f) := fun z hz => by
    unfold canon
    rw [List.mem_filter, List.mem_range, decide_eq_true_iff]
    exact ⟨fun h => h.2, fun h => ⟨hz, h⟩⟩
  obtain ⟨r, hr, hxr⟩ := hcov x hx
  obtain ⟨j, hj, rfl⟩ := List.mem_iff_getElem.mp hr
  have hyr : y ∈ cmpL n W rs[j] := mem_cmp.mpr ⟨hyn, (mem_cmp.mp hxr).2.step hx hyn hw⟩
  rw [← hf x y hxy hyn hw]
  have s := h.side j hj
  simp only [getD_at hj] at s
  rcases s with s | s
  · have a := s x hxr
    have b := s y hyr
    rw [← e x hx] at a
    rw [← e y hyn] at b
    simp only [a, b]
  · have a := s x hxr
    have b := s y hyr
    rw [← e x hx] at a
    rw [← e y hyn] at b
    simp only [a, b]
    by_cases h1 : x ∈ first <;> by_cases h2 : y ∈ first <;> simp [h1, h2]
theorem pre_map {α : Type} {g : α → PyData} {fs : List α} : ∀ {es : List PyData}, (∀ e ∈ es, ∃ f ∈ fs, e = g f) → ∃ l : List α, es = l.map g ∧ ∀ f ∈ l, f ∈ fs
  | [], _ => ⟨[], rfl, fun _ h => by cases h⟩
  | e :: es, h => by
    obtain ⟨f, hf, rfl⟩ := h e List.mem_cons_self
    obtain ⟨l, rfl, hl⟩ := pre_map (es := es) fun e he => h e (List.mem_cons_of_mem _ he)
    exact ⟨f :: l, rfl, fun x hx => by rcases List.mem_cons.mp hx with rfl | hx; exact hf; exact hl x hx⟩
theorem alike_ints : ∀ xs ys : List Int, PySem.W.alikeAll (xs.map PyData.int) (ys.map PyData.int) = true
  | [], _ => by simp [PySem.W.alikeAll]
  | _ :: _, [] => by simp [PySem.W.alikeAll]
  | x :: xs, y :: ys => by
    simp only [List.map_cons, PySem.W.alikeAll, alike_ints xs ys, Bool.and_true]
    simp [PySem.W.alike]
def pairD (n : Nat) (f : List Nat) : PyData := .tuple [.int (f.length : Nat), natD (canon n f)]
theorem alike_pair (n : Nat) (f f' : List Nat) : PySem.W.alike (pairD n f) (pairD n f') = true := by
  simp only [pairD, PySem.W.alike, PySem.W.alikeAll, alike_ints, Bool.and_true]
theorem Shp.nat {L : List Nat} : Shp 1 (natD L) := .tup fun d hd => by
  obtain ⟨x, _, rfl⟩ := List.mem_map.mp hd
  exact .int
theorem Shp.pair {n : Nat} {f : List Nat} : Shp 2 (pairD n f) := .tup fun d hd => by
  rcases List.mem_cons.mp hd with rfl | hd
  · exact .int
  · rw [List.mem_singleton.mp hd]; exact .nat
section
variable {P : Program} {w : World} {K : PySem.W.Frag} {mg : Str → Option Value} {base : Heap} {SE IW IT NB TM fI : Addr} {fd : FuncData}
def R_camps : List PyData → PyData → Prop := fun ds d => ∃ n W, ∃ Ls : List (List Nat), ds = [matD n W] ∧ Web n W ∧ (∀ L ∈ Ls, Lot n L ∧ IsCamp n W L) ∧ Ls.length ≤ 1024 ∧ d = .list (Ls.map natD)
theorem sc_camps_of : FnScope ["web", "first", "found", "piece", "half", "rest", "size", "lot", "more", "place"] ["web"] (defScope (topS 44)) := ⟨rfl, rfl, rfl, by decide +kernel, rfl, by decide +kernel, by decide +kernel⟩
theorem c_camps_of (T : Txt K mg) : Cal P w K mg base CX0 5 "camps_of" ["web"] (spS K PreB R_camps) := by
  have c_camp_of := c_camp_of (P := P) (w := w) (base := base) T
  have c_pieces_of := c_pieces_of (P := P) (w := w) (base := base) T
  refine T.d_camps_of.cal sc_camps_of (spS_len fun ds ⟨n, W, e, _⟩ => by rw [e]; rfl) (fun f cdv A outer s H vs Q E hr ⟨F, ds, z, ha, pre, q⟩ => ?_)
  have nd := sc_camps_of.nd
  have pre' := pre
  obtain ⟨n, W, rfl, ww, bal⟩ := pre'
  have hn10 := ww.hi
  obtain ⟨v1, rfl, h1⟩ := DpAll.one_inv ha
  refine ⟨_, (pss_cons (ps_set (i := 1) nd rfl (Or.inr rfl) (pe_cal c_camp_of hr (by decide) pass0 (pa_cons (pv 0) pa_nil)))
      (pss_cons (ps_set (i := 2) nd rfl (Or.inl rfl) (pe_lst (pa_cons (pe_tup pa_nil) pa_nil)))
      (pss_cons (ps_for PassesOwn.never rfl (kLst K (pe_cal c_pieces_of hr (by decide) pass0 (pa_cons (pv 0) pa_nil))) (pg_name (i := 3) nd rfl (Or.inl rfl)) (pss_cons (ps_set (i := 4) nd rfl (Or.inr rfl) (q_tuple K T.tuple_n (pe_lc (own := [("place", 9)]) rfl nd (kTup K (pv 3)) (blkOk_by (by kernel_rfl)) (fun _ _ _ _ _ => (pg_name (i := 9) nd rfl (Or.inl rfl))) (fun _ _ _ _ _ => (pts_one (pt_cmpR (kIn K) (pv 9) (pv 1) (by rfl)))) (fun _ _ _ _ _ => (pv 9)))))
        (pss_cons (ps_set (i := 5) nd rfl (Or.inr rfl) (q_tuple K T.tuple_n (pe_lc (own := [("place", 9)]) rfl nd (kTup K (pv 3)) (blkOk_by (by kernel_rfl)) (fun _ _ _ _ _ => (pg_name (i := 9) nd rfl (Or.inl rfl))) (fun _ _ _ _ _ => (pts_one (pt_cmpR (kNotIn K) (pv 9) (pv 1) (by rfl)))) (fun _ _ _ _ _ => (pv 9)))))
        (pss_one (ps_setLc2 (i := 2) (own := [("lot", 7), ("more", 8)]) (vs1 := [8]) rfl nd rfl rfl (sw_true rfl rfl rfl (by decide +kernel)) (kLst K (pv 2)) (blkOk_by (by kernel_rfl)) (by decide) (fun _ _ _ _ _ => (pg_name (i := 7) nd rfl (Or.inl rfl))) (fun _ _ _ _ _ => pts_nil) (fun _ _ _ _ _ => (kTup K (pe_tup (pa_cons (pv 4) (pa_cons (pv 5) pa_nil))))) (fun _ _ _ _ _ => (pg_name (i := 8) nd rfl (Or.inl rfl))) (fun _ _ _ _ _ => pts_nil) (fun _ _ _ _ _ => (pe_op (kCatA K) (pv 7) (pv 8))))))))
      (pss_one (ps_ret (pe_lc (own := [("size", 6), ("lot", 7)]) rfl nd (kLst K (q_sortD K 2 (hu4 hr) T.sorted_n (pe_lc (own := [("lot", 7)]) rfl nd (kLst K (pv 2)) (blkOk_by (by kernel_rfl)) (fun _ _ _ _ _ => (pg_name (i := 7) nd rfl (Or.inl rfl))) (fun _ _ _ _ _ => pts_nil) (fun _ _ _ _ _ => (pe_tup (pa_cons (q_len K T.len_n (pv 7)) (pa_cons (q_tuple K T.tuple_n (q_sortIT K T.sorted_n (pv 7))) pa_nil))))))) (blkOk_by (by kernel_rfl)) (fun _ _ _ _ _ => (kPgT (n := 2) K rfl (pgs_cons (pg_name (i := 6) nd rfl (Or.inl rfl)) (pgs_cons (pg_name (i := 7) nd rfl (Or.inl rfl)) pgs_nil)))) (fun _ _ _ _ _ => pts_nil) (fun _ _ _ _ _ => (pv 7)))))))), ?_⟩
  refine st_seq (st_asg z (evp_callS (K := K) (eva_one (evd_var rfl h1)) pre) fun vl F1 H1 g1 ⟨d1, hd1, p1⟩ => ?_)
  obtain ⟨n', W', first, e, _, lot1, camp1, rfl⟩ := hd1
  injection e with e _
  obtain ⟨rfl, hWW⟩ := mat_inj e
  replace camp1 : IsCamp n W first := camp_congr (fun x y hx hy => (hWW x y hx hy).symm) camp1
  clear e hWW
  dsimp only
  refine st_seq (st_asg g1.fh (evd_lst (K := K) (eva_one (evd_tup eva_nil (by decide))) (by decide)) fun vf F2 H2 g2 p2 => ?_)
  dsimp only
  have gA := g1.trans g2
  refine st_seq (st_forE gA.fh (evp_callS (K := K) (eva_one (evd_var rfl (h1.up gA.f))) ⟨n, W, rfl, ww⟩) fun vp F3 H3 g3 ⟨d3, hd3, p3⟩ => ?_)
  obtain ⟨n', W', rs, e, ww', ⟨hrn, hpw⟩, hlen, hcov, rfl⟩ := hd3
  injection e with e _
  obtain ⟨rfl, hWW⟩ := mat_inj e
  have hp2 : rs.length ≤ 10 := by omega
  have gB := gA.trans g3
  have hpl := p1.up (g2.trans g3).f
  have hdis : ∀ i j, j < i → i < rs.length → ∀ x, x ∈ cmpL n W' (rs.getD j 0) → x ∉ cmpL n W' (rs.getD i 0) := fun i j hj hi x => by
    rw [getD_at hi, getD_at (by omega)]
    exact List.pairwise_iff_getElem.mp hpw j i (by omega) hi hj x
  refine st_for (n := (pcsD n W' rs).length) (item := fun i => (pcsD n W' rs).getD i .none) (fun i σ' F' H' => ∃ u3 u4 u5 vf, ∃ fs : List (List Nat), σ' = [some v1, some vl, some vf, u3, u4, u5, none, none, none, none] ∧ Gr F H F' H' ∧ Same F3 F' ∧ Dp K F' vf (.list (fs.map natD)) ∧ fs.length ≤ 2 ^ i ∧ ∀ f ∈ fs, GF (fun j => cmpL n W' (rs.getD j 0)) first i f)
    gB.fh (iwd_lst (evd_c p3)) (fun F4 H4 g4 => ⟨none, none, none, vf, [[]], rfl, gB.trans g4, g4.f, p2.up (g3.trans g4).f, Nat.le_refl _, fun f hf => by rw [List.mem_singleton.mp hf]; exact ⟨List.Pairwise.nil, (fun x h => by cases h), fun j h => absurd h (Nat.not_lt_zero _)⟩⟩) ?_ ?_
  · rintro i σ' F' H' F'' H'' x N hi f' z' ⟨u3, u4, u5, vf, fs, rfl, gg, fs3, hvf, hfl, hGF⟩ g' hx hN
    rw [List.length_map] at hi
    have ei : (pcsD n W' rs).getD i .none = natD (cmpL n W' (rs.getD i 0)) := by rw [getD_at (by rw [List.length_map]; exact hi), List.getElem_map, getD_at hi]
    rw [ei] at hx
    have hCn := lot_nodup (cmp_lot n W' (rs.getD i 0))
    have hCl := (cmp_lot n W' (rs.getD i 0)).len
    have hdi : ∀ j, j < i → ∀ x, x ∈ cmpL n W' (rs.getD j 0) → x ∉ cmpL n W' (rs.getD i 0) := fun j hj => hdis i j hj hi
    generalize hCe : cmpL n W' (rs.getD i 0) = C at hx hCn hCl hdi
    have gC := gg.trans g'
    have hl2 := hpl.up (fs3.trans g'.f)
    have hpow : 2 ^ i ≤ 2 ^ 10 := Nat.pow_le_pow_right (by decide) (by omega)
    have filt : ∀ b : Bool, PyData.tuple (picks C.length (fun k => decide (C.getD k 0 ∈ first) == b) fun k => .int (C.getD k 0 : Nat)) = natD (C.filter fun y => decide (y ∈ first) == b) := fun b => by
      rw [natD_eq]
      exact congrArg PyData.tuple (picks_filter (ns := C) (a0 := 0) (p := fun y => decide (y ∈ first) == b) (f := fun y => .int (y : Nat)))
    show tSeq _ _ _ [some v1, some vl, some vf, some x, u4, u5, none, none, none, none] H''
    refine st_seq (st_asg g'.fh (evd_eq (evd_tupL (K := K) (evd_lcI (g := fun k => (C.getD k 0 : Nat)) (fun k => decide (C.getD k 0 ∈ first) == true) (fun k => .int (C.getD k 0 : Nat)) (iwd_nats (evd_var rfl hx)) (by omega) (fun k F5 H5 hk f5 hh5 z5 => evt_eq (evt_test (evd_inT (neg := false) (n := (C.getD k 0 : Nat)) (evd_vari rfl) (evd_var rfl (hl2.up f5)))) ?_) fun k F5 H5 hk _ f5 hh5 z5 => evd_vari rfl)) (filt true)) fun vh F5 H5 g5 p5 => ?_)
    · simp only [nat_mem, Bool.false_eq_true, if_false, beq_true]
    dsimp only
    refine st_seq (st_asg g5.fh (evd_eq (evd_tupL (K := K) (evd_lcI (g := fun k => (C.getD k 0 : Nat)) (fun k => decide (C.getD k 0 ∈ first) == false) (fun k => .int (C.getD k 0 : Nat)) (iwd_nats (evd_var rfl (hx.up g5.f))) (by omega) (fun k F6 H6 hk f6 hh6 z6 => evt_eq (evt_test (evd_inT (neg := true) (n := (C.getD k 0 : Nat)) (evd_vari rfl) (evd_var rfl (hl2.up (g5.f.trans f6))))) ?_) fun k F6 H6 hk _ f6 hh6 z6 => evd_vari rfl)) (filt false)) fun vr F6 H6 g6 p6 => ?_)
    · simp only [nat_mem, if_true, beq_false]
    dsimp only
    have g56 := g5.trans g6
    have p5' := p5.up g6.f
    have gD := gC.trans g56
    have hvf' := hvf.up (g'.trans g56).f
    have e2 : ∃ fs2 : List (List Nat), picks2 fs.length (fun _ => true) (fun _ => 2) (fun _ _ => true) (fun i j => natD (fs.getD i [] ++ if j = 0 then C.filter fun y => decide (y ∈ first) == true else C.filter fun y => decide (y ∈ first) == false)) = fs2.map natD ∧ fs2.length = fs.length * 2 ∧ ∀ f ∈ fs2, ∃ g ∈ fs, ∃ b : Bool, f = g ++ C.filter fun y => decide (y ∈ first) == b := by
      refine ⟨(List.range fs.length).flatMap fun i => (List.range 2).map fun j => fs.getD i [] ++ if j = 0 then C.filter fun y => decide (y ∈ first) == true else C.filter fun y => decide (y ∈ first) == false, ?_, ?_, fun f hf => ?_⟩
      · unfold picks2
        rw [List.filter_eq_self.mpr fun _ _ => rfl, List.map_flatMap]
        refine congrArg (fun h => List.flatMap h (List.range fs.length)) (funext fun i => ?_)
        unfold picks
        rw [List.filter_eq_self.mpr fun _ _ => rfl, List.map_map]
        rfl
      · rw [List.length_flatMap]
        simp [List.map_const', Function.comp_def]
      · obtain ⟨i, hi, h⟩ := List.mem_flatMap.mp hf
        obtain ⟨j, hj, rfl⟩ := List.mem_map.mp h
        refine ⟨_, getD_mem (d := []) (List.mem_range.mp hi), decide (j = 0), ?_⟩
        by_cases hj : j = 0
        · rw [if_pos hj, decide_eq_true hj]
        · rw [if_neg hj, decide_eq_false hj]
    obtain ⟨fs2, ef, el, em⟩ := e2
    refine st_asg g6.fh (evd_eq (evd_lc2 (K := K) (B := 2) (fun _ => true) (fun _ => 2) (fun i j => if j = 0 then natD (C.filter fun y => decide (y ∈ first) == true) else natD (C.filter fun y => decide (y ∈ first) == false)) (fun _ _ => true) (fun i j => natD (fs.getD i [] ++ if j = 0 then C.filter fun y => decide (y ∈ first) == true else C.filter fun y => decide (y ∈ first) == false))
      (n := fs.length) (item := fun i => natD (fs.getD i [])) ?_ (fun _ _ => Nat.le_refl _) (by omega) (by decide)
      (fun _ _ _ _ _ _ => tgd_name) (by rintro _ _ _ ⟨x, rfl, _⟩; rfl) (by rintro _ _ _ _ ⟨x, e, hx⟩ f; exact ⟨x, e, hx.up f⟩) (fun _ _ _ _ _ _ _ _ _ => evt_yes) ?_ (fun _ _ _ _ _ _ _ _ _ _ => tgd_name) (by rintro _ _ _ _ _ ⟨y, rfl, _⟩; exact wipe_set (by decide)) (fun _ _ _ _ _ _ _ _ _ _ _ _ _ => evt_yes) ?_) (congrArg PyData.list ef)) fun v7 F7 H7 g7 p7 => ?_
    · have h := iwd_lst (K := K) (te := tVar 2) (σ := [some v1, some vl, some vf, some x, some vh, some vr, none, none, none, none]) (ds := fs.map natD) (H := H6) (evd_var rfl hvf')
      rw [List.length_map] at h
      exact h.congr fun k hk => by rw [getD_at (by rw [List.length_map]; exact hk), List.getElem_map, getD_at hk]
    · rintro k σ2 F7 H7 hk _ f7 hh7 z7 ⟨u, rfl, hu⟩
      refine (iwd_tup (ds := [natD (C.filter fun y => decide (y ∈ first) == true), natD (C.filter fun y => decide (y ∈ first) == false)]) (evd_tup (eva_cons (evd_var rfl (p5'.up f7)) (eva_one (evd_var rfl (p6.up f7)))) (by simp))).congr fun j hj => ?_
      rcases (show j = 0 ∨ j = 1 from by have : j < 2 := hj; omega) with rfl | rfl <;> rfl
    · rintro k j σ2 σ3 F7 H7 hk hj _ f7 hh7 z7 ⟨u, rfl, hu⟩ ⟨y, rfl, hy⟩
      have hlen1 : (fs.getD k []).length ≤ n := by
        have hg := hGF _ (getD_mem (d := []) hk)
        refine nodup_len hg.nd fun x hx => ?_
        obtain ⟨j, _, h⟩ := hg.src x hx
        exact (mem_cmp.mp h).1
      have hlen2 : ∀ b : Bool, (C.filter fun y => decide (y ∈ first) == b).length ≤ n := fun b => Nat.le_trans (List.length_filter_le _ _) hCl
      have fin : ∀ M : List Nat, Dp K F7 y (natD M) → M.length ≤ n → EvD K (tOp (rCatA K) (tVar 7) (tVar 8)) [some v1, some vl, some vf, some x, some vh, some vr, none, some u, some y, none] F7 H7 (natD (fs.getD k [] ++ M)) := fun M hM hl => by
        rw [natD_eq (fs.getD k [] ++ M), natsD, List.map_append]
        rw [natD_eq] at hM hu
        exact evd_catT (evd_var rfl hu) (evd_var rfl hM) (by rw [List.length_map, List.length_map]; omega)
      by_cases h0 : j = 0
      · rw [if_pos h0] at hy ⊢
        exact fin _ hy (hlen2 true)
      · rw [if_neg h0] at hy ⊢
        exact fin _ hy (hlen2 false)
    · refine hN _ F7 H7 (g56.trans g7).f g7.fh ⟨_, _, _, v7, fs2, rfl, gD.trans g7, fs3.trans (g'.trans (g56.trans g7)).f, p7, by rw [el, Nat.pow_succ]; omega, fun f hf => ?_⟩
      obtain ⟨g, hg, b, rfl⟩ := em f hf
      have := (hGF g hg).step (b := b) (by show (cmpL n W' (rs.getD i 0)).Nodup; rw [hCe]; exact hCn) (by show ∀ j, j < i → ∀ x, x ∈ cmpL n W' (rs.getD j 0) → x ∉ cmpL n W' (rs.getD i 0); rw [hCe]; exact hdi)
      simp only [hCe] at this
      exact this
  · rintro σ' F' H' f' z' ⟨u3, u4, u5, vf, fs, rfl, gg, fs3, hvf, hfl, hGF⟩
    rw [List.length_map] at hfl hGF
    have hpow : 2 ^ rs.length ≤ 2 ^ 10 := Nat.pow_le_pow_right (by decide) (by omega)
    have hfs : fs.length ≤ 1024 := Nat.le_trans hfl hpow
    have hlt : ∀ f ∈ fs, ∀ x ∈ f, x < n := fun f hf x hx => by
      obtain ⟨j, _, h⟩ := (hGF f hf).src x hx
      exact (mem_cmp.mp h).1
    dsimp only
    refine st_ret (P := fun v F5 _ => ∃ l : List (List Nat), (∀ f ∈ l, f ∈ fs) ∧ l.length ≤ 1024 ∧ Dp K F5 v (.list ((l.map (canon n)).map natD))) z' (evp_lcE (evp_sortD (ds := fs.map (pairD n)) (B := 2) (evd_eq (evd_lcD0 (K := K) (s := 7) (vs := [7]) (g := fun k => natD (fs.getD k [])) (n := fs.length) (fun k => pairD n (fs.getD k [])) ?_ (by omega) fun k v F5 H5 hk f5 hh5 z5 hv => ?_) (congrArg PyData.list (rng_map (ns := fs) (a0 := []) (f := pairD n)))) (PySem.W.AllAlike.of (alike_pair n)) (PySem.W.Sortable.tuples fun f => ⟨_, _, rfl⟩) (fun d hd => by
        obtain ⟨f, _, rfl⟩ := List.mem_map.mp hd
        exact Shp.pair.2)) fun v F5 H5 f5 hh5 ⟨es, hpe, p5⟩ => ?_) fun v F5 H5 g5 ⟨l, hl, hl2, p5⟩ => ?_
    · have h := iwd_lst (K := K) (te := tVar 2) (σ := [some v1, some vl, some vf, u3, u4, u5, none, none, none, none]) (ds := fs.map natD) (H := H') (evd_var rfl hvf)
      rw [List.length_map] at h
      exact h.congr fun k hk => by rw [getD_at (by rw [List.length_map]; exact hk), List.getElem_map, getD_at hk]
    · have hmem : fs.getD k [] ∈ fs := by rw [getD_at hk]; exact List.getElem_mem _
      have hnd := (hGF _ hmem).nd
      have hl := nodup_len hnd (hlt _ hmem)
      refine evd_tup (eva_cons (evd_eq (evd_lenT (evd_var rfl hv)) (by rw [List.length_map, List.length_map])) (eva_one (evd_tupL (evd_sorted (n := n) hnd (hlt _ hmem) (evp_sortT (evd_var rfl hv) (by rw [List.length_map]; omega)))))) (by simp)
    · obtain ⟨l, rfl, hl⟩ := pre_map (g := pairD n) (fs := fs) (es := es) fun e he => by
        obtain ⟨f, hf, rfl⟩ := List.mem_map.mp (hpe.mem_iff.mp he)
        exact ⟨f, hf, rfl⟩
      have hll : l.length = fs.length := by have := hpe.length_eq; rwa [List.length_map, List.length_map] at this
      refine EvP.imp (evd_lcQ0 (K := K) (s := 6) (s1 := 7) (vs := [6, 7]) (g := fun k => .int ((l.getD k []).length : Nat)) (g1 := fun k => natD (canon n (l.getD k []))) (n := l.length) (fun k => natD (canon n (l.getD k []))) ?_ (by omega) fun k x y F6 H6 hk f6 hh6 z6 hx hy => evd_var rfl hy) fun v F6 H6 p6 => ⟨l, hl, by omega, ?_⟩
      · have h := iwd_lst (K := K) (te := tC v) (σ := [some v1, some vl, some vf, u3, u4, u5, none, none, none, none]) (ds := l.map (pairD n)) (H := H5) (evd_c p5)
        rw [List.length_map] at h
        exact h.congr fun k hk => by rw [getD_at (by rw [List.length_map]; exact hk), List.getElem_map, getD_at hk]; rfl
      · rw [List.map_map]
        rw [← rng_map (ns := l) (a0 := [])]
        exact p6
    · refine q v F5 H5 _ ⟨n, W, l.map (canon n), rfl, ww, fun L hL => ?_, by rw [List.length_map]; exact hl2, rfl⟩ (gg.trans g5) p5
      obtain ⟨f, hf, rfl⟩ := List.mem_map.mp hL
      have h := (hGF f (hl f hf)).camp ww' hcov (camp_congr hWW camp1)
      exact ⟨h.1, camp_congr (fun x y hx hy => (hWW x y hx hy).symm) h.2⟩
theorem sc_camps : FnScope ["web"] ["web"] (defScope (topS 45)) := ⟨rfl, rfl, rfl, by decide +kernel, rfl, by decide +kernel, by decide +kernel⟩
theorem c_camps (T : Txt K mg) (Er : Errs P K mg SE IW IT NB TM fI fd) : Cal P w K mg base CX0 6 "camps" ["web"] (spS K PreB R_camps) := by
  have c_check_web := (c_check_web (P := P) (w := w) (base := base) T Er).noX
  have c_camps_of := c_camps_of (P := P) (w := w) (base := base) T
  refine T.d_camps.cal sc_camps (spS_len fun ds ⟨n, W, e, _⟩ => by rw [e]; rfl) (fun f cdv A outer s H vs Q E hr ⟨F, ds, z, ha, pre, q⟩ => ?_)
  have nd := sc_camps.nd
  have pre' := pre
  obtain ⟨n, W, rfl, ww, bal⟩ := pre'
  obtain ⟨v1, rfl, h1⟩ := DpAll.one_inv ha
  refine ⟨_, (pss_cons (ps_expr (pe_cal c_check_web hr (by decide) pass0 (pa_cons (pv 0) pa_nil)))
      (pss_one (ps_ret (pe_cal c_camps_of hr (by decide) pass0 (pa_cons (pv 0) pa_nil))))), ?_⟩
  refine st_seq (st_drop z (evp_callE0 (K := K) (eva_one (evd_var rfl h1)) ⟨_, rfl⟩ (fun cls d F' H' h => by obtain ⟨a, e, nw, _⟩ := h; injection e with e _; exact nw (by rw [← e]; exact isWeb_mat.mpr ww))) fun _ F1 H1 g1 _ => ?_)
  exact st_ret g1.fh (evp_callS (K := K) (eva_one (evd_var rfl (h1.up g1.f))) pre) fun v F2 H2 g2 ⟨d, hd, p2⟩ => q v F2 H2 d hd (g1.trans g2) p2
end
end Sg
set_option maxRecDepth 100000
set_option maxHeartbeats 4000000
/-! Dv12: evaluation where a list of two ints (the well) is written at the address p. -/
namespace Dv
open PySem PySem.Spec L2
def Wl (p : Addr) (H : Hp) : Prop := ∃ g s : Int, H p = some (.lst [.int g, .int s])
structure GrW (p : Addr) (F H F' H' : Hp) : Prop where
  f : Same F F'
  h : ∀ b o, b ≠ p → H b = some o → H' b = some o
  fh : Same F' H'
  nw : ∀ b o, F' b = some o → F b = some o ∨ H b = none
  wl : Wl p H'
structure WS (p : Addr) (F H : Hp) : Prop where
  z : Same F H
  wl : Wl p H
  po : F p = none
section
variable {K : PySem.W.Frag} {σ : St} {F F' H H' H0 F0 H2 F2 H1 F1 : Hp} {te ta tb : TE} {tt : TT} {tr : TA} {i j : Int} {p q : Addr} {v : V} {d : PyData} {ds es : List PyData} {D : Ends}
theorem WS.refl (ws : WS p F H) : GrW p F H F H := ⟨Same.refl F, fun _ _ _ e => e, ws.z, fun _ _ e => .inl e, ws.wl⟩
theorem GrW.ne {b : Addr} (wl : Wl p H) (h : H b = none) : b ≠ p := fun e => by obtain ⟨g, s, h2⟩ := wl; rw [e, h2] at h; cases h
theorem WS.up (ws : WS p F H) (g : GrW p F H F' H') : WS p F' H' := ⟨g.fh, g.wl, by
  cases e : F' p with
  | none => rfl
  | some o =>
    rcases g.nw p o e with h | h
    · rw [ws.po] at h; cases h
    · exact (GrW.ne ws.wl h rfl).elim⟩
theorem GrW.trans (a : GrW p F H F1 H1) (b : GrW p F1 H1 F2 H2) : GrW p F H F2 H2 := by
  refine ⟨a.f.trans b.f, fun c o n e => b.h c o n (a.h c o n e), b.fh, fun c o e => ?_, b.wl⟩
  rcases b.nw c o e with h | h
  · exact a.nw c o h
  · refine .inr ?_
    by_cases hc : c = p
    · subst hc; exact (GrW.ne a.wl h rfl).elim
    · cases e2 : H c with
      | none => rfl
      | some u => rw [a.h c u hc e2] at h; cases h
theorem GrW.of (ws : WS p F H) (g : Gr F H F' H') : GrW p F H F' H' := ⟨g.f, fun b o _ e => g.h b o e, g.fh, g.nw, let ⟨a, b, e⟩ := ws.wl; ⟨a, b, g.h _ _ e⟩⟩
theorem GrW.own {a b : Int} {o : HO} (g : Gr F H F1 H1) (h : Own K H0 F1 (upd H1 p o) p [.int a, .int b]) : GrW p F H F1 (upd H1 p o) :=
  ⟨g.f, fun c u n e => by rw [upd_ne n]; exact g.h _ _ e, same_mut g.fh h.out, g.nw, by
    obtain ⟨xs, e, hx⟩ := h.at_
    obtain ⟨u, w, rfl, h1, h2⟩ := DpAll.two_inv hx
    obtain rfl := h1.int_inv
    obtain rfl := h2.int_inv
    exact ⟨a, b, e⟩⟩
/-- a list of our own, apart from the well -/
theorem Own.upW (h : Own K H0 F H q ds) (hq : q ≠ p) (g : GrW p F H F' H') : Own K H0 F' H' q ds :=
  ⟨h.nw, (by
    obtain ⟨xs, a, _⟩ := h.at_
    cases e : F' q with
    | none => rfl
    | some o =>
      rcases g.nw q o e with z | z
      · rw [h.out] at z; cases z
      · rw [a] at z; cases z), let ⟨xs, a, b⟩ := h.at_; ⟨xs, g.h _ _ hq a, b.up g.f⟩⟩
def EvW (p : Addr) (te : TE) (σ : St) (F H : Hp) (P : V → Hp → Hp → Prop) : Prop :=
  ∀ F1 H1, GrW p F H F1 H1 → WS p F1 H1 → ∀ Q : VK, (∀ v F2 H2, GrW p F1 H1 F2 H2 → P v F2 H2 → Q v H2) → te σ H1 Q
abbrev EvWD (K : PySem.W.Frag) (p : Addr) (te : TE) (σ : St) (F H : Hp) (B : PyData → Prop) : Prop := EvW p te σ F H fun v F2 _ => ∃ d, B d ∧ Dp K F2 v d
def EvTW (p : Addr) (tt : TT) (σ : St) (F H : Hp) : Prop := ∀ F1 H1, GrW p F H F1 H1 → WS p F1 H1 → ∀ Q : Bool → Hp → Prop, (∀ b F2 H2, GrW p F1 H1 F2 H2 → Q b H2) → tt σ H1 Q
def isI (A : Int → Prop) : PyData → Prop := fun d => ∃ i, d = .int i ∧ A i
def isB : PyData → Prop := fun d => ∃ b, d = .bool b
theorem EvW.mono {P : V → Hp → Hp → Prop} (ws : WS p F H) (g : GrW p F H F' H') (h : EvW p te σ F H P) : EvW p te σ F' H' P := fun F1 H1 a w => h F1 H1 (g.trans a) w
theorem EvW.imp {P R : V → Hp → Hp → Prop} (h : EvW p te σ F H P) (k : ∀ v F2 H2, P v F2 H2 → R v F2 H2) : EvW p te σ F H R := fun F1 H1 a w Q q => h F1 H1 a w Q fun v F2 H2 g r => q v F2 H2 g (k _ _ _ r)
theorem evw_of {P : V → Hp → Hp → Prop} (h : ∀ F1 H1, GrW p F H F1 H1 → EvP te σ F1 H1 P) : EvW p te σ F H P := fun F1 H1 g ws Q q =>
  h F1 H1 g F1 H1 (Same.refl _) (Same.refl _) ws.z Q fun v F2 H2 g2 p2 => q v F2 H2 (.of ws g2) p2
theorem evw_d {B : PyData → Prop} (hd : B d) (h : ∀ F1 H1, GrW p F H F1 H1 → EvD K te σ F1 H1 d) : EvWD K p te σ F H B := evw_of fun F1 H1 g => (h F1 H1 g).imp fun v F2 H2 p2 => ⟨d, hd, p2⟩
theorem evtw_of {b : Bool} (h : ∀ F1 H1, GrW p F H F1 H1 → EvT tt σ F1 H1 b) : EvTW p tt σ F H := fun F1 H1 g ws Q q => h F1 H1 g F1 H1 (Same.refl _) (Same.refl _) ws.z Q fun F2 H2 g2 => q b F2 H2 (.of ws g2)
theorem evw_op {r : R2} {B1 B2 B3 : PyData → Prop} (ha : EvWD K p ta σ F H B1) (hb : EvWD K p tb σ F H B2)
    (hop : ∀ d e u v F1 H1, Same F F1 → B1 d → B2 e → Dp K F1 u d → Dp K F1 v e → ∃ d', B3 d' ∧ EvD K (tOp r (tC u) (tC v)) σ F1 H1 d') : EvWD K p (tOp r ta tb) σ F H B3 := fun F1 H1 g ws Q q => by
  refine ha F1 H1 g ws (fun x H2 => tb σ H2 fun y H3 => r x y H3 Q) fun u F2 H2 g2 ⟨d, bd, pd⟩ => ?_
  have ws2 := ws.up g2
  have gA : GrW p F H F2 H2 := g.trans g2
  refine hb F2 H2 gA ws2 (fun y H3 => r u y H3 Q) fun v F3 H3 g3 ⟨e, be, pe⟩ => ?_
  obtain ⟨d', hd', ev⟩ := hop d e u v F3 H3 (gA.f.trans g3.f) bd be (pd.up g3.f) pe
  exact ev F3 H3 (Same.refl _) (Same.refl _) g3.fh Q fun w F4 H4 g4 p4 => q w F4 H4 ((g2.trans g3).trans (.of (ws2.up g3) g4)) ⟨d', hd', p4⟩
/-- the hole is evaluated first -/
theorem evw_bind {B : PyData → Prop} {P : V → Hp → Hp → Prop} (tk : V → TE) (e : ∀ H Q, te σ H Q = ta σ H fun v H1 => tk v σ H1 Q) (ha : EvWD K p ta σ F H B)
    (hk : ∀ v d F1 H1, Same F F1 → B d → Dp K F1 v d → EvP (tk v) σ F1 H1 P) : EvW p te σ F H P := fun F1 H1 g ws Q q => by
  rw [e]
  refine ha F1 H1 g ws _ fun v F2 H2 g2 ⟨d, bd, pd⟩ => ?_
  exact hk v d F2 H2 (g.f.trans g2.f) bd pd F2 H2 (Same.refl _) (Same.refl _) g2.fh Q fun w F3 H3 g3 p3 => q w F3 H3 (g2.trans (.of (ws.up g2) g3)) p3
theorem evw_opI {g : Int → Int → Int} {A B C : Int → Prop} (ha : EvWD K p ta σ F H (isI A)) (hb : EvWD K p tb σ F H (isI B)) (h : ∀ i j, A i → B j → C (g i j)) : EvWD K p (tOp (rI0 fun a b => .int (g a b)) ta tb) σ F H (isI C) :=
  evw_op ha hb fun d e u v F1 H1 _ ⟨i, ed, ai⟩ ⟨j, ee, bj⟩ hu hv => ⟨_, ⟨_, rfl, h i j ai bj⟩, evd_opI (evd_c (ed ▸ hu)) (evd_c (ee ▸ hv))⟩
theorem evw_cmpI {g : Int → Int → Bool} {A B : Int → Prop} (ha : EvWD K p ta σ F H (isI A)) (hb : EvWD K p tb σ F H (isI B)) : EvWD K p (tOp (rI0 fun a b => .bl (g a b)) ta tb) σ F H isB :=
  evw_op ha hb fun d e u v F1 H1 _ ⟨i, ed, ai⟩ ⟨j, ee, bj⟩ hu hv => ⟨_, ⟨_, rfl⟩, evd_cmpI (evd_c (ed ▸ hu)) (evd_c (ee ▸ hv))⟩
theorem evw_eqI {A B : Int → Prop} (ha : EvWD K p ta σ F H (isI A)) (hb : EvWD K p tb σ F H (isI B)) : EvWD K p (tOp rEq ta tb) σ F H isB :=
  evw_op ha hb fun d e u v F1 H1 _ ⟨i, ed, ai⟩ ⟨j, ee, bj⟩ hu hv => ⟨_, ⟨_, rfl⟩, evd_eqI (evd_c (ed ▸ hu)) (evd_c (ee ▸ hv))⟩
theorem evw_i {A : Int → Prop} (h : A i) : EvWD K p (tC (.int i)) σ F H (isI A) := evw_d ⟨i, rfl, h⟩ fun _ _ _ => evd_i
theorem evw_vari {n : Nat} {A : Int → Prop} (e : σ[n]? = some (some (.int i))) (h : A i) : EvWD K p (tVar n) σ F H (isI A) := evw_d ⟨i, rfl, h⟩ fun _ _ _ => evd_vari e
theorem evtw_test (h : EvWD K p te σ F H isB) : EvTW p (tTest te) σ F H := fun F1 H1 g ws Q q => h F1 H1 g ws _ fun v F2 H2 g2 ⟨d, ⟨b, ed⟩, pd⟩ => by
  subst ed
  exact ⟨b, pd.bl_inv, q b F2 H2 g2⟩
theorem evw_if {P : V → Hp → Hp → Prop} (h : EvTW p tt σ F H) (h1 : EvW p ta σ F H P) (h2 : EvW p tb σ F H P) : EvW p (tIf tt ta tb) σ F H P := fun F1 H1 g ws Q q => by
  refine h F1 H1 g ws _ fun b F2 H2 g2 => ?_
  have gA : GrW p F H F2 H2 := g.trans g2
  cases b with
  | true => exact h1 F2 H2 gA (ws.up g2) Q fun v F3 H3 g3 p3 => q v F3 H3 (g2.trans g3) p3
  | false => exact h2 F2 H2 gA (ws.up g2) Q fun v F3 H3 g3 p3 => q v F3 H3 (g2.trans g3) p3
/-! ### statements -/
theorem stw_asg {n : Nat} {P : V → Hp → Hp → Prop} (ws : WS p F H) (h : EvW p te σ F H P) (k : ∀ v F1 H1, GrW p F H F1 H1 → P v F1 H1 → D.nx (σ.set n (some v)) H1) : tAsg te (gName n) D σ H :=
  h F H ws.refl ws _ k
theorem stw_ret {P : V → Hp → Hp → Prop} (ws : WS p F H) (h : EvW p te σ F H P) (k : ∀ v F1 H1, GrW p F H F1 H1 → P v F1 H1 → D.rt v H1) : tRet te D σ H :=
  h F H ws.refl ws _ k
theorem stw_if {ts tu : TS} (ws : WS p F H) (h : EvTW p tt σ F H) (h1 : ∀ F1 H1, GrW p F H F1 H1 → ts D σ H1) (h2 : ∀ F1 H1, GrW p F H F1 H1 → tu D σ H1) : tIfS tt ts tu D σ H :=
  h F H ws.refl ws _ fun b F1 H1 g => by
    cases b with
    | true => exact h1 F1 H1 g
    | false => exact h2 F1 H1 g
/-! ### arguments, calls that dip into the well -/
def EvAW (K : PySem.W.Frag) (p : Addr) (tr : TA) (σ : St) (F H : Hp) (A : List PyData → Prop) : Prop :=
  ∀ F1 H1, GrW p F H F1 H1 → WS p F1 H1 → ∀ Q : List V → Hp → Prop, (∀ vs F2 H2, GrW p F1 H1 F2 H2 → (∃ ds, A ds ∧ DpAll K F2 vs ds) → Q vs H2) → tr σ H1 Q
theorem evaw_nil : EvAW K p tNil σ F H fun ds => ds = [] := fun F1 H1 g ws Q q => q [] F1 H1 ws.refl ⟨[], rfl, .nil⟩
theorem evaw_cons {B : PyData → Prop} {A : List PyData → Prop} (h : EvWD K p te σ F H B) (hr : EvAW K p tr σ F H A) : EvAW K p (tCons te tr) σ F H fun ds => ∃ d es, ds = d :: es ∧ B d ∧ A es := fun F1 H1 g ws Q q => by
  refine h F1 H1 g ws _ fun v F2 H2 g2 ⟨d, bd, pd⟩ => ?_
  have gA : GrW p F H F2 H2 := g.trans g2
  exact hr F2 H2 gA (ws.up g2) _ fun us F3 H3 g3 ⟨es, he, pe⟩ => q (v :: us) F3 H3 (g2.trans g3) ⟨d :: es, ⟨d, es, rfl, bd, he⟩, .cons (pd.up g3.f) pe⟩
theorem EvAW.imp {A B : List PyData → Prop} (h : EvAW K p tr σ F H A) (k : ∀ ds, A ds → B ds) : EvAW K p tr σ F H B := fun F1 H1 g ws Q q => h F1 H1 g ws Q fun vs F2 H2 g2 ⟨ds, a, b⟩ => q vs F2 H2 g2 ⟨ds, k ds a, b⟩
/-- a def whose first argument is the well -/
def spW (K : PySem.W.Frag) (Pre : List PyData → Prop) (R : List PyData → PyData → Prop) : Sp := fun vs H Q _ => ∃ (F : Hp) (p : Addr) (us : List V) (ds : List PyData), WS p F H ∧ vs = .ref p :: us ∧ DpAll K F us ds ∧ Pre ds ∧ ∀ v F' H' d, R ds d → GrW p F H F' H' → Dp K F' v d → Q v H'
theorem evw_callW {n : Nat} {Pre A : List PyData → Prop} {R : List PyData → PyData → Prop} {B : PyData → Prop} {E : XK} (hn : σ[n]? = some (some (.ref p))) (h : EvAW K p tr σ F H A) (hA : ∀ ds, A ds → Pre ds) (hB : ∀ ds d, A ds → R ds d → B d) :
    EvWD K p (tCall (spW K Pre R) [] E (tCons (tVar n) tr)) σ F H B := fun F1 H1 g ws Q q => by
  refine ⟨.ref p, hn, h F1 H1 g ws (fun us H2 => spW K Pre R ((V.ref p :: us) ++ []) H2 Q E) fun us F2 H2 g2 ⟨ds, hd, pd⟩ => ?_⟩
  rw [List.append_nil]
  exact ⟨F2, p, us, ds, ws.up g2, rfl, pd, hA ds hd, fun v F3 H3 d hR g3 p3 => q v F3 H3 (g2.trans g3) ⟨d, hB ds d hd hR, p3⟩⟩
/-- a def of data, an argument of which dips -/
theorem evw_callD {R : List PyData → PyData → Prop} {A : List PyData → Prop} {B : PyData → Prop} {E : XK} (h : EvAW K p tr σ F H A) (hR : ∀ ds, A ds → ∃ d, R ds d ∧ B d) : EvWD K p (tCall (spD K R) [] E tr) σ F H B := fun F1 H1 g ws Q q => by
  refine h F1 H1 g ws (fun us H2 => spD K R (us ++ []) H2 Q E) fun us F2 H2 g2 ⟨ds, hd, pd⟩ => ?_
  obtain ⟨d, hr, hb⟩ := hR ds hd
  rw [List.append_nil]
  exact ⟨F2, ds, d, g2.fh, pd, hr, fun v F3 H3 g3 p3 => q v F3 H3 (g2.trans (.of (ws.up g2) g3)) ⟨d, hb, p3⟩⟩
end
end Dv
set_option maxRecDepth 100000
set_option maxHeartbeats 4000000
/-! G17: the law's small defs. -/
namespace Dv
open PySem PySem.Spec L2
section
variable {K : PySem.W.Frag} {σ : St} {F F' H H' H0 F0 : Hp} {te ta tb : TE} {i j : Int} {p q : Addr} {d e : PyData} {ds es : List PyData} {D : Ends}
theorem evd_int1 (h : EvD K te σ F H (.int i)) : EvD K (tCB (fun xs H Q => (∃ i, xs = [.int i] ∧ Q (.int i) H) ∨ ∃ k, xs = [.bl k] ∧ Q (.int (if k then 1 else 0)) H) (tCons te tNil)) σ F H (.int i) :=
  evd_cb (eva_one h) fun vs F1 H1 _ _ z p Q q => by
    obtain ⟨v, rfl, hv⟩ := DpAll.one_inv p
    obtain rfl := hv.int_inv
    exact .inl ⟨i, rfl, q _ F1 H1 (.refl z) (.int _)⟩
theorem evd_abs (h : EvD K te σ F H (.int i)) : EvD K (tCB (fun xs H Q => ∃ i, xs = [.int i] ∧ Q (.int (if i < 0 then -i else i)) H) (tCons te tNil)) σ F H (.int (i.natAbs : Nat)) :=
  evd_cb (eva_one h) fun vs F1 H1 _ _ z p Q q => by
    obtain ⟨v, rfl, hv⟩ := DpAll.one_inv p
    obtain rfl := hv.int_inv
    refine ⟨i, rfl, ?_⟩
    have e : (if i < 0 then -i else i) = ((i.natAbs : Nat) : Int) := by split <;> omega
    rw [e]
    exact q _ F1 H1 (.refl z) (.int _)
theorem evd_min2 (h : EvD K ta σ F H (.int i)) (h2 : EvD K tb σ F H (.int j)) : EvD K (tCB (fun xs H Q => ∃ i j, xs = [.int i, .int j] ∧ Q (.int (if j < i then j else i)) H) (tCons ta (tCons tb tNil))) σ F H (.int (if j < i then j else i)) :=
  evd_cb (eva_cons h (eva_one h2)) fun vs F1 H1 _ _ z p Q q => by
    obtain ⟨v, u, rfl, hv, hu⟩ := DpAll.two_inv p
    obtain rfl := hv.int_inv
    obtain rfl := hu.int_inv
    exact ⟨i, j, rfl, q _ F1 H1 (.refl z) (.int _)⟩
theorem OwnL.pln {v : V} (h : OwnL K ds v F H) : PlnL K ds v F H := let ⟨p, xs, e, _, a, b⟩ := h; ⟨p, xs, e, a, b⟩
end
end Dv
namespace Sg
open PySem PySem.Spec L2 Dv
section
variable {P : Program} {w : World} {K : PySem.W.Frag} {mg : Str → Option Value} {base : Heap} {SE IW IT NB TM fI : Addr} {fd : FuncData}
/-! ### the well -/
theorem bits_lt {z : Int} {E : Nat} (h : Builtin.Int.intBits z ≤ E) : z.natAbs < 2 ^ E := by
  unfold Builtin.Int.intBits at h
  split at h
  · rename_i h0
    have : z.natAbs = 0 := by simp at h0; omega
    rw [this]; exact Nat.two_pow_pos E
  · exact Nat.lt_of_lt_of_le Nat.lt_log2_self (Nat.pow_le_pow_right (by decide) h)
theorem great_step {G A E b : Nat} (hG : G < 2 ^ b) (hA : A < 2 ^ E) (hE : 1 ≤ E) : G * (A + 2) + A < 2 ^ (b + (E + 1)) := by
  rw [Nat.pow_add, Nat.pow_succ]
  have h1 : (G + 1) * (A + 2) ≤ 2 ^ b * (2 ^ E * 2) := Nat.mul_le_mul hG (by have : 2 ^ 1 ≤ 2 ^ E := Nat.pow_le_pow_right (by decide) hE; omega)
  rw [Nat.add_mul] at h1
  omega
def Pre_well : List PyData → Prop := fun ds => ∃ ns : List Int, ds = [.list (ns.map PyData.int)] ∧ ns.length ≤ 63 ∧ ∀ z ∈ ns, Builtin.Int.intBits z ≤ 1048576
def R_well : List PyData → List PyData → Prop := fun _ es => ∃ g s : Int, es = [.int g, .int s]
theorem sc_law_well : FnScope ["_law_script", "_law_great", "_law_stirred", "_law_cell"] ["_law_script"] (defScope (topS 52)) := ⟨rfl, rfl, rfl, by decide +kernel, rfl, by decide +kernel, by decide +kernel⟩
theorem c_law_well (T : Txt K mg) : Cal P w K mg base CX0 1 "_law_well" ["_law_script"] (spL K Pre_well R_well) := by
  refine T.d_law_well.cal sc_law_well (spL_len fun ds ⟨ns, e, _⟩ => by rw [e]; rfl) (fun f cdv A outer s H vs Q E hr ⟨F, ds, z, ha, pre, q⟩ => ?_)
  have nd := sc_law_well.nd
  obtain ⟨ns, rfl, hl, hbits⟩ := pre
  obtain ⟨v1, rfl, h1⟩ := DpAll.one_inv ha
  refine ⟨_, (pss_cons (ps_set (i := 1) nd rfl (Or.inl rfl) pe_int)
      (pss_cons (ps_set (i := 2) nd rfl (Or.inl rfl) (q_len K T.len_n (pv 0)))
      (pss_cons (ps_for PassesOwn.never rfl (kLst K (pv 0)) (pg_name (i := 3) nd rfl (Or.inl rfl)) (pss_cons (ps_set (i := 1) nd rfl (Or.inl rfl) (pe_op op_add (pe_op op_mulX (pv 1) (pe_op op_add (pe_callB call_abs rfl T.abs_n bt_abs (pa_cons (pv 3) pa_nil)) pe_int)) (pe_callB call_abs rfl T.abs_n bt_abs (pa_cons (pv 3) pa_nil))))
        (pss_one (ps_set (i := 2) nd rfl (Or.inl rfl) (pe_op op_mod (pe_callTy call_int1 rfl T.int_n bt_int (pa_cons (pe_op op_add (pe_op op_add (pe_op op_mul (pv 2) pe_int) (pe_op op_mul (pv 3) pe_int)) pe_int) pa_nil)) (pe_op op_sub (pe_op op_pow pe_int pe_int) pe_int))))))
      (pss_one (ps_ret (pe_lst (pa_cons (pv 1) (pa_cons (pv 2) pa_nil)))))))), ?_⟩
  obtain ⟨E0, hE0⟩ : ∃ E0, E0 = 1048576 := ⟨_, rfl⟩
  refine st_seq (st_asg z (evd_i (K := K)) fun v2 F2 H2 g2 p2 => ?_)
  obtain rfl := p2.int_inv
  dsimp only
  refine st_seq (st_asg g2.fh (evd_eq (evd_lenL (evd_var rfl (h1.up g2.f))) (by rw [List.length_map])) fun v3 F3 H3 g3 p3 => ?_)
  obtain rfl := p3.int_inv
  have gA := g2.trans g3
  dsimp only
  refine st_seq (st_forI (K := K) (g := fun i => ns.getD i 0) (n := ns.length) (fun i σ' F' H' => ∃ G : Nat, ∃ s : Int, ∃ u, σ' = [some v1, some (.int (G : Nat)), some (.int s), u] ∧ Gr F H F' H' ∧ G < 2 ^ (i * (E0 + 1))) gA.fh (iwd_intsL (evd_var rfl (h1.up gA.f))) (fun F4 H4 g4 => ⟨0, _, none, rfl, gA.trans g4, by simp⟩) ?_ ?_)
  · rintro i σ' F' H' F'' H'' N hi f' z' ⟨G, s, u, rfl, gg, hG⟩ g' hN
    have hc : (ns.getD i 0).natAbs < 2 ^ E0 := bits_lt (by rw [hE0, getD_at hi]; exact hbits _ (List.getElem_mem _))
    generalize ns.getD i 0 = c at hc
    have hGb : Builtin.Int.intBits (G : Int) ≤ i * (E0 + 1) := PyProof.Rows.intBits_le (by simpa using hG)
    have hAb : Builtin.Int.intBits ((c.natAbs : Int) + 2) ≤ E0 + 2 := PyProof.Rows.intBits_le (by
      have h2 : (2 : Nat) ^ (E0 + 2) = 2 ^ E0 * 4 := by rw [Nat.pow_add]
      have h3 : 1 ≤ 2 ^ E0 := Nat.two_pow_pos E0
      omega)
    have him : i * (E0 + 1) ≤ 63 * (E0 + 1) := Nat.mul_le_mul_right _ (by omega)
    have hst := great_step (G := G) hG hc (by omega)
    refine st_seq (st_asg g'.fh (evd_opI (K := K) (g := fun a b => a + b) (evd_opC (C := CMulX) (g := fun a b => a * b) (evd_vari (i := (G : Nat)) rfl) (evd_opI (g := fun a b => a + b) (evd_abs (i := c) (evd_vari rfl)) evd_i) (by unfold CMulX; omega)) (evd_abs (i := c) (evd_vari rfl))) fun v5 F5 H5 g5 p5 => ?_)
    obtain rfl := p5.int_inv
    dsimp only
    refine st_asg g5.fh (evd_opC (K := K) (g := fun a b => a % b) (evd_int1 (evd_opI (g := fun a b => a + b) (evd_opI (g := fun a b => a + b) (evd_opC (C := CMul) (g := fun a b => a * b) (evd_vari rfl) evd_i (.inr (by decide))) (evd_opC (C := CMul) (g := fun a b => a * b) (evd_vari (i := c) rfl) evd_i (.inr (by decide)))) evd_i)) (evd_opI (g := fun a b => a - b) (evd_opC (C := CPow) (g := fun a b => a ^ b.toNat) evd_i evd_i (by unfold CPow; decide)) evd_i) (by decide)) fun v6 F6 H6 g6 p6 => ?_
    obtain rfl := p6.int_inv
    refine hN _ F6 H6 (g5.trans g6).f g6.fh ⟨G * (c.natAbs + 2) + c.natAbs, (s * 31 + c * 2654435761 + 40503) % (2 ^ Int.toNat 61 - 1), some (.int c), ?_, (gg.trans g').trans (g5.trans g6), ?_⟩
    · have e : (G : Int) * ((c.natAbs : Int) + 2) + (c.natAbs : Int) = ((G * (c.natAbs + 2) + c.natAbs : Nat) : Int) := by simp
      rw [e]
      rfl
    · have e : (i + 1) * (E0 + 1) = i * (E0 + 1) + (E0 + 1) := by rw [Nat.add_mul, Nat.one_mul]
      rw [e]
      exact hst
  · rintro σ' F' H' f' z' ⟨G, s, u, rfl, gg, hG⟩
    refine st_ret z' (evp_new (K := K) (eva_cons (evd_vari rfl) (eva_one (evd_vari rfl))) (by simp)) fun v F5 H5 g5 ⟨p, e, hp⟩ => ?_
    exact q v F5 H5 _ ⟨_, _, rfl⟩ (gg.trans g5) ⟨p, e, hp.base gg.h⟩
end
end Sg
set_option maxRecDepth 100000
set_option maxHeartbeats 4000000
/-! G18: dip, many, number, turned, ties. -/
namespace Sg
open PySem PySem.Spec L2 Dv
section
variable {P : Program} {w : World} {K : PySem.W.Frag} {mg : Str → Option Value} {base : Heap} {SE IW IT NB TM fI : Addr} {fd : FuncData}
theorem spW_len {Pre : List PyData → Prop} {R : List PyData → PyData → Prop} {x : Str} {ps : List Str} (h : ∀ ds, Pre ds → ds.length = ps.length) : ∀ vs H Q E, spW K Pre R vs H Q E → vs.length = (x :: ps).length := fun vs H Q E ⟨F, p, us, ds, _, e, a, pre, _⟩ => by rw [e, List.length_cons, List.length_cons, a.len, h ds pre]
def Pre_dip : List PyData → Prop := fun ds => ∃ m : Int, ds = [.int m] ∧ 0 < m ∧ m < 1000
def R_dip : List PyData → PyData → Prop := fun ds d => ∃ m r : Int, ds = [.int m] ∧ d = .int r ∧ 0 ≤ r ∧ r < m
theorem sc_law_dip : FnScope ["_law_well_here", "_law_many_here", "_law_found"] ["_law_well_here", "_law_many_here"] (defScope (topS 53)) := ⟨rfl, rfl, rfl, by decide +kernel, rfl, by decide +kernel, by decide +kernel⟩
theorem c__law_dip (T : Txt K mg) : Cal P w K mg base CX0 1 "_law_dip" ["_law_well_here", "_law_many_here"] (spW K Pre_dip R_dip) := by
  refine T.d_law_dip.cal sc_law_dip (spW_len (ps := ["_law_many_here"]) fun ds ⟨m, e, _⟩ => by rw [e]; rfl) (fun f cdv A outer s H vs Q E hr ⟨F, p, us, ds, ws, e, ha, pre, q⟩ => ?_)
  have nd := sc_law_dip.nd
  obtain ⟨m, rfl, hm0, hm1⟩ := pre
  obtain ⟨v2, rfl, h2⟩ := DpAll.one_inv ha
  obtain rfl := h2.int_inv
  subst e
  refine ⟨_, (pss_cons (ps_if (pt_cmpR op_gt (pe_ix (kIxL K) (pv 0) pe_int (fun _ _ => rfl)) pe_int (nomark _)) (pss_cons (ps_set (i := 2) nd rfl (Or.inl rfl) (pe_op op_mod (pe_callTy call_int1 rfl T.int_n bt_int (pa_cons (pe_ix (kIxL K) (pv 0) pe_int (fun _ _ => rfl)) pa_nil)) (pv 1)))
        (pss_cons (ps_asg (pe_op op_fdivN (pe_ix (kIxL K) (pv 0) pe_int (fun _ _ => rfl)) (pv 1)) (pg_sub (pv 0) pe_int set_list))
        (pss_one (ps_ret (pv 2))))) pss_nil)
      (pss_cons (ps_asg (pe_op op_mod (pe_callTy call_int1 rfl T.int_n bt_int (pa_cons (pe_op op_add (pe_op op_mul (pe_ix (kIxL K) (pv 0) pe_int (fun _ _ => rfl)) pe_int) pe_int) pa_nil)) (pe_op op_sub (pe_op op_pow pe_int pe_int) pe_int)) (pg_sub (pv 0) pe_int set_list))
      (pss_one (ps_ret (pe_op op_mod (pe_callTy call_int1 rfl T.int_n bt_int (pa_cons (pe_op op_fdivN (pe_ix (kIxL K) (pv 0) pe_int (fun _ _ => rfl)) pe_int) pa_nil)) (pv 1)))))), ?_⟩
  obtain ⟨g, s, hp⟩ := ws.wl
  have ho : Own K (fun _ => none) F H p [.int g, .int s] := ⟨rfl, ws.po, _, hp, .cons (.int _) (.one (.int _))⟩
  have hm : (0 : Int) < m := hm0
  refine st_seq (st_if ws.z (b := decide (0 < g)) (evt_test (K := K) (evd_cmpI (g := fun a b => decide (b < a)) (evd_ixO ho (evv_var rfl) evd_i rfl) evd_i)) (fun hb F1 H1 g1 => ?_) fun hb F1 H1 g1 => ?_)
  · have ho1 := ho.up g1
    refine st_seq (st_asg g1.fh (evd_opC (K := K) (C := fun _ j => 0 < j) (g := fun a b => a % b) (evd_int1 (evd_ixO ho1 (evv_var rfl) evd_i rfl)) (evd_vari rfl) hm) fun v3 F3 H3 g3 p3 => ?_)
    obtain rfl := p3.int_inv
    have ho3 := ho1.up g3
    dsimp only
    refine st_seq (st_setO (i := 0) (d := .int (g.fdiv m)) ho3 g3.fh (evd_opC (C := CDivN) (g := fun a b => a.fdiv b) (evd_ixO ho3 (evv_var rfl) evd_i rfl) (evd_vari rfl) ⟨by omega, by omega⟩) rfl (fun F4 H4 g4 => evd_i) (by simp) fun xs F4 H4 g4 ho4 => ?_)
    have gw : GrW p F H F4 (upd H4 p (.lst xs)) := .own ((g1.trans g3).trans g4) ho4
    refine st_ret gw.fh (evd_vari (K := K) rfl) fun v5 F5 H5 g5 p5 => ?_
    exact q v5 F5 H5 _ ⟨m, g % m, rfl, rfl, Int.emod_nonneg _ (by omega), Int.emod_lt_of_pos _ hm⟩ (gw.trans (.of (ws.up gw) g5)) p5
  · have ho1 := ho.up g1
    dsimp only
    refine st_seq (st_setO (i := 1) (d := .int ((s * 6364136223846793005 + 1442695040888963407) % (2 ^ (61 : Int).toNat - 1))) ho1 g1.fh (evd_opC (C := fun _ j => 0 < j) (g := fun a b => a % b) (evd_int1 (evd_opI (g := fun a b => a + b) (evd_opC (C := CMul) (g := fun a b => a * b) (evd_ixO ho1 (evv_var rfl) evd_i rfl) evd_i (.inr (by decide))) evd_i)) (evd_opI (g := fun a b => a - b) (evd_opC (C := CPow) (g := fun a b => a ^ b.toNat) evd_i evd_i (by unfold CPow; decide)) evd_i) (by decide)) rfl (fun F4 H4 g4 => evd_i) (by simp) fun xs F4 H4 g4 ho4 => ?_)
    have gw : GrW p F H F4 (upd H4 p (.lst xs)) := .own (g1.trans g4) ho4
    refine st_ret gw.fh (evd_opC (K := K) (C := fun _ j => 0 < j) (g := fun a b => a % b) (evd_int1 (evd_opC (C := CDivN) (g := fun a b => a.fdiv b) (evd_ixO ho4 (evv_var rfl) evd_i rfl) evd_i ⟨by decide, by decide⟩)) (evd_vari rfl) hm) fun v5 F5 H5 g5 p5 => ?_
    exact q v5 F5 H5 _ ⟨m, _, rfl, rfl, Int.emod_nonneg _ (by omega), Int.emod_lt_of_pos _ hm⟩ (gw.trans (.of (ws.up gw) g5)) p5
/-- dip(well, m), m written or a name's -/
theorem evw_dip {σ : L2.St} {F H : Hp} {p : Addr} {n : Nat} {te : TE} {m : Int} {E : XK} (hn : σ[n]? = some (some (.ref p))) (h : EvWD K p te σ F H (isI fun i => i = m)) (h0 : 0 < m) (h1 : m < 1000) : EvWD K p (tCall (spW K Pre_dip R_dip) [] E (tCons (tVar n) (tCons te tNil))) σ F H (isI fun r => 0 ≤ r ∧ r < m) :=
  evw_callW hn ((evaw_cons h evaw_nil).imp fun ds ⟨d, es, e, ⟨i, ei, hi⟩, hes⟩ => show ds = [.int m] by rw [e, hes, ei, hi]) (fun ds e => ⟨m, e, h0, h1⟩) fun ds d e ⟨m2, r, e2, ed, r0, r1⟩ => ⟨r, ed, r0, by
    rw [e] at e2
    injection e2 with e2 _
    injection e2 with e2
    rw [e2]; exact r1⟩
def R_many : List PyData → PyData → Prop := fun _ d => ∃ n : Nat, d = .int (n : Nat) ∧ 1 ≤ n ∧ n ≤ 10
theorem sc_law_many : FnScope ["_law_well_here", "_law_most", "_law_many_here"] ["_law_well_here", "_law_most"] (defScope (topS 54)) := ⟨rfl, rfl, rfl, by decide +kernel, rfl, by decide +kernel, by decide +kernel⟩
theorem c__law_many (T : Txt K mg) : Cal P w K mg base CX0 2 "_law_many" ["_law_well_here", "_law_most"] (spW K (fun ds => ds = [.int 10]) R_many) := by
  have c__law_dip := c__law_dip (P := P) (w := w) (base := base) T
  refine T.d_law_many.cal sc_law_many (spW_len (ps := ["_law_most"]) fun ds e => by rw [e]; rfl) (fun f cdv A outer s H vs Q E hr ⟨F, p, us, ds, ws, e, ha, pre, q⟩ => ?_)
  have nd := sc_law_many.nd
  obtain rfl := pre
  obtain ⟨v2, rfl, h2⟩ := DpAll.one_inv ha
  obtain rfl := h2.int_inv
  subst e
  refine ⟨_, (pss_cons (ps_set (i := 2) nd rfl (Or.inl rfl) (pe_op op_add pe_int (pe_cal c__law_dip hr (by decide) pass0 (pa_cons (pv 0) (pa_cons pe_int pa_nil)))))
      (pss_cons (ps_if (pt_cmpR op_eq (pe_cal c__law_dip hr (by decide) pass0 (pa_cons (pv 0) (pa_cons pe_int pa_nil))) pe_int (nomark _)) (pss_one (ps_set (i := 2) nd rfl (Or.inl rfl) (pe_op op_add pe_int (pe_cal c__law_dip hr (by decide) pass0 (pa_cons (pv 0) (pa_cons pe_int pa_nil)))))) pss_nil)
      (pss_one (ps_ret (pe_callB (call_min2 rfl) rfl T.min_n bt_min (pa_cons (pv 2) (pa_cons (pv 1) pa_nil))))))), ?_⟩
  refine st_seq (stw_asg ws (evw_opI (K := K) (g := fun a b => a + b) (A := fun i => i = 1) (C := fun r => 1 ≤ r ∧ r ≤ 7) (evw_i rfl) (evw_dip (m := 7) rfl (evw_i rfl) (by decide) (by decide)) (fun i j hi hj => by omega)) fun v F1 H1 g1 ⟨d, ⟨i, ed, hi⟩, p1⟩ => ?_)
  subst ed
  obtain rfl := p1.int_inv
  have ws1 := ws.up g1
  dsimp only
  have fin : ∀ {i : Int} {F1 H1 : Hp}, WS p F1 H1 → GrW p F H F1 H1 → 1 ≤ i → i ≤ 10 → tRet (tCB (fun xs H Q => ∃ i j, xs = [.int i, .int j] ∧ Q (.int (if j < i then j else i)) H) (tCons (tVar 2) (tCons (tVar 1) tNil))) { nx := fun x H' => Q V.non H', rt := Q } [some (.ref p), some (.int 10), some (.int i)] H1 := fun {i F1 H1} ws1 g1 h1 h2 => by
    refine st_ret ws1.z (evd_min2 (K := K) (evd_vari rfl) (evd_vari rfl)) fun v F2 H2 g2 p2 => ?_
    exact q v F2 H2 _ ⟨(if (10 : Int) < i then 10 else i).toNat, by rw [Int.toNat_of_nonneg (by split <;> omega)], by split <;> omega, by split <;> omega⟩ (g1.trans (.of ws1 g2)) p2
  refine st_seq (stw_if ws1 (evtw_test (evw_eqI (K := K) (evw_dip (m := 4) rfl (evw_i rfl) (by decide) (by decide)) (evw_i (A := fun _ => True) trivial))) (fun F2 H2 g2 => ?_) fun F2 H2 g2 => ?_)
  · refine stw_asg (ws1.up g2) (evw_opI (K := K) (g := fun a b => a + b) (A := fun i => i = 8) (C := fun r => 8 ≤ r ∧ r ≤ 10) (evw_i rfl) (evw_dip (m := 3) rfl (evw_i rfl) (by decide) (by decide)) (fun i j hi hj => by omega)) fun v F3 H3 g3 ⟨d, ⟨j, ed, hj⟩, p3⟩ => ?_
    subst ed
    obtain rfl := p3.int_inv
    exact fin ((ws1.up g2).up g3) (g1.trans (g2.trans g3)) (by omega) (by omega)
  · exact fin (ws1.up g2) (g1.trans g2) (by omega) (by omega)
/-! ### the law's number, turned, ties -/
def R_number : List PyData → PyData → Prop := fun ds d => ∃ a, ds = [a] ∧ d = .bool (isInt a)
theorem sc_law_number : FnScope ["_law_value"] ["_law_value"] (defScope (topS 56)) := ⟨rfl, rfl, rfl, by decide +kernel, rfl, by decide +kernel, by decide +kernel⟩
theorem c__law_number (T : Txt K mg) : Cal P w K mg base CX0 1 "_law_number" ["_law_value"] (spD K R_number) := by
  refine T.d_law_number.calD sc_law_number (fun ds d ⟨a, e, _⟩ => by rw [e]; rfl) (fun f cdv A outer s F H vs ds d Q E hr z ha r q => ?_)
  obtain ⟨a, rfl, rfl⟩ := r
  obtain ⟨v, rfl, hv⟩ := DpAll.one_inv ha
  refine ⟨_, (pss_one (ps_ret (pe_and (q_isi_int K T.isinstance_n T.int_n (pv 0)) (pe_one (pe_not (q_isi_bool K T.isinstance_n T.bool_n (pv 0))))))), ?_⟩
  have e1 : EvD K (tVar 0) (start ["value"] [v]) F H a := evd_var rfl hv
  refine st_ret z (evd_eq (e := .bool (isInt a)) (evd_and (evd_isi e1 (kit_int hv)) fun _ => evd_not (evd_isi e1 (kit_bool hv))) ?_) q
  cases a <;> rfl
def turnW (W : Nat → Nat → Int) (L : List Nat) : Nat → Nat → Int := fun x y => if decide (x ∈ L) = decide (y ∈ L) then W x y else - W x y
def R_turned : List PyData → PyData → Prop := fun ds d => ∃ n W L, ds = [matD n W, natD L] ∧ n ≤ 10 ∧ d = matD n (turnW W L)
theorem sc_law_turned : FnScope ["_law_web_here", "_law_lot_here", "_law_lines", "_law_x", "_law_y"] ["_law_web_here", "_law_lot_here"] (defScope (topS 58)) := ⟨rfl, rfl, rfl, by decide +kernel, rfl, by decide +kernel, by decide +kernel⟩
theorem c__law_turned (T : Txt K mg) : Cal P w K mg base CX0 1 "_law_turned" ["_law_web_here", "_law_lot_here"] (spD K R_turned) := by
  refine T.d_law_turned.calD sc_law_turned (fun ds d ⟨n, W, L, e, _⟩ => by rw [e]; rfl) (fun f cdv A outer s F H vs ds d Q E hr z ha r q => ?_)
  have nd := sc_law_turned.nd
  obtain ⟨n, W, L, rfl, hn, rfl⟩ := r
  obtain ⟨v1, v2, rfl, h1, h2⟩ := DpAll.two_inv ha
  refine ⟨_, (pss_cons (ps_set (i := 2) nd rfl (Or.inl rfl) (pe_lst pa_nil))
      (pss_cons (ps_for PassesOwn.never rfl (pi_range1 rfl T.range_n (pa_cons (q_len K T.len_n (pv 0)) pa_nil)) (pg_name (i := 3) nd rfl (Or.inr rfl)) (pss_one (ps_expr (kApp K (pv 2) (q_tuple K T.tuple_n (pe_lc (own := [("_law_y", 4)]) rfl nd (pi_range1 rfl T.range_n (pa_cons (q_len K T.len_n (pv 0)) pa_nil)) (blkOk_by (by kernel_rfl)) (fun _ _ _ _ _ => (pg_name (i := 4) nd rfl (Or.inl rfl))) (fun _ _ _ _ _ => pts_nil) (fun _ _ _ _ _ => (pe_ifExp (pt_cmpR op_eq (pe_cmpR (kIn K) (pv 3) (pv 1) (by rfl)) (pe_cmpR (kIn K) (pv 4) (pv 1) (by rfl)) (nomark _)) (pe_ix (kIxT K) (pe_ix (kIxT K) (pv 0) (pv 3) (fun _ _ => rfl)) (pv 4) (fun _ _ => rfl)) (pe_un un_neg (pe_ix (kIxT K) (pe_ix (kIxT K) (pv 0) (pv 3) (fun _ _ => rfl)) (pv 4) (fun _ _ => rfl)))))))))))
      (pss_one (ps_ret (q_tuple K T.tuple_n (pv 2)))))), ?_⟩
  refine st_seq (st_asg z (evp_new (K := K) eva_nil (by simp)) fun v3 F3 H3 g3 ⟨p, e3, hp⟩ => ?_)
  subst e3
  dsimp only
  refine st_seq (st_forI (K := K) (g := fun i => (i : Nat)) (n := ((n : Nat) : Int).toNat) (fun i σ' F' H' => ∃ u, σ' = [some v1, some v2, some (.ref p), u, none] ∧ Gr F H F' H' ∧ Own K H F' H' p ((List.range i).map fun x => rowD n (turnW W L) x)) g3.fh (iwd_range1 (n := (n : Int)) (evd_lenR (evd_var rfl (h1.up g3.f))) (by omega) (by omega)) (fun F4 H4 g4 => ⟨none, rfl, g3.trans g4, hp.up g4⟩) ?_ ?_)
  · rintro i σ' F' H' F'' H'' N hi f' z' ⟨u, rfl, gg, ho⟩ g' hN
    simp only [Int.toNat_natCast] at hi
    have gA := gg.trans g'
    refine st_append (d := rowD n (turnW W L) i) (ho.up g') g'.fh rfl (evd_tupL (evd_lcI0 (g := fun k => (k : Nat)) (n := ((n : Nat) : Int).toNat) (fun y => .int (turnW W L i y)) (iwd_range1 (n := (n : Int)) (evd_lenR (evd_var rfl (h1.up gA.f))) (by omega) (by omega)) (by omega) fun y F5 H5 hy f5 hh5 z5 => ?_)) (by rw [len_rng]; omega) fun xs F5 H5 g5 ho5 => ?_
    · simp only [Int.toNat_natCast] at hy
      have hv1 := h1.up (gA.f.trans f5)
      have hv2 := h2.up (gA.f.trans f5)
      refine evp_if (b := decide (decide (i ∈ L) = decide (y ∈ L))) (evt_eq (evt_test (evd_eqB (evd_inT (neg := false) (n := (i : Nat)) (evd_vari rfl) (evd_var rfl hv2)) (evd_inT (neg := false) (n := (y : Nat)) (evd_vari rfl) (evd_var rfl hv2)))) ?_) (fun hb => ?_) fun hb => ?_
      · simp only [nat_mem, Bool.false_eq_true, if_false]
        exact Bool.eq_iff_iff.mpr (by simp)
      · have e : turnW W L i y = W i y := if_pos (of_decide_eq_true hb)
        rw [e]
        exact evd_cell (evd_var rfl hv1) (evd_vari rfl) (evd_vari rfl) hi hy
      · have e : turnW W L i y = - W i y := if_neg (of_decide_eq_false hb)
        rw [e]
        exact evd_unI (g := fun a => -a) (evd_cell (evd_var rfl hv1) (evd_vari rfl) (evd_vari rfl) hi hy)
    · refine hN _ F5 _ g5.f (same_mut g5.fh ho5.out) ⟨_, rfl, (gA.trans g5).mut hp.nw ho5.out, ?_⟩
      rw [List.range_succ, List.map_append]
      exact ho5
  · rintro σ' F' H' f' z' ⟨u, rfl, gg, ho⟩
    simp only [Int.toNat_natCast] at ho
    exact st_ret z' (evd_tupO' ho (evv_var rfl)) fun v F5 H5 g5 p5 => q v F5 H5 (gg.trans g5) p5
def R_ties : List PyData → PyData → Prop := fun ds d => ∃ n W, ds = [matD n W] ∧ n ≤ 10 ∧ d = .list ((tiesL n W).map tieD)
theorem sc_law_ties : FnScope ["_law_web_here", "_law_found", "_law_x", "_law_y"] ["_law_web_here"] (defScope (topS 59)) := ⟨rfl, rfl, rfl, by decide +kernel, rfl, by decide +kernel, by decide +kernel⟩
theorem c__law_ties (T : Txt K mg) : Cal P w K mg base CX0 1 "_law_ties" ["_law_web_here"] (spD K R_ties) := by
  refine T.d_law_ties.calD sc_law_ties (fun ds d ⟨n, W, e, _⟩ => by rw [e]; rfl) (fun f cdv A outer s F H vs ds d Q E hr z ha r q => ?_)
  have nd := sc_law_ties.nd
  obtain ⟨n, W, rfl, hn, rfl⟩ := r
  obtain ⟨v1, rfl, h1⟩ := DpAll.one_inv ha
  refine ⟨_, (pss_cons (ps_set (i := 1) nd rfl (Or.inl rfl) (pe_lst pa_nil))
      (pss_cons (ps_for PassesOwn.never rfl (pi_range1 rfl T.range_n (pa_cons (q_len K T.len_n (pv 0)) pa_nil)) (pg_name (i := 2) nd rfl (Or.inr rfl)) (pss_one (ps_set (i := 1) nd rfl (Or.inl rfl) (pe_op op_cat (pv 1) (pe_lc (own := [("_law_y", 3)]) rfl nd (pi_range2 rfl T.range_n (pa_cons (pe_op op_add (pv 2) pe_int) (pa_cons (q_len K T.len_n (pv 0)) pa_nil))) (blkOk_by (by kernel_rfl)) (fun _ _ _ _ _ => (pg_name (i := 3) nd rfl (Or.inl rfl))) (fun _ _ _ _ _ => (pts_one (pt_cmpR op_ne (pe_ix (kIxT K) (pe_ix (kIxT K) (pv 0) (pv 2) (fun _ _ => rfl)) (pv 3) (fun _ _ => rfl)) pe_int (nomark _)))) (fun _ _ _ _ _ => (pe_tup (pa_cons (pv 2) (pa_cons (pv 3) pa_nil)))))))))
      (pss_one (ps_ret (pv 1))))), ?_⟩
  have tl : ∀ i, i ≤ n → ((List.range i).flatMap fun x => ((List.range (n - (x + 1))).filter fun j => !decide (W x (x + 1 + j) = 0)).map fun j => (x, x + 1 + j)).length ≤ i * 10 := by
    intro i
    induction i with
    | zero => intro _; simp
    | succ i ih =>
      intro hi
      rw [List.range_succ, List.flatMap_append, List.length_append, Nat.succ_mul]
      refine Nat.add_le_add (ih (by omega)) ?_
      simp only [List.flatMap_cons, List.flatMap_nil, List.append_nil, List.length_map]
      refine Nat.le_trans (List.length_filter_le _ _) ?_
      rw [List.length_range]; omega
  refine st_seq (st_asg z (evp_lstP (K := K) eva_nil (by simp)) fun v3 F3 H3 g3 p3 => ?_)
  dsimp only
  refine st_seq (st_forI (K := K) (g := fun i => (i : Nat)) (n := ((n : Nat) : Int).toNat) (fun i σ' F' H' => ∃ vf u, σ' = [some v1, some vf, u, none] ∧ Gr F H F' H' ∧ PlnL K (((List.range i).flatMap fun x => ((List.range (n - (x + 1))).filter fun j => !decide (W x (x + 1 + j) = 0)).map fun j => (x, x + 1 + j)).map tieD) vf F' H' ∧ Dp K F' vf (.list (((List.range i).flatMap fun x => ((List.range (n - (x + 1))).filter fun j => !decide (W x (x + 1 + j) = 0)).map fun j => (x, x + 1 + j)).map tieD))) g3.fh (iwd_range1 (n := (n : Int)) (evd_lenR (evd_var rfl (h1.up g3.f))) (by omega) (by omega)) (fun F4 H4 g4 => ⟨_, none, rfl, g3.trans g4, p3.1.up g4, p3.2.up g4.f⟩) ?_ ?_)
  · rintro i σ' F' H' F'' H'' N hi f' z' ⟨vf, u, rfl, gg, hp, hd⟩ g' hN
    simp only [Int.toNat_natCast] at hi
    have gA := gg.trans g'
    have hp' := hp.up g'
    have hti := tl i (by omega)
    generalize hte : ((List.range i).flatMap fun x => ((List.range (n - (x + 1))).filter fun j => !decide (W x (x + 1 + j) = 0)).map fun j => (x, x + 1 + j)) = ts at hp' hti
    refine st_asg g'.fh (evp_cat (ds := ts.map tieD) (es := picks (((n : Nat) : Int) - ((i : Int) + 1)).toNat (fun j => !decide (W i (i + 1 + j) = 0)) fun j => tieD (i, i + 1 + j)) (evp_var rfl fun F5 H5 f5 hh5 z5 => ?_) (EvP.imp (evp_lcIO (K := K) (s := 3) (vs := [3]) (g := fun j => (i : Int) + 1 + (j : Nat)) _ _ (iwd_range2 (lo := (i : Int) + 1) (n := (n : Int)) (evd_opI (g := fun a b => a + b) (evd_vari rfl) evd_i) (evd_lenR (evd_var rfl (h1.up gA.f))) (by omega)) (by omega) (fun j F5 H5 hj f5 hh5 z5 => ?_) fun j F5 H5 hj _ f5 hh5 z5 => ?_) fun v F5 H5 h => h.pln) ?_) fun v F5 H5 g5 ⟨p5, d5⟩ => ?_
    · obtain ⟨p, xs, e, a, b⟩ := hp'
      exact ⟨p, xs, e, hh5 _ _ a, b.up f5⟩
    · exact evt_test (evd_neI (evd_cell (x := i) (y := i + 1 + j) (W := W) (evd_var rfl (h1.up (gA.f.trans f5))) (evd_vari rfl) (evd_eq (evd_vari rfl) (by congr 1)) hi (by omega)) evd_i)
    · exact evd_tup (eva_cons (evd_vari rfl) (eva_one (evd_eq (evd_vari rfl) (by congr 1)))) (by simp)
    · rw [List.length_map]
      have := picks_len (((n : Nat) : Int) - ((i : Int) + 1)).toNat (fun j => !decide (W i (i + 1 + j) = 0)) fun j => tieD (i, i + 1 + j)
      omega
    · have e : ts.map tieD ++ picks (((n : Nat) : Int) - ((i : Int) + 1)).toNat (fun j => !decide (W i (i + 1 + j) = 0)) (fun j => tieD (i, i + 1 + j)) = (((List.range (i + 1)).flatMap fun x => ((List.range (n - (x + 1))).filter fun j => !decide (W x (x + 1 + j) = 0)).map fun j => (x, x + 1 + j)).map tieD) := by
        rw [List.range_succ, List.flatMap_append, List.map_append, hte]
        congr 1
        simp only [List.flatMap_cons, List.flatMap_nil, List.append_nil, List.map_map]
        unfold picks
        have e2 : (((n : Nat) : Int) - ((i : Int) + 1)).toNat = n - (i + 1) := by omega
        rw [e2]
        rfl
      rw [e] at p5 d5
      exact hN _ F5 H5 g5.f g5.fh ⟨v, _, rfl, gA.trans g5, p5, d5⟩
  · rintro σ' F' H' f' z' ⟨vf, u, rfl, gg, hp, hd⟩
    simp only [Int.toNat_natCast] at hd
    exact st_ret z' (evd_var (K := K) rfl hd) fun v F5 H5 g5 p5 => q v F5 H5 (gg.trans g5) p5
end
end Sg
set_option maxRecDepth 100000
set_option maxHeartbeats 4000000
/-! Dv13: comprehensions that dip; lists that are given to F, many at once. -/
namespace Dv
open PySem PySem.Spec L2
section
variable {K : PySem.W.Frag} {σ : St} {F F' H H' H0 F0 : Hp} {te ta tb : TE} {tt : TT} {i j : Int} {p q : Addr} {d e : PyData} {ds es : List PyData} {D : Ends}
theorem evw_lc {wi : TI} {g : TG} {n : Nat} {item : Nat → PyData} {vs : List Nat} {P : Nat → St → Hp → Prop} (I : Nat → List PyData → Prop) (h0 : I 0 []) (hi : ∀ F1 H1, GrW p F H F1 H1 → IwD K wi σ F1 H1 n item) (hn : n ≤ 50000) (hl : ∀ i ds, I i ds → ds.length ≤ i)
    (hg : ∀ i F1 H1, i < n → GrW p F H F1 H1 → TgD K g (wipe σ vs) F1 H1 (item i) (P i)) (hw : ∀ i σ2 F1, P i σ2 F1 → wipe σ2 vs = wipe σ vs) (hP : ∀ i σ2 F1 F2, P i σ2 F1 → Same F1 F2 → P i σ2 F2)
    (ht : ∀ i σ2 F1 H1 ds, i < n → GrW p F H F1 H1 → WS p F1 H1 → P i σ2 F1 → I i ds → ∀ Q : Bool → Hp → Prop, (∀ b F2 H2, GrW p F1 H1 F2 H2 → (b = false → I (i + 1) ds) → Q b H2) → tt σ2 H1 Q)
    (he : ∀ i σ2 F1 H1 ds, i < n → GrW p F H F1 H1 → P i σ2 F1 → I i ds → EvWD K p te σ2 F1 H1 fun d => I (i + 1) (ds ++ [d])) : EvWD K p (tLc wi g tt te vs) σ F H fun d => ∃ ds, d = .list ds ∧ I n ds :=
  fun F1 H1 x ws Q q => hi F1 H1 x F1 H1 (Same.refl _) (Same.refl _) ws.z _ fun J F2 H2 g2 go stop yld D hD => by
    have x2 : GrW p F H F2 H2 := x.trans (.of ws g2)
    have ws2 : WS p F2 H2 := ws.up (.of ws g2)
    have hDp : D ≠ p := GrW.ne ws2.wl hD
    have wlu : ∀ {o : HO} {H' : Hp}, Wl p H' → Wl p (upd H' D o) := fun ⟨a, b, e⟩ => ⟨a, b, by rw [upd_ne (fun z => hDp z.symm)]; exact e⟩
    refine ⟨fun i m Hc => m = n - i ∧ i ≤ n ∧ ∃ Fc xs ds, GrW p F2 H2 Fc Hc ∧ Fc D = none ∧ Hc D = some (.lst xs) ∧ DpAll K Fc xs ds ∧ I i ds, ⟨n, rfl, Nat.zero_le _, F2, [], [], ⟨Same.refl _, fun b o _ e => by rw [upd_ne (ne_of_none e hD)]; exact e, same_mut g2.fh (g2.fh.free hD), fun _ _ e => .inl e, wlu ws2.wl⟩, g2.fh.free hD, upd_same, .nil, h0⟩, ?_⟩
    rintro i m Hc ⟨rfl, hin, Fc, xs, ds, gc, nD, eD, hx, hI⟩
    have wsc := ws2.up gc
    have hxl : xs.length ≤ i := by rw [hx.len]; exact hl i ds hI
    by_cases hlt : i < n
    · refine .inr ⟨go i Fc Hc gc.f gc.fh hlt, fun H' => i + 1 ≤ n ∧ ∃ Fc xs ds, GrW p F2 H2 Fc H' ∧ Fc D = none ∧ H' D = some (.lst xs) ∧ DpAll K Fc xs ds ∧ I (i + 1) ds, fun H' h => ⟨n - (i + 1), by omega, rfl, h.1, h.2⟩, fun u H' hy => ?_⟩
      obtain ⟨F3, g3, hu⟩ := yld i Fc Hc u H' gc.f gc.fh hlt hy
      have w3 := wsc.up (.of wsc g3)
      have s3 : GrW p F H F3 H' := x2.trans (gc.trans (.of wsc g3))
      refine hg i F3 H' hlt s3 F3 H' u (Same.refl _) (Same.refl _) g3.fh hu _ fun σ2 hPi => ⟨hw i σ2 F3 hPi, ?_⟩
      have e3 : H' D = some (.lst xs) := g3.h _ _ eD
      have n3 : F3 D = none := g3.out eD nD
      refine ht i σ2 F3 H' ds hlt s3 w3 hPi hI _ fun b F4 H4 g4 hb => ?_
      have w4 := w3.up g4
      have e4 : H4 D = some (.lst xs) := g4.h _ _ hDp e3
      have n4 : F4 D = none := by
        cases e : F4 D with
        | none => rfl
        | some o =>
          rcases g4.nw D o e with z | z
          · rw [n3] at z; cases z
          · rw [e3] at z; cases z
      have x4 : DpAll K F4 xs ds := hx.up (g3.f.trans g4.f)
      have G4 : GrW p F2 H2 F4 H4 := gc.trans ((GrW.of wsc g3).trans g4)
      cases b with
      | true =>
        refine he i σ2 F4 H4 ds hlt (s3.trans g4) (hP i σ2 F3 F4 hPi g4.f) hI F4 H4 w4.refl w4 _ fun w F5 H5 g5 ⟨d, hd, hw5⟩ => ?_
        have e5 : H5 D = some (.lst xs) := g5.h _ _ hDp e4
        have n5 : F5 D = none := by
          cases e : F5 D with
          | none => rfl
          | some o =>
            rcases g5.nw D o e with z | z
            · rw [n4] at z; cases z
            · rw [e4] at z; cases z
        refine ⟨xs, e5, ?_, hlt, F5, xs ++ [w], ds ++ [d], ?_, n5, upd_same, (x4.up g5.f).app (.one hw5), hd⟩
        · exact Nat.lt_of_le_of_lt (show xs.length ≤ 50000 by omega) (by decide)
        · have G := G4.trans g5
          exact ⟨G.f, fun b o hb e => by rw [upd_ne (ne_of_none e hD)]; exact G.h _ _ hb e, same_mut G.fh n5, G.nw, wlu G.wl⟩
      | false => exact ⟨hlt, F4, xs, ds, G4, n4, e4, x4, hb rfl⟩
    · have e : i = n := by omega
      subst e
      refine .inl ⟨stop Fc Hc gc.f gc.fh, q _ (upd Fc D (.lst xs)) Hc ?_ ⟨_, ⟨ds, rfl, hI⟩, .lst (SqL.of upd_same) (hx.up (same_upd nD))⟩⟩
      have G := (GrW.of ws g2).trans gc
      refine ⟨G.f.trans (same_upd nD), G.h, fun b o hb => ?_, fun b o hb => ?_, G.wl⟩
      · by_cases hbd : b = D
        · subst hbd
          rw [upd_same] at hb
          cases hb
          exact eD
        · rw [upd_ne hbd] at hb
          exact gc.fh _ _ hb
      · by_cases hbd : b = D
        · exact .inr (by rw [hbd]; exact g2.h.free hD)
        · rw [upd_ne hbd] at hb
          exact G.nw b o hb
end
end Dv
namespace Sg
open PySem PySem.Spec L2 Dv
end Sg
set_option maxRecDepth 100000
set_option maxHeartbeats 4000000
/-! G19: the law's lot and web. -/
namespace Dv
open PySem PySem.Spec L2
section
variable {K : PySem.W.Frag} {σ : St} {F F' H H' H0 F0 F1 H1 : Hp} {te ta tb : TE} {tt : TT} {i j : Int} {p q : Addr} {d e : PyData} {ds es : List PyData} {D : Ends}
theorem GrW.mut {o : HO} (g : GrW p F0 H0 F H) (h : H0 q = none) (hf : F q = none) (hq : q ≠ p) : GrW p F0 H0 F (upd H q o) :=
  ⟨g.f, fun b u n e => by rw [upd_ne (ne_of_none e h)]; exact g.h b u n e, same_mut g.fh hf, g.nw, let ⟨a, b, e⟩ := g.wl; ⟨a, b, by rw [upd_ne (fun z => hq z.symm)]; exact e⟩⟩
theorem WS.mut {o : HO} (ws : WS p F H) (hf : F q = none) (hq : q ≠ p) : WS p F (upd H q o) := ⟨same_mut ws.z hf, let ⟨a, b, e⟩ := ws.wl; ⟨a, b, by rw [upd_ne (fun z => hq z.symm)]; exact e⟩, ws.po⟩
/-- a list of new lists -/
structure MatO (K : PySem.W.Frag) (H0 F H : Hp) (n : Nat) (qs : Nat → Addr) (A : Addr) (rows : Nat → List PyData) : Prop where
  nw : H0 A = none
  out : F A = none
  at_ : H A = some (.lst ((List.range n).map fun k => V.ref (qs k)))
  row : ∀ k, k < n → Own K H0 F H (qs k) (rows k)
  inj : ∀ k l, k < n → l < n → qs k = qs l → k = l
  ne : ∀ k, k < n → qs k ≠ A
theorem MatO.up {n : Nat} {qs : Nat → Addr} {A : Addr} {rows : Nat → List PyData} (h : MatO K H0 F H n qs A rows) (g : Gr F H F' H') : MatO K H0 F' H' n qs A rows :=
  ⟨h.nw, g.out h.at_ h.out, g.h _ _ h.at_, fun k hk => (h.row k hk).up g, h.inj, h.ne⟩
theorem MatO.upW {n : Nat} {qs : Nat → Addr} {A : Addr} {rows : Nat → List PyData} (h : MatO K H0 F H n qs A rows) (hA : A ≠ p) (hq : ∀ k, k < n → qs k ≠ p) (g : GrW p F H F' H') : MatO K H0 F' H' n qs A rows :=
  ⟨h.nw, (by
    cases e : F' A with
    | none => rfl
    | some o =>
      rcases g.nw A o e with z | z
      · rw [h.out] at z; cases z
      · rw [h.at_] at z; cases z), g.h _ _ hA h.at_, fun k hk => (h.row k hk).upW (hq k hk) g, h.inj, h.ne⟩
/-- a row is written -/
theorem MatO.put {n : Nat} {qs : Nat → Addr} {A : Addr} {rows : Nat → List PyData} {x : Nat} {xs : List V} {es : List PyData} (h : MatO K H0 F H n qs A rows) (hx : x < n) (ho : Own K H0 F (upd H (qs x) (.lst xs)) (qs x) es) : MatO K H0 F (upd H (qs x) (.lst xs)) n qs A (Sg.put rows x es) :=
  ⟨h.nw, h.out, by rw [upd_ne (h.ne x hx).symm]; exact h.at_, fun k hk => by
    by_cases e : k = x
    · subst e
      rw [Sg.put_same]; exact ho
    · rw [Sg.put_ne e]
      exact (h.row k hk).other fun z => e (h.inj k x hk hx z), h.inj, h.ne⟩
theorem MatO.congr {n : Nat} {qs : Nat → Addr} {A : Addr} {rows rows' : Nat → List PyData} (h : MatO K H0 F H n qs A rows) (e : ∀ k, k < n → rows k = rows' k) : MatO K H0 F H n qs A rows' :=
  ⟨h.nw, h.out, h.at_, fun k hk => by rw [← e k hk]; exact h.row k hk, h.inj, h.ne⟩
theorem MatO.base {n : Nat} {qs : Nat → Addr} {A : Addr} {rows : Nat → List PyData} (h : MatO K H0 F H n qs A rows) (e : Same H1 H0) : MatO K H1 F H n qs A rows :=
  ⟨e.free h.nw, h.out, h.at_, fun k hk => (h.row k hk).base e, h.inj, h.ne⟩
theorem evp_lcNew {wi : TI} {n s : Nat} {vs : List Nat} {g : Nat → Int} (hi : IwD K wi σ F H n fun i => .int (g i)) (hn : n ≤ 50000)
    (he : ∀ i F1 H1, i < n → Same F F1 → Same H H1 → Same F1 H1 → EvP te ((wipe σ vs).set s (some (.int (g i)))) F1 H1 (NewL K H1 ds)) (hs : s ∈ vs := by decide) :
    EvP (tLc wi (gName s) tYes te vs) σ F H (fun v F2 H2 => ∃ A qs, v = .ref A ∧ MatO K H F2 H2 n qs A fun _ => ds) :=
  fun F1 H1 x y z Q q => hi F1 H1 x y z _ fun J F2 H2 g2 go stop yld A hD => by
    refine ⟨fun i m Hc => m = n - i ∧ i ≤ n ∧ ∃ Fc qs, Gr F2 H2 Fc Hc ∧ MatO K H2 Fc Hc i qs A fun _ => ds, ⟨n, rfl, Nat.zero_le _, F2, fun _ => 0, .own g2.fh hD, hD, g2.fh.free hD, upd_same, fun k h => absurd h (Nat.not_lt_zero _), fun k l h => absurd h (Nat.not_lt_zero _), fun k h => absurd h (Nat.not_lt_zero _)⟩, ?_⟩
    rintro i m Hc ⟨rfl, hin, Fc, qs, gc, hM⟩
    by_cases hlt : i < n
    · refine .inr ⟨go i Fc Hc gc.f gc.fh hlt, fun H' => i + 1 ≤ n ∧ ∃ Fc qs, Gr F2 H2 Fc H' ∧ MatO K H2 Fc H' (i + 1) qs A fun _ => ds, fun H' h => ⟨n - (i + 1), by omega, rfl, h.1, h.2⟩, fun u H' hy => ?_⟩
      obtain ⟨F3, g3, hu⟩ := yld i Fc Hc u H' gc.f gc.fh hlt hy
      obtain rfl := hu.int_inv
      have s3 : Same F F3 := (x.trans g2.f).trans (gc.f.trans g3.f)
      have t3 : Same H H' := (y.trans g2.h).trans (gc.h.trans g3.h)
      refine ⟨wipe_set hs, ?_⟩
      show te _ H' _
      refine he i F3 H' hlt s3 t3 g3.fh F3 H' (Same.refl _) (Same.refl _) g3.fh _ fun w F5 H5 g5 ⟨a, ew, ho⟩ => ?_
      subst ew
      have M5 := (hM.up g3).up g5
      have hne : ∀ k, k < i → qs k ≠ a := fun k hk e => by
        obtain ⟨xs, ha, _⟩ := ((hM.up g3).row k hk).at_
        rw [e, ho.nw] at ha; cases ha
      have hA5 : a ≠ A := fun e => by have := (hM.up g3).at_; rw [← e, ho.nw] at this; cases this
      refine ⟨_, M5.at_, ?_, hlt, F5, Sg.put qs i a, ?_, M5.nw, M5.out, ?_, fun k hk => ?_, fun k l hk hl e => ?_, fun k hk => ?_⟩
      · exact Nat.lt_of_le_of_lt (show ((List.range i).map fun k => V.ref (qs k)).length ≤ 50000 by rw [List.length_map, List.length_range]; omega) (by decide)
      · have G := gc.trans (g3.trans g5)
        exact ⟨G.f, fun b o hb => by rw [upd_ne (ne_of_none hb hD)]; exact G.h _ _ hb, same_mut G.fh M5.out, G.nw⟩
      · have e : (List.range i).map (fun k => V.ref (Sg.put qs i a k)) = (List.range i).map fun k => V.ref (qs k) := List.map_congr_left fun k hk => by rw [Sg.put_ne (Nat.ne_of_lt (List.mem_range.mp hk))]
        rw [upd_same, List.range_succ, List.map_append, e]
        simp [Sg.put_same]
      · rcases Nat.lt_succ_iff_lt_or_eq.mp hk with h | h
        · rw [Sg.put_ne (Nat.ne_of_lt h)]
          exact (M5.row k h).other (M5.ne k h)
        · subst h
          rw [Sg.put_same]
          exact (ho.base (gc.h.trans g3.h)).other hA5
      · rcases Nat.lt_succ_iff_lt_or_eq.mp hk with h | h <;> rcases Nat.lt_succ_iff_lt_or_eq.mp hl with h' | h'
        · rw [Sg.put_ne (Nat.ne_of_lt h), Sg.put_ne (Nat.ne_of_lt h')] at e
          exact M5.inj k l h h' e
        · subst h'
          rw [Sg.put_ne (Nat.ne_of_lt h), Sg.put_same] at e
          exact (hne k h e).elim
        · subst h
          rw [Sg.put_same, Sg.put_ne (Nat.ne_of_lt h')] at e
          exact (hne l h' e.symm).elim
        · omega
      · rcases Nat.lt_succ_iff_lt_or_eq.mp hk with h | h
        · rw [Sg.put_ne (Nat.ne_of_lt h)]
          exact M5.ne k h
        · subst h
          rw [Sg.put_same]; exact hA5
    · have e : i = n := by omega
      subst e
      exact .inl ⟨stop Fc Hc gc.f gc.fh, q _ Fc Hc (g2.trans gc) ⟨A, qs, rfl, hM.base (y.trans g2.h)⟩⟩
theorem DpAll.rng {f : Nat → V} {g : Nat → PyData} : ∀ n : Nat, (∀ k, k < n → Dp K F (f k) (g k)) → DpAll K F ((List.range n).map f) ((List.range n).map g)
  | 0, _ => .nil
  | n + 1, h => by
    rw [List.range_succ, List.map_append, List.map_append]
    exact (DpAll.rng n fun k hk => h k (by omega)).app (.one (h n (by omega)))
theorem give_many {qs : Nat → Addr} {rows : Nat → List PyData} (z : Same F H) : ∀ m : Nat, (∀ k, k < m → Own K H0 F H (qs k) (rows k)) → (∀ k l, k < m → l < m → qs k = qs l → k = l) →
    ∃ F', Same F F' ∧ Same F' H ∧ (∀ b o, F' b = some o → F b = some o ∨ ∃ k, k < m ∧ b = qs k) ∧ ∀ k, k < m → Dp K F' (.ref (qs k)) (.list (rows k))
  | 0, _, _ => ⟨F, Same.refl F, z, fun _ _ e => .inl e, fun k h => absurd h (Nat.not_lt_zero _)⟩
  | m + 1, h, hi => by
    obtain ⟨F1, a, b, c, d⟩ := give_many z m (fun k hk => h k (by omega)) fun k l hk hl => hi k l (by omega) (by omega)
    obtain ⟨xs, hx, hd⟩ := (h m (by omega)).at_
    have hn : F1 (qs m) = none := by
      cases e : F1 (qs m) with
      | none => rfl
      | some o =>
        rcases c _ _ e with h' | ⟨k, hk, h'⟩
        · rw [(h m (by omega)).out] at h'; cases h'
        · have := hi m k (by omega) (by omega) h'
          omega
    refine ⟨upd F1 (qs m) (.lst xs), a.trans (same_upd hn), fun u o e => ?_, fun u o e => ?_, fun k hk => ?_⟩
    · by_cases hu : u = qs m
      · subst hu; rw [upd_same] at e; rw [hx]; exact e
      · rw [upd_ne hu] at e; exact b _ _ e
    · by_cases hu : u = qs m
      · exact .inr ⟨m, by omega, hu⟩
      · rw [upd_ne hu] at e
        rcases c _ _ e with h' | ⟨k, hk, h'⟩
        · exact .inl h'
        · exact .inr ⟨k, by omega, h'⟩
    · rcases Nat.lt_succ_iff_lt_or_eq.mp hk with h' | h'
      · exact (d k h').up (same_upd hn)
      · subst h'
        exact .lst (SqL.of upd_same) ((hd.up a).up (same_upd hn))
/-- the list of lists as a datum -/
theorem MatO.give {n : Nat} {qs : Nat → Addr} {A : Addr} {rows : Nat → List PyData} (h : MatO K H0 F H n qs A rows) (z : Same F H) (hnn : ∀ u, u ≠ p → H0 u = none → H1 u = none) (hA : A ≠ p) (hq : ∀ k, k < n → qs k ≠ p) (g : GrW p F0 H1 F H) : ∃ F', Same F F' ∧ GrW p F0 H1 F' H ∧ Dp K F' (.ref A) (.list ((List.range n).map fun k => .list (rows k))) := by
  obtain ⟨F1, a, b, c, d⟩ := give_many z n h.row h.inj
  have hn : F1 A = none := by
    cases e : F1 A with
    | none => rfl
    | some o =>
      rcases c _ _ e with h' | ⟨k, hk, h'⟩
      · rw [h.out] at h'; cases h'
      · exact (h.ne k hk h'.symm).elim
  refine ⟨upd F1 A (.lst _), a.trans (same_upd hn), ⟨(g.f.trans a).trans (same_upd hn), g.h, fun u o e => ?_, fun u o e => ?_, g.wl⟩, .lst (SqL.of upd_same) (DpAll.rng n fun k hk => (d k hk).up (same_upd hn))⟩
  · by_cases hu : u = A
    · subst hu; rw [upd_same] at e; rw [h.at_]; exact e
    · rw [upd_ne hu] at e; exact b _ _ e
  · by_cases hu : u = A
    · exact .inr (by rw [hu]; exact hnn A hA h.nw)
    · rw [upd_ne hu] at e
      rcases c _ _ e with h' | ⟨k, hk, h'⟩
      · exact g.nw _ _ h'
      · exact .inr (by rw [h']; exact hnn _ (hq k hk) (h.row k hk).nw)
end
end Dv
set_option maxRecDepth 100000
set_option maxHeartbeats 4000000
/-! G20: the law's lot and web. -/
namespace Dv
open PySem PySem.Spec L2
section
variable {K : PySem.W.Frag} {σ : St} {F F' H H' H0 F0 F1 H1 : Hp} {te ta tb : TE} {tt : TT} {i j : Int} {p q : Addr} {d e : PyData} {ds es : List PyData} {D : Ends}
/-- l[k] = e, e may dip -/
theorem stw_setO {i : Nat} {n k : Nat} {B : PyData → Prop} (ws : WS p F H) (ho : ∀ F1 H1, GrW p F H F1 H1 → Own K H0 F1 H1 q ds) (he : EvWD K p te σ F H B) (hn : σ[n]? = some (some (.ref q))) (hk : σ[k]? = some (some (.int (i : Nat)))) (hl : i < ds.length)
    (h : ∀ d xs F1 H1, B d → GrW p F H F1 H1 → Own K H0 F1 (upd H1 q (.lst xs)) q (ds.set i d) → D.nx σ (upd H1 q (.lst xs))) : tAsg te (gSub (tVar n) (tVar k) rSetL) D σ H := by
  refine he F H ws.refl ws _ fun v F1 H1 g ⟨d, hd, pd⟩ => ?_
  have o1 := ho F1 H1 g
  have := st_setO (K := K) (te := tC v) (σ := σ) (n := n) (tb := tVar k) (i := i) (d := d) (D := D) o1 g.fh (evd_c pd) hn (fun F2 H2 g2 => evd_vari hk) hl fun xs F2 H2 g2 o2 => h d xs F2 H2 hd (g.trans (.of (ws.up g) g2)) o2
  exact this
end
end Dv
namespace Sg
open PySem PySem.Spec L2 Dv
section
variable {P : Program} {w : World} {K : PySem.W.Frag} {mg : Str → Option Value} {base : Heap} {SE IW IT NB TM fI : Addr} {fd : FuncData}
def R_lot : List PyData → PyData → Prop := fun ds d => ∃ n L, ds = [.int (n : Nat)] ∧ Lot n L ∧ d = natD L
theorem sc_law_lot : FnScope ["_law_well_here", "_law_many_here", "_law_x"] ["_law_well_here", "_law_many_here"] (defScope (topS 57)) := ⟨rfl, rfl, rfl, by decide +kernel, rfl, by decide +kernel, by decide +kernel⟩
theorem c__law_lot (T : Txt K mg) : Cal P w K mg base CX0 2 "_law_lot" ["_law_well_here", "_law_many_here"] (spW K (fun ds => ∃ n : Nat, ds = [.int (n : Nat)] ∧ n ≤ 10) R_lot) := by
  have c__law_dip := c__law_dip (P := P) (w := w) (base := base) T
  refine T.d_law_lot.cal sc_law_lot (spW_len (ps := ["_law_many_here"]) fun ds ⟨n, e, _⟩ => by rw [e]; rfl) (fun f cdv A outer s H vs Q E hr ⟨F, p, us, ds, ws, e, ha, pre, q⟩ => ?_)
  have nd := sc_law_lot.nd
  obtain ⟨n, rfl, hn⟩ := pre
  obtain ⟨v2, rfl, h2⟩ := DpAll.one_inv ha
  obtain rfl := h2.int_inv
  subst e
  refine ⟨_, (pss_one (ps_ret (q_tuple K T.tuple_n (pe_lc (own := [("_law_x", 2)]) rfl nd (pi_range1 rfl T.range_n (pa_cons (pv 1) pa_nil)) (blkOk_by (by kernel_rfl)) (fun _ _ _ _ _ => (pg_name (i := 2) nd rfl (Or.inl rfl))) (fun _ _ _ _ _ => (pts_one (pt_cmpR op_eq (pe_cal c__law_dip hr (by decide) pass0 (pa_cons (pv 0) (pa_cons pe_int pa_nil))) pe_int (nomark _)))) (fun _ _ _ _ _ => (pv 2)))))), ?_⟩
  refine stw_ret (P := fun v F2 _ => ∃ L, Lot ((n : Nat) : Int).toNat L ∧ Dp K F2 v (.tuple (natsD L))) ws (evw_bind (K := K) (B := fun d => ∃ ds, d = .list ds ∧ ∃ L, ds = natsD L ∧ Lot ((n : Nat) : Int).toNat L) (fun v => tCB (rTupQ K) (tCons (tC v) tNil)) (fun H Q => rfl) (evw_lc (n := ((n : Nat) : Int).toNat) (item := fun i => .int (i : Nat)) (P := fun i σ2 _ => σ2 = [some (.ref p), some (.int (n : Nat)), some (.int (i : Nat))]) (fun i ds => ∃ L, ds = natsD L ∧ Lot i L) ⟨[], rfl, List.Pairwise.nil, fun x h => by cases h⟩ (fun F1 H1 g => iwd_range1 (n := (n : Int)) (evd_vari rfl) (by omega) (by omega)) (by omega) (fun i ds ⟨L, e, hL⟩ => by rw [e, List.length_map]; exact hL.len) (fun _ _ _ _ _ => tgd_int) ?_ ?_ ?_ ?_) ?_) ?_
  · rintro _ _ _ rfl; rfl
  · rintro _ _ _ _ rfl _; rfl
  · rintro i σ2 F1 H1 ds hi g1 ws1 rfl ⟨L, rfl, hL⟩ Q1 q1
    exact evtw_test (evw_eqI (K := K) (evw_dip (m := 2) rfl (evw_i rfl) (by decide) (by decide)) (evw_i (A := fun _ => True) trivial)) F1 H1 ws1.refl ws1 Q1 fun b F2 H2 g2 => q1 b F2 H2 g2 fun _ => ⟨L, rfl, hL.1, fun x hx => by have := hL.2 x hx; omega⟩
  · rintro i σ2 F1 H1 ds hi g1 rfl ⟨L, rfl, hL⟩
    exact evw_d (d := .int (i : Nat)) ⟨L ++ [i], by rw [natsD, natsD, List.map_append]; rfl, List.pairwise_append.mpr ⟨hL.1, List.pairwise_singleton _ _, fun a ha b hb => by rw [List.mem_singleton.mp hb]; exact hL.2 a ha⟩, fun x hx => by
      rcases List.mem_append.mp hx with h | h
      · have := hL.2 x h; omega
      · rw [List.mem_singleton.mp h]; omega⟩ fun F2 H2 g2 => evd_vari rfl
  · rintro v d F1 H1 f1 ⟨ds, rfl, L, rfl, hL⟩ pd
    exact EvP.imp (evd_tupL (evd_c pd)) (P := fun v F2 _ => Dp K F2 v (.tuple (natsD L))) fun v F2 H2 p2 => ⟨L, hL, p2⟩
  · rintro v F1 H1 g1 ⟨L, hL, p1⟩
    rw [Int.toNat_natCast] at hL
    exact q v F1 H1 _ ⟨n, L, rfl, hL, rfl⟩ g1 (by rw [natD_eq]; exact p1)
/-! ### a web of draws -/
def upd1 (W : Nat → Nat → Int) (x y : Nat) (s : Int) : Nat → Nat → Int := fun a b => if a = x ∧ b = y then s else W a b
def upd2 (W : Nat → Nat → Int) (x y : Nat) (s : Int) : Nat → Nat → Int := upd1 (upd1 W x y s) y x s
theorem upd2_web {n : Nat} {W : Nat → Nat → Int} {x y : Nat} {s : Int} (ww : Web n W) (hxy : y < x) (hs : s = 1 ∨ s = -1) : Web n (upd2 W x y s) := by
  refine ⟨ww.lo, ww.hi, fun a b ha hb => ?_, fun a b ha hb => ?_, fun a ha => ?_⟩
  · unfold upd2 upd1
    split
    · exact .inr hs
    · split
      · exact .inr hs
      · exact ww.sgn a b ha hb
  · unfold upd2 upd1
    have := ww.sym a b ha hb
    split <;> split <;> (try split) <;> (try split) <;> (first | rfl | exact this | omega)
  · unfold upd2 upd1
    rw [if_neg (by omega), if_neg (by omega)]
    exact ww.dia a ha
def rowsD (n : Nat) (W : Nat → Nat → Int) : Nat → List PyData := fun x => (List.range n).map fun y => .int (W x y)
theorem rows_set {n : Nat} {W : Nat → Nat → Int} {x y : Nat} {s : Int} (hy : y < n) : ∀ k, k < n → put (rowsD n W) x ((rowsD n W x).set y (.int s)) k = rowsD n (upd1 W x y s) k := fun k _ => by
  by_cases e : k = x
  · subst e
    rw [put_same]
    unfold rowsD
    rw [set_rng hy]
    refine map_rng_congr fun b _ => ?_
    unfold upd1
    by_cases e : b = y
    · subst e; rw [put_same, if_pos ⟨rfl, rfl⟩]
    · rw [put_ne e, if_neg (fun h => e h.2)]
  · rw [put_ne e]
    unfold rowsD upd1
    refine map_rng_congr fun b _ => ?_
    rw [if_neg (fun h => e h.1)]
def R_law_web : List PyData → PyData → Prop := fun ds d => ∃ n W, ds = [.int (n : Nat)] ∧ Web n W ∧ d = matD n W
theorem sc_law_web : FnScope ["_law_well_here", "_law_many_here", "_law_dense", "_law_angry", "_law_lines", "_law_x", "_law_y", "_law_line", "_law_other"] ["_law_well_here", "_law_many_here"] (defScope (topS 55)) := ⟨rfl, rfl, rfl, by decide +kernel, rfl, by decide +kernel, by decide +kernel⟩
theorem c__law_web (T : Txt K mg) : Cal P w K mg base CX0 2 "_law_web" ["_law_well_here", "_law_many_here"] (spW K (fun ds => ∃ n : Nat, ds = [.int (n : Nat)] ∧ 1 ≤ n ∧ n ≤ 10) R_law_web) := by
  have c__law_dip := c__law_dip (P := P) (w := w) (base := base) T
  refine T.d_law_web.cal sc_law_web (spW_len (ps := ["_law_many_here"]) fun ds ⟨n, e, _⟩ => by rw [e]; rfl) (fun f cdv A outer s H vs Q E hr ⟨F, p, us, ds, ws, e, ha, pre, q⟩ => ?_)
  have nd := sc_law_web.nd
  obtain ⟨n, rfl, hn1, hn⟩ := pre
  obtain ⟨v2, rfl, h2⟩ := DpAll.one_inv ha
  obtain rfl := h2.int_inv
  subst e
  refine ⟨_, (pss_cons (ps_set (i := 2) nd rfl (Or.inl rfl) (pe_op op_add pe_int (pe_cal c__law_dip hr (by decide) pass0 (pa_cons (pv 0) (pa_cons pe_int pa_nil)))))
      (pss_cons (ps_set (i := 3) nd rfl (Or.inl rfl) (pe_cal c__law_dip hr (by decide) pass0 (pa_cons (pv 0) (pa_cons pe_int pa_nil))))
      (pss_cons (ps_setLc (i := 4) (own := [("_law_x", 5)]) rfl nd rfl rfl (sw_true rfl rfl rfl (by decide +kernel)) (pi_range1 rfl T.range_n (pa_cons (pv 1) pa_nil)) (blkOk_by (by kernel_rfl)) (fun _ _ _ _ _ => (pg_name (i := 5) nd rfl (Or.inl rfl))) (fun _ _ _ _ _ => pts_nil) (fun _ _ _ _ _ => (pe_op op_rep (pe_lst (pa_cons pe_int pa_nil)) (pv 1))))
      (pss_cons (ps_for PassesOwn.never rfl (pi_range1 rfl T.range_n (pa_cons (pv 1) pa_nil)) (pg_name (i := 5) nd rfl (Or.inl rfl)) (pss_one (ps_for PassesOwn.never rfl (pi_range1 rfl T.range_n (pa_cons (pv 5) pa_nil)) (pg_name (i := 6) nd rfl (Or.inl rfl)) (pss_one (ps_if (pt_cmpR op_lt (pe_cal c__law_dip hr (by decide) pass0 (pa_cons (pv 0) (pa_cons pe_int pa_nil))) (pv 2) (nomark _)) (pss_cons (ps_set (i := 7) nd rfl (Or.inl rfl) (pe_ix (kIxL K) (pv 4) (pv 5) (fun _ _ => rfl)))
            (pss_cons (ps_asg (pe_ifExp (pt_cmpR op_lt (pe_cal c__law_dip hr (by decide) pass0 (pa_cons (pv 0) (pa_cons pe_int pa_nil))) (pv 3) (nomark _)) (pe_un un_neg pe_int) pe_int) (pg_sub (pv 7) (pv 6) set_list))
            (pss_cons (ps_set (i := 8) nd rfl (Or.inl rfl) (pe_ix (kIxL K) (pv 4) (pv 6) (fun _ _ => rfl)))
            (pss_one (ps_asg (pe_ix (kIxL K) (pv 7) (pv 6) (fun _ _ => rfl)) (pg_sub (pv 8) (pv 5) set_list)))))) pss_nil)))))
      (pss_one (ps_ret (q_tuple K T.tuple_n (pe_lc (own := [("_law_line", 7)]) rfl nd (kLst K (pv 4)) (blkOk_by (by kernel_rfl)) (fun _ _ _ _ _ => (pg_name (i := 7) nd rfl (Or.inl rfl))) (fun _ _ _ _ _ => pts_nil) (fun _ _ _ _ _ => (q_tuple K T.tuple_n (pv 7))))))))))), ?_⟩
  refine st_seq (stw_asg ws (evw_opI (K := K) (g := fun a b => a + b) (A := fun i => i = 1) (C := fun r => True) (evw_i rfl) (evw_dip (m := 6) rfl (evw_i rfl) (by decide) (by decide)) (fun i j hi hj => trivial)) fun v F1 H1 g1 ⟨d, ⟨dense, ed, _⟩, p1⟩ => ?_)
  subst ed
  obtain rfl := p1.int_inv
  have ws1 := ws.up g1
  dsimp only
  refine st_seq (stw_asg ws1 (evw_dip (m := 5) rfl (evw_i rfl) (by decide) (by decide)) fun v F2 H2 g2 ⟨d, ⟨angry, ed, _⟩, p2⟩ => ?_)
  subst ed
  obtain rfl := p2.int_inv
  have ws2 := ws1.up g2
  have gA := g1.trans g2
  dsimp only
  refine st_seq (st_asg ws2.z (evp_lcNew (K := K) (ds := List.replicate n (.int 0)) (g := fun i => (i : Nat)) (n := ((n : Nat) : Int).toNat) (iwd_range1 (n := (n : Int)) (evd_vari rfl) (by omega) (by omega)) (by omega) fun i F3 H3 hi f3 hh3 z3 => evp_rep (n := n) (eva_one evd_i) (evd_vari rfl) hn1 (by omega)) fun v F3 H3 g3 ⟨A0, qs, ev, hM⟩ => ?_)
  subst ev
  rw [Int.toNat_natCast] at hM
  have ws3 := ws2.up (.of ws2 g3)
  have gB := gA.trans (.of ws2 g3)
  have neP : ∀ {u : Addr}, H2 u = none → u ≠ p := fun h => GrW.ne ws2.wl h
  have hA0 : A0 ≠ p := neP hM.nw
  have hqp : ∀ k, k < n → qs k ≠ p := fun k hk => neP (hM.row k hk).nw
  have nH : ∀ {u : Addr}, u ≠ p → H2 u = none → H u = none := fun {u} hu h => by
    cases e : H u with
    | none => rfl
    | some o => rw [gA.h u o hu e] at h; cases h
  have hM0 : MatO K H2 F3 H3 n qs A0 (rowsD n fun _ _ => 0) := hM.congr fun k hk => rep_rng
  have web0 : Web n fun _ _ => 0 := ⟨hn1, hn, fun _ _ _ _ => .inl rfl, fun _ _ _ _ => rfl, fun _ _ => rfl⟩
  dsimp only
  have rowAt : ∀ {F4 H4 : Hp} {W : Nat → Nat → Int} {k : Nat} {tk : TE} {σ : L2.St}, MatO K H2 F4 H4 n qs A0 (rowsD n W) → k < n → σ[4]? = some (some (.ref A0)) → EvD K tk σ F4 H4 (.int (k : Nat)) → EvV (tOp (rIxL K) (tVar 4) tk) σ F4 H4 (.ref (qs k)) := fun {F4 H4 W k tk σ} hM hk hσ h => evp_ixO hM.at_ (evv_var hσ) h (atI_nat (at_rng hk))
  refine st_seq (st_forI (K := K) (g := fun i => (i : Nat)) (n := ((n : Nat) : Int).toNat) (fun i σ' F' H' => ∃ u5 u6 u7 u8 W, σ' = [some (.ref p), some (.int (n : Nat)), some (.int dense), some (.int angry), some (.ref A0), u5, u6, u7, u8] ∧ WS p F' H' ∧ GrW p F H F' H' ∧ MatO K H2 F' H' n qs A0 (rowsD n W) ∧ Web n W) ws3.z (iwd_range1 (n := (n : Int)) (evd_vari rfl) (by omega) (by omega))
    (fun F4 H4 g4 => ⟨_, _, _, _, _, rfl, ws3.up (.of ws3 g4), gB.trans (.of ws3 g4), hM0.up g4, web0⟩) ?_ ?_)
  · rintro i σ' F' H' F'' H'' N hi f' z' ⟨u5, u6, u7, u8, W, rfl, wsI, gI, hMI, wwI⟩ g' hN
    rw [Int.toNat_natCast] at hi
    have ws' := wsI.up (.of wsI g')
    have gI' := gI.trans (.of wsI g')
    refine (st_forI (K := K) (g := fun j => (j : Nat)) (n := ((i : Nat) : Int).toNat) (fun j σ' F' H' => ∃ u6 u7 u8 W, σ' = [some (.ref p), some (.int (n : Nat)), some (.int dense), some (.int angry), some (.ref A0), some (.int (i : Nat)), u6, u7, u8] ∧ WS p F' H' ∧ GrW p F H F' H' ∧ MatO K H2 F' H' n qs A0 (rowsD n W) ∧ Web n W ∧ Same F'' F') ws'.z (iwd_range1 (n := (i : Int)) (evd_vari rfl) (by omega) (by omega))
      (fun F4 H4 g4 => ⟨_, _, _, _, rfl, ws'.up (.of ws' g4), gI'.trans (.of ws' g4), (hMI.up g').up g4, wwI, g4.f⟩) ?_ ?_)
    · rintro j σ' F4 H4 F5 H5 N2 hj f4 z4 ⟨u6, u7, u8, W, rfl, ws4, g4, hM4, ww4, f44⟩ g5 hN2
      rw [Int.toNat_natCast] at hj
      have hjn : j < n := by omega
      have ws5 := ws4.up (.of ws4 g5)
      have gT := g4.trans (.of ws4 g5)
      have hM5 := hM4.up g5
      have f55 := f44.trans g5.f
      refine stw_if ws5 (evtw_test (evw_cmpI (K := K) (g := fun a b => decide (a < b)) (evw_dip (m := 6) rfl (evw_i rfl) (by decide) (by decide)) (evw_vari (A := fun _ => True) rfl trivial))) (fun F6 H6 g6 => ?_) fun F6 H6 g6 => ?_
      · have ws6 := ws5.up g6
        have gT6 := gT.trans g6
        have hM6 := hM5.upW hA0 hqp g6
        refine st_seq (st_asg ws6.z (rowAt hM6 hi rfl (evd_vari rfl)) fun v F7 H7 g7 ev => ?_)
        subst ev
        have ws7 := ws6.up (.of ws6 g7)
        have gT7 := gT6.trans (.of ws6 g7)
        have hM7 := hM6.up g7
        dsimp only
        refine st_seq (stw_setO (K := K) (H0 := H2) (i := j) (q := qs i) (ds := rowsD n W i) (B := fun d => ∃ s : Int, d = .int s ∧ (s = 1 ∨ s = -1)) ws7 (fun F8 H8 g8 => (hM7.upW hA0 hqp g8).row i hi) (evw_if (evtw_test (evw_cmpI (K := K) (g := fun a b => decide (a < b)) (evw_dip (m := 4) rfl (evw_i rfl) (by decide) (by decide)) (evw_vari (A := fun _ => True) rfl trivial))) (evw_d ⟨-1, rfl, .inr rfl⟩ fun _ _ _ => evd_unI (g := fun a => -a) evd_i) (evw_d ⟨1, rfl, .inl rfl⟩ fun _ _ _ => evd_i)) rfl rfl (by rw [rowsD, len_rng]; exact hjn) fun d xs F8 H8 ⟨s, ed, hs⟩ g8 ho8 => ?_)
        subst ed
        have ws8' := ws7.up g8
        have hM8' := hM7.upW hA0 hqp g8
        have hM8 := (hM8'.put hi ho8).congr (rows_set (s := s) hjn)
        have ro := ho8.out
        have ws8 := ws8'.mut (o := .lst xs) ro (hqp i hi)
        have gT8 := (gT7.trans g8).mut (o := .lst xs) (nH (hqp i hi) (hM.row i hi).nw) ro (hqp i hi)
        have f88 := f55.trans (g6.f.trans (g7.f.trans g8.f))
        dsimp only
        refine st_seq (st_asg ws8.z (rowAt hM8 hjn rfl (evd_vari rfl)) fun v F9 H9 g9 ev => ?_)
        subst ev
        have ws9 := ws8.up (.of ws8 g9)
        have gT9 := gT8.trans (.of ws8 g9)
        have hM9 := hM8.up g9
        dsimp only
        refine st_setO (i := i) (d := .int s) (hM9.row j hjn) ws9.z (evd_ixO (hM9.row i hi) (evv_var rfl) (evd_vari rfl) ?_) rfl (fun _ _ _ => evd_vari rfl) (by rw [rowsD, len_rng]; exact hi) fun ys F10 H10 g10 ho10 => ?_
        · refine atI_nat ?_
          rw [rowsD, at_rng hjn]
          unfold upd1
          rw [if_pos ⟨rfl, rfl⟩]
        · have ws10' := ws9.up (.of ws9 g10)
          have hM10 := ((hM9.up g10).put hjn ho10).congr (rows_set (s := s) hi)
          exact hN2 _ F10 _ (g6.f.trans (g7.f.trans (g8.f.trans (g9.f.trans g10.f)))) (ws10'.mut ho10.out (hqp j hjn)).z ⟨_, _, _, upd2 W i j s, rfl, ws10'.mut ho10.out (hqp j hjn), (gT9.trans (.of ws9 g10)).mut (nH (hqp j hjn) (hM.row j hjn).nw) ho10.out (hqp j hjn), hM10, upd2_web ww4 hj hs, f88.trans (g9.f.trans g10.f)⟩
      · exact hN2 _ F6 H6 g6.f g6.fh ⟨_, _, _, W, rfl, ws5.up g6, gT.trans g6, hM5.upW hA0 hqp g6, ww4, f55.trans g6.f⟩
    · rintro σ' F4 H4 f4 z4 ⟨u6, u7, u8, W, rfl, ws4, g4, hM4, ww4, f44⟩
      exact hN _ F4 H4 f44 z4 ⟨_, _, _, _, W, rfl, ws4, g4, hM4, ww4⟩
  · rintro σ' F' H' f' z' ⟨u5, u6, u7, u8, W, rfl, wsI, gI, hMI, wwI⟩
    obtain ⟨F4, f4, gw, hd⟩ := hMI.give wsI.z (fun u h1 h2 => nH h1 h2) hA0 hqp gI
    refine st_ret (F := F4) gw.fh (evd_tupL (K := K) (evd_lcD0 (g := fun k => .list (rowsD n W k)) (n := n) (fun k => rowD n W k) (iwd_lstR (evd_var rfl hd)) (by omega) fun k v F5 H5 hk f5 hh5 z5 hv => evd_tupL (evd_var rfl hv))) fun v F5 H5 g5 p5 => ?_
    exact q v F5 H5 _ ⟨n, W, rfl, wwI, rfl⟩ (gw.trans (.of (ws.up gw) g5)) p5
end
end Sg
set_option maxRecDepth 100000
set_option maxHeartbeats 4000000
/-! G21: a tie that is none. -/
namespace Sg
open PySem PySem.Spec L2 Dv
section
variable {P : Program} {w : World} {K : PySem.W.Frag} {mg : Str → Option Value} {base : Heap} {SE IW IT NB TM fI : Addr} {fd : FuncData}
/-- l[dip(well, m)] -/
theorem evw_pickI {σ : L2.St} {F H : Hp} {p : Addr} {n k : Nat} {te : TE} {m : Nat} {E : XK} {ds : List PyData} (hn : σ[n]? = some (some (.ref p))) (hl : ∀ F1 H1, GrW p F H F1 H1 → EvD K (tVar k) σ F1 H1 (.list ds)) (h : EvWD K p te σ F H (isI fun i => i = (m : Nat))) (h0 : 0 < m) (h1 : m < 1000) (hm : m ≤ ds.length) :
    EvWD K p (tOp (rIxL K) (tVar k) (tCall (spW K Pre_dip R_dip) [] E (tCons (tVar n) (tCons te tNil)))) σ F H (fun d => ∃ r, r < m ∧ ds[r]? = some d) :=
  evw_op (B1 := fun d => d = .list ds) (B2 := isI fun r => 0 ≤ r ∧ r < m) (evw_d rfl hl) (evw_dip (m := (m : Int)) hn h (by omega) (by omega)) fun d e u v F1 H1 _ ed ⟨r, ee, r0, r1⟩ hu hv => by
    subst ed
    subst ee
    have hr : r.toNat < ds.length := by omega
    refine ⟨ds[r.toNat], ⟨r.toNat, by omega, List.getElem?_eq_getElem hr⟩, evd_ixL (n := r.toNat) (evd_c hu) (evd_eq (evd_c hv) (by rw [Int.toNat_of_nonneg r0])) (List.getElem?_eq_getElem hr)⟩
theorem evw_pick {σ : L2.St} {F H : Hp} {p : Addr} {n k : Nat} {E : XK} {ds : List PyData} {v : V} (hn : σ[n]? = some (some (.ref p))) (hk : σ[k]? = some (some v)) (hv : Dp K F v (.list ds)) (h0 : 0 < ds.length) (h1 : ds.length < 1000) :
    EvWD K p (tOp (rIxL K) (tVar k) (tCall (spW K Pre_dip R_dip) [] E (tCons (tVar n) (tCons (tCB (rLenQ K) (tCons (tVar k) tNil)) tNil)))) σ F H (fun d => d ∈ ds) :=
  (evw_pickI (m := ds.length) hn (fun F1 H1 g => evd_var hk (hv.up g.f)) (evw_d ⟨_, rfl, rfl⟩ fun F1 H1 g => evd_lenL (evd_var hk (hv.up g.f))) h0 h1 (Nat.le_refl _)).imp fun v F2 H2 ⟨d, ⟨r, _, e⟩, p2⟩ => ⟨d, List.mem_of_getElem? e, p2⟩
def R_bad_tie : List PyData → PyData → Prop := fun ds d => ∃ n W, ds = [matD n W] ∧ ¬ IsTie n W d
theorem pair_no {n : Nat} {W : Nat → Nat → Int} {i j : Int} (h : ∀ x y : Nat, i = x → j = y → x < y → y < n → W x y ≠ 0 → False) : ¬ IsTie n W (.tuple [.int i, .int j]) := fun ⟨x, y, e, h1, h2, h3⟩ => by
  injection e with e
  injection e with e1 e2
  injection e2 with e2 _
  injection e1 with e1
  injection e2 with e2
  exact h x y e1 e2 h1 h2 h3
theorem sc_law_bad_tie : FnScope ["_law_well_here", "_law_web_here", "_law_many_here", "_law_some", "_law_x", "_law_ties_here", "_law_y"] ["_law_well_here", "_law_web_here"] (defScope (topS 66)) := ⟨rfl, rfl, rfl, by decide +kernel, rfl, by decide +kernel, by decide +kernel⟩
theorem c__law_bad_tie (T : Txt K mg) : Cal P w K mg base CX0 2 "_law_bad_tie" ["_law_well_here", "_law_web_here"] (spW K PreW R_bad_tie) := by
  have c__law_dip := c__law_dip (P := P) (w := w) (base := base) T
  have c__law_ties := c__law_ties (P := P) (w := w) (base := base) T
  refine T.d_law_bad_tie.cal sc_law_bad_tie (spW_len (ps := ["_law_web_here"]) fun ds ⟨n, W, e, _⟩ => by rw [e]; rfl) (fun f cdv A outer s H vs Q E hr ⟨F, p, us, ds, ws, e, ha, pre, q⟩ => ?_)
  have nd := sc_law_bad_tie.nd
  obtain ⟨n, W, rfl, ww⟩ := pre
  have hn := ww.hi
  obtain ⟨v2, rfl, h2⟩ := DpAll.one_inv ha
  subst e
  refine ⟨_, (pss_cons (ps_set (i := 2) nd rfl (Or.inl rfl) (q_len K T.len_n (pv 1)))
      (pss_cons (ps_set (i := 3) nd rfl (Or.inl rfl) (pe_lst (pa_cons pe_non (pa_cons pe_int (pa_cons (pe_tup pa_nil) (pa_cons (pe_tup (pa_cons pe_int pa_nil)) (pa_cons (pe_tup (pa_cons pe_int (pa_cons pe_int pa_nil))) (pa_cons (pe_tup (pa_cons pe_int (pa_cons (pv 2) pa_nil))) (pa_cons (pe_tup (pa_cons (pe_un un_neg pe_int) (pa_cons pe_int pa_nil))) (pa_cons (pe_lst (pa_cons pe_int (pa_cons pe_int pa_nil))) (pa_cons pe_str (pa_cons (pe_tup (pa_cons pe_int (pa_cons pe_int (pa_cons pe_int pa_nil)))) (pa_cons (pe_tup (pa_cons pe_non (pa_cons pe_int pa_nil))) (pa_cons (pe_tup (pa_cons (pe_lst (pa_cons pe_int pa_nil)) (pa_cons pe_int pa_nil))) (pa_cons (pe_tup (pa_cons pe_int (pa_cons (pe_op op_pow pe_int pe_int) pa_nil))) pa_nil)))))))))))))))
      (pss_cons (ps_for PassesOwn.never rfl (pi_range1 rfl T.range_n (pa_cons (pv 2) pa_nil)) (pg_name (i := 4) nd rfl (Or.inr rfl)) (pss_one (ps_set (i := 3) nd rfl (Or.inl rfl) (pe_op op_cat (pv 3) (pe_lc (own := [("_law_y", 6)]) rfl nd (pi_range2 rfl T.range_n (pa_cons (pe_op op_add (pv 4) pe_int) (pa_cons (pv 2) pa_nil))) (blkOk_by (by kernel_rfl)) (fun _ _ _ _ _ => (pg_name (i := 6) nd rfl (Or.inl rfl))) (fun _ _ _ _ _ => (pts_one (pt_cmpR op_eq (pe_ix (kIxT K) (pe_ix (kIxT K) (pv 1) (pv 4) (fun _ _ => rfl)) (pv 6) (fun _ _ => rfl)) pe_int (nomark _)))) (fun _ _ _ _ _ => (pe_tup (pa_cons (pv 4) (pa_cons (pv 6) pa_nil)))))))))
      (pss_cons (ps_set (i := 5) nd rfl (Or.inl rfl) (pe_cal c__law_ties hr (by decide) pass0 (pa_cons (pv 1) pa_nil)))
      (pss_cons (ps_if (pt_cmpR (kNeD K hr.units) (pv 5) (pe_lst pa_nil) (nomark _)) (pss_cons (ps_asg (pe_ix (kIxL K) (pv 5) (pe_cal c__law_dip hr (by decide) pass0 (pa_cons (pv 0) (pa_cons (q_len K T.len_n (pv 5)) pa_nil))) (fun _ _ => rfl)) (kPgT (n := 2) K rfl (pgs_cons (pg_name (i := 4) nd rfl (Or.inr rfl)) (pgs_cons (pg_name (i := 6) nd rfl (Or.inl rfl)) pgs_nil))))
        (pss_one (ps_set (i := 3) nd rfl (Or.inl rfl) (pe_op op_cat (pv 3) (pe_lst (pa_cons (pe_tup (pa_cons (pv 6) (pa_cons (pv 4) pa_nil))) (pa_cons (pe_lst (pa_cons (pv 4) (pa_cons (pv 6) pa_nil))) (pa_cons (pe_tup (pa_cons (pv 4) (pa_cons (pv 6) (pa_cons pe_int pa_nil)))) (pa_cons (pe_tup (pa_cons (pv 4) (pa_cons (pe_cmpR op_eq (pv 6) pe_int (nomark _)) pa_nil))) (pa_cons (pe_tup (pa_cons (pe_cmpR op_eq (pv 4) pe_int (nomark _)) (pa_cons (pv 6) pa_nil))) (pa_cons (pe_tup (pa_cons (pe_tup (pa_cons (pv 4) (pa_cons (pv 6) pa_nil))) pa_nil)) pa_nil))))))))))) pss_nil)
      (pss_one (ps_ret (pe_ix (kIxL K) (pv 3) (pe_cal c__law_dip hr (by decide) pass0 (pa_cons (pv 0) (pa_cons (q_len K T.len_n (pv 3)) pa_nil))) (fun _ _ => rfl))))))))), ?_⟩
  refine st_seq (st_asg ws.z (evd_lenR (K := K) (evd_var rfl h2)) fun v F1 H1 g1 p1 => ?_)
  obtain rfl := p1.int_inv
  dsimp only
  refine st_seq (st_asg g1.fh (evp_lstP (K := K) (ds := [.none, .int 3, .tuple [], .tuple [.int 0], .tuple [.int 0, .int 0], .tuple [.int 0, .int (n : Nat)], .tuple [.int (-1), .int 0], .list [.int 0, .int 1], .str "01", .tuple [.int 0, .int 1, .int 2], .tuple [.none, .int 0], .tuple [.list [.int 0], .int 1], .tuple [.int 0, .int (10 ^ (30 : Int).toNat)]])
    (eva_cons evd_n (eva_cons evd_i (eva_cons (evd_tup eva_nil (by simp)) (eva_cons (evd_tup (eva_one evd_i) (by simp)) (eva_cons (evd_tup (eva_cons evd_i (eva_one evd_i)) (by simp)) (eva_cons (evd_tup (eva_cons evd_i (eva_one (evd_vari rfl))) (by simp))
      (eva_cons (evd_tup (eva_cons (evd_unI (g := fun a => -a) evd_i) (eva_one evd_i)) (by simp)) (eva_cons (evd_lst (eva_cons evd_i (eva_one evd_i)) (by simp)) (eva_cons (evd_c (.str _)) (eva_cons (evd_tup (eva_cons evd_i (eva_cons evd_i (eva_one evd_i))) (by simp)) (eva_cons (evd_tup (eva_cons evd_n (eva_one evd_i)) (by simp))
        (eva_cons (evd_tup (eva_cons (evd_lst (eva_one evd_i) (by simp)) (eva_one evd_i)) (by simp)) (eva_one (evd_tup (eva_cons evd_i (eva_one (evd_opC (C := CPow) (g := fun a b => a ^ b.toNat) evd_i evd_i (by unfold CPow; decide)))) (by simp)))))))))))))))
    (by simp)) fun vf F2 H2 g2 ⟨p2, d2⟩ => ?_)
  dsimp only
  have gA := g1.trans g2
  have no0 : ∀ d ∈ ([.none, .int 3, .tuple [], .tuple [.int 0], .tuple [.int 0, .int 0], .tuple [.int 0, .int (n : Nat)], .tuple [.int (-1), .int 0], .list [.int 0, .int 1], .str "01", .tuple [.int 0, .int 1, .int 2], .tuple [.none, .int 0], .tuple [.list [.int 0], .int 1], .tuple [.int 0, .int (10 ^ (30 : Int).toNat)]] : List PyData), ¬ IsTie n W d := by
    intro d hd
    simp only [List.mem_cons, List.not_mem_nil, or_false] at hd
    have big : ((10 : Int) ^ (30 : Int).toNat) > 1000 := by decide
    rcases hd with rfl | rfl | rfl | rfl | rfl | rfl | rfl | rfl | rfl | rfl | rfl | rfl | rfl
    · rintro ⟨x, y, e, _⟩; cases e
    · rintro ⟨x, y, e, _⟩; cases e
    · rintro ⟨x, y, e, _⟩; cases e
    · rintro ⟨x, y, e, _⟩; cases e
    · exact pair_no fun x y e1 e2 h1 h2 h3 => by omega
    · exact pair_no fun x y e1 e2 h1 h2 h3 => by omega
    · exact pair_no fun x y e1 e2 h1 h2 h3 => by omega
    · rintro ⟨x, y, e, _⟩; cases e
    · rintro ⟨x, y, e, _⟩; cases e
    · rintro ⟨x, y, e, _⟩; cases e
    · rintro ⟨x, y, e, _⟩; injection e with e; injection e with e _; cases e
    · rintro ⟨x, y, e, _⟩; injection e with e; injection e with e _; cases e
    · exact pair_no fun x y e1 e2 h1 h2 h3 => by omega
  generalize hde : ([.none, .int 3, .tuple [], .tuple [.int 0], .tuple [.int 0, .int 0], .tuple [.int 0, .int (n : Nat)], .tuple [.int (-1), .int 0], .list [.int 0, .int 1], .str "01", .tuple [.int 0, .int 1, .int 2], .tuple [.none, .int 0], .tuple [.list [.int 0], .int 1], .tuple [.int 0, .int (10 ^ (30 : Int).toNat)]] : List PyData) = ds0 at p2 d2 no0
  have hl0 : ds0.length = 13 := by rw [← hde]; rfl
  clear hde
  refine st_seq (st_forI (K := K) (g := fun i => (i : Nat)) (n := ((n : Nat) : Int).toNat) (fun i σ' F' H' => ∃ vf u4 ds, σ' = [some (.ref p), some v2, some (.int (n : Nat)), some vf, u4, none, none] ∧ Gr F H F' H' ∧ PlnL K ds vf F' H' ∧ Dp K F' vf (.list ds) ∧ 3 ≤ ds.length ∧ ds.length ≤ 13 + i * 10 ∧ ∀ d ∈ ds, ¬ IsTie n W d) gA.fh (iwd_range1 (n := (n : Int)) (evd_vari rfl) (by omega) (by omega)) (fun F4 H4 g4 => ⟨vf, _, ds0, rfl, gA.trans g4, p2.up g4, d2.up g4.f, by omega, by omega, no0⟩) ?_ ?_)
  · rintro i σ' F' H' F'' H'' N hi f' z' ⟨vf, u4, ds, rfl, gg, hp, hd, hl1, hl2, hno⟩ g' hN
    rw [Int.toNat_natCast] at hi
    have gB := gg.trans g'
    have hp' := hp.up g'
    have hpl := picks_len (((n : Nat) : Int) - ((i : Int) + 1)).toNat (fun j => decide (W i (i + 1 + j) = 0)) fun j => tieD (i, i + 1 + j)
    refine st_asg g'.fh (evp_cat (ds := ds) (es := picks (((n : Nat) : Int) - ((i : Int) + 1)).toNat (fun j => decide (W i (i + 1 + j) = 0)) fun j => tieD (i, i + 1 + j)) (evp_var rfl fun F5 H5 f5 hh5 z5 => ?_) (EvP.imp (evp_lcIO (K := K) (s := 6) (vs := [6]) (g := fun j => (i : Int) + 1 + (j : Nat)) _ _ (iwd_range2 (lo := (i : Int) + 1) (n := (n : Int)) (evd_opI (g := fun a b => a + b) (evd_vari rfl) evd_i) (evd_vari rfl) (by omega)) (by omega) (fun j F5 H5 hj f5 hh5 z5 => ?_) fun j F5 H5 hj _ f5 hh5 z5 => ?_) fun v F5 H5 h => h.pln) ?_) fun v F5 H5 g5 ⟨p5, d5⟩ => ?_
    · obtain ⟨a, xs, e, b, c⟩ := hp'
      exact ⟨a, xs, e, hh5 _ _ b, c.up f5⟩
    · exact evt_test (evd_eqI (evd_cell (x := i) (y := i + 1 + j) (W := W) (evd_var rfl (h2.up (gB.f.trans f5))) (evd_vari rfl) (evd_eq (evd_vari rfl) (by congr 1)) hi (by omega)) evd_i)
    · exact evd_tup (eva_cons (evd_vari rfl) (eva_one (evd_eq (evd_vari rfl) (by congr 1)))) (by simp)
    · omega
    · refine hN _ F5 H5 g5.f g5.fh ⟨v, _, _, rfl, gB.trans g5, p5, d5, by rw [List.length_append]; omega, by rw [List.length_append]; omega, fun d hd => ?_⟩
      rcases List.mem_append.mp hd with h | h
      · exact hno d h
      · unfold picks at h
        obtain ⟨j, hj, rfl⟩ := List.mem_map.mp h
        have hj := (List.mem_filter.mp hj).2
        refine pair_no fun x y e1 e2 h1 h2 h3 => h3 ?_
        have e1 : x = i := by omega
        have e2 : y = i + 1 + j := by omega
        rw [e1, e2]
        exact of_decide_eq_true hj
  · rintro σ' F' H' f' z' ⟨vf, u4, ds, rfl, gg, hp, hd, hl1, hl2, hno⟩
    rw [Int.toNat_natCast] at hl2
    have hv2 := h2.up gg.f
    refine st_seq (st_asg z' (evd_call (K := K) (eva_one (evd_var rfl hv2)) ⟨n, W, rfl, hn, rfl⟩) fun v5 F5 H5 g5 p5 => ?_)
    dsimp only
    have hp5 := hp.up g5
    have hd5 := hd.up g5.f
    have gB := gg.trans g5
    have wsB : WS p F5 H5 := ws.up (.of ws gB)
    have fin : ∀ {F6 H6 : Hp} {vf : V} {o4 o6 : Option V} {ds : List PyData}, WS p F6 H6 → GrW p F H F6 H6 → Dp K F6 vf (.list ds) → 1 ≤ ds.length → ds.length < 1000 → (∀ d ∈ ds, ¬ IsTie n W d) →
        tRet (tOp (rIxL K) (tVar 3) (tCall (spW K Pre_dip R_dip) [] E0 (tCons (tVar 0) (tCons (tCB (rLenQ K) (tCons (tVar 3) tNil)) tNil)))) { nx := fun x H' => Q V.non H', rt := Q } [some (.ref p), some v2, some (.int (n : Nat)), some vf, o4, some v5, o6] H6 := fun {F6 H6 vf o4 o6 ds} ws6 g6 hd6 l1 l2 hno => by
      refine stw_ret ws6 (evw_pick (n := 0) (k := 3) rfl rfl hd6 l1 l2) fun v F7 H7 g7 ⟨d, hm, p7⟩ => ?_
      exact q v F7 H7 d ⟨n, W, rfl, hno d hm⟩ (g6.trans g7) p7
    have hneb : (!PyData.eqv (.list ((tiesL n W).map tieD)) (.list [])) = decide (0 < (tiesL n W).length) := by
      cases tiesL n W with
      | nil => simp [PyData.eqv, PyData.eqvAll]
      | cons t r => simp [PyData.eqv, PyData.eqvAll]
    refine st_seq (st_if g5.fh (evt_eq (evt_test (evd_neD (evd_var rfl p5) (evd_lst (K := K) eva_nil (by simp)) Shp.ties.ok (Shp.ok (k := 1) (.lst fun d h => by cases h)))) hneb) (fun hb F6 H6 g6 => ?_) fun hb F6 H6 g6 => ?_)
    · have hpos := of_decide_eq_true hb
      have ws6 := wsB.up (.of wsB g6)
      have gT := (GrW.of ws gB).trans (.of wsB g6)
      have p56 := p5.up g6.f
      have htl := ties_len n W
      have h100 : n * n ≤ 10 * 10 := Nat.mul_le_mul hn hn
      refine st_seq (evw_pick (K := K) (p := p) (n := 0) (k := 5) (ds := (tiesL n W).map tieD) rfl rfl p56 (by rw [List.length_map]; omega) (by rw [List.length_map]; omega) F6 H6 ws6.refl ws6 _ fun v F7 H7 g7 ⟨d, hm, p7⟩ => ?_)
      obtain ⟨⟨x, y⟩, ht, rfl⟩ := List.mem_map.mp hm
      obtain ⟨hxy, hyn, hw⟩ := mem_ties.mp ht
      have ws7 := ws6.up g7
      refine tgd_two_int (K := K) (F := F7) (H := H7) F7 H7 v (Same.refl _) (Same.refl _) g7.fh p7 _ fun σ2 e => ?_
      rw [e]
      have hp7 : PlnL K ds vf F7 H7 := by
        obtain ⟨a, xs, e, b, c⟩ := hp5.up g6
        have hap : a ≠ p := fun e2 => by
          obtain ⟨gg1, s1, hs⟩ := ws6.wl
          rw [e2, hs] at b
          injection b with b
          injection b with b
          have := c.len
          rw [← b] at this
          simp at this
          omega
        exact ⟨a, xs, e, g7.h _ _ hap b, c.up g7.f⟩
      have gT7 := gT.trans g7
      have eqI : ∀ {i : Int} {k : Nat} {σ : L2.St} {F8 H8 : Hp}, σ[k]? = some (some (.int i)) → EvD K (tOp rEq (tVar k) (tC (.int 1))) σ F8 H8 (.bool (decide (i = 1))) := fun h => evd_eqI (evd_vari h) evd_i
      refine st_asg g7.fh (evp_cat (K := K) (ds := ds) (es := [.tuple [.int (y : Nat), .int (x : Nat)], .list [.int (x : Nat), .int (y : Nat)], .tuple [.int (x : Nat), .int (y : Nat), .int 0], .tuple [.int (x : Nat), .bool (decide ((y : Int) = 1))], .tuple [.bool (decide ((x : Int) = 1)), .int (y : Nat)], .tuple [tieD (x, y)]]) (evp_var rfl fun F8 H8 f8 hh8 z8 => ?_)
        (EvP.imp (evp_lst (eva_cons (evd_tup (eva_cons (evd_vari rfl) (eva_one (evd_vari rfl))) (by simp)) (eva_cons (evd_lst (eva_cons (evd_vari rfl) (eva_one (evd_vari rfl))) (by simp)) (eva_cons (evd_tup (eva_cons (evd_vari rfl) (eva_cons (evd_vari rfl) (eva_one evd_i))) (by simp)) (eva_cons (evd_tup (eva_cons (evd_vari rfl) (eva_one (eqI rfl))) (by simp)) (eva_cons (evd_tup (eva_cons (eqI rfl) (eva_one (evd_vari rfl))) (by simp)) (eva_one (evd_tup (eva_one (evd_tup (eva_cons (evd_vari rfl) (eva_one (evd_vari rfl))) (by simp))) (by simp)))))))) (by simp)) fun v F8 H8 h => h.pln) (by simp; omega)) fun v8 F8 H8 g8 ⟨p8, d8⟩ => ?_
      · obtain ⟨a, xs, e, b, c⟩ := hp7
        exact ⟨a, xs, e, hh8 _ _ b, c.up f8⟩
      · have ws8 := ws7.up (.of ws7 g8)
        refine fin ws8 (gT7.trans (.of ws7 g8)) d8 (by simp) (by simp; omega) fun d hd => ?_
        rcases List.mem_append.mp hd with h | h
        · exact hno d h
        · simp only [List.mem_cons, List.not_mem_nil, or_false] at h
          rcases h with rfl | rfl | rfl | rfl | rfl | rfl
          · exact pair_no fun a b e1 e2 h1 h2 h3 => by omega
          · rintro ⟨a, b, e, _⟩; cases e
          · rintro ⟨a, b, e, _⟩; cases e
          · rintro ⟨a, b, e, _⟩; injection e with e; injection e with _ e; injection e with e _; cases e
          · rintro ⟨a, b, e, _⟩; injection e with e; injection e with e _; cases e
          · rintro ⟨a, b, e, _⟩; cases e
    · exact fin (wsB.up (.of wsB g6)) ((GrW.of ws gB).trans (.of wsB g6)) (hd5.up g6.f) (by omega) (by omega) hno
end
end Sg
set_option maxRecDepth 100000
set_option maxHeartbeats 4000000
/-! G22: a web that is none. -/
namespace Dv
open PySem PySem.Spec L2
section
variable {K : PySem.W.Frag} {σ : St} {F F' H H' H0 F0 F1 H1 : Hp} {te ta tb : TE} {tt : TT} {i j : Int} {p q : Addr} {d e : PyData} {ds es : List PyData} {D : Ends}
theorem cut_take {α : Type} {ds : List α} {k : Nat} (hk : k ≤ ds.length) : cutD ds none (some (k : Int)) = ds.take k := by
  unfold cutD
  rw [HT.sIx_nat, HT.sIx_none, Nat.min_eq_left hk, List.drop_zero, Nat.sub_zero]
theorem cut_drop {α : Type} {ds : List α} {k : Nat} (hk : k ≤ ds.length) : cutD ds (some (k : Int)) none = ds.drop k := by
  unfold cutD
  rw [HT.sIx_nat, HT.sIx_none, Nat.min_eq_left hk, List.take_of_length_le (by rw [List.length_drop]; exact Nat.le_refl _)]
/-- [list(x) for x in t]: a list of new lists -/
theorem evp_lcNewD {wi : TI} {n s : Nat} {vs : List Nat} {item : Nat → PyData} {rows : Nat → List PyData} (hi : IwD K wi σ F H n item) (hn : n ≤ 50000)
    (he : ∀ i x F1 H1, i < n → Same F F1 → Same H H1 → Same F1 H1 → Dp K F1 x (item i) → EvP te ((wipe σ vs).set s (some x)) F1 H1 (NewL K H1 (rows i))) (hs : s ∈ vs := by decide) :
    EvP (tLc wi (gName s) tYes te vs) σ F H (fun v F2 H2 => ∃ A qs, v = .ref A ∧ MatO K H F2 H2 n qs A rows) :=
  fun F1 H1 x y z Q q => hi F1 H1 x y z _ fun J F2 H2 g2 go stop yld A hD => by
    refine ⟨fun i m Hc => m = n - i ∧ i ≤ n ∧ ∃ Fc qs, Gr F2 H2 Fc Hc ∧ MatO K H2 Fc Hc i qs A rows, ⟨n, rfl, Nat.zero_le _, F2, fun _ => 0, .own g2.fh hD, hD, g2.fh.free hD, upd_same, fun k h => absurd h (Nat.not_lt_zero _), fun k l h => absurd h (Nat.not_lt_zero _), fun k h => absurd h (Nat.not_lt_zero _)⟩, ?_⟩
    rintro i m Hc ⟨rfl, hin, Fc, qs, gc, hM⟩
    by_cases hlt : i < n
    · refine .inr ⟨go i Fc Hc gc.f gc.fh hlt, fun H' => i + 1 ≤ n ∧ ∃ Fc qs, Gr F2 H2 Fc H' ∧ MatO K H2 Fc H' (i + 1) qs A rows, fun H' h => ⟨n - (i + 1), by omega, rfl, h.1, h.2⟩, fun u H' hy => ?_⟩
      obtain ⟨F3, g3, hu⟩ := yld i Fc Hc u H' gc.f gc.fh hlt hy
      have s3 : Same F F3 := (x.trans g2.f).trans (gc.f.trans g3.f)
      have t3 : Same H H' := (y.trans g2.h).trans (gc.h.trans g3.h)
      refine ⟨wipe_set hs, ?_⟩
      show te _ H' _
      refine he i u F3 H' hlt s3 t3 g3.fh hu F3 H' (Same.refl _) (Same.refl _) g3.fh _ fun w F5 H5 g5 ⟨a, ew, ho⟩ => ?_
      subst ew
      have M5 := (hM.up g3).up g5
      have hne : ∀ k, k < i → qs k ≠ a := fun k hk e => by
        obtain ⟨xs, ha, _⟩ := ((hM.up g3).row k hk).at_
        rw [e, ho.nw] at ha; cases ha
      have hA5 : a ≠ A := fun e => by have := (hM.up g3).at_; rw [← e, ho.nw] at this; cases this
      refine ⟨_, M5.at_, ?_, hlt, F5, Sg.put qs i a, ?_, M5.nw, M5.out, ?_, fun k hk => ?_, fun k l hk hl e => ?_, fun k hk => ?_⟩
      · exact Nat.lt_of_le_of_lt (show ((List.range i).map fun k => V.ref (qs k)).length ≤ 50000 by rw [List.length_map, List.length_range]; omega) (by decide)
      · have G := gc.trans (g3.trans g5)
        exact ⟨G.f, fun b o hb => by rw [upd_ne (ne_of_none hb hD)]; exact G.h _ _ hb, same_mut G.fh M5.out, G.nw⟩
      · have e : (List.range i).map (fun k => V.ref (Sg.put qs i a k)) = (List.range i).map fun k => V.ref (qs k) := List.map_congr_left fun k hk => by rw [Sg.put_ne (Nat.ne_of_lt (List.mem_range.mp hk))]
        rw [upd_same, List.range_succ, List.map_append, e]
        simp [Sg.put_same]
      · rcases Nat.lt_succ_iff_lt_or_eq.mp hk with h | h
        · rw [Sg.put_ne (Nat.ne_of_lt h)]
          exact (M5.row k h).other (M5.ne k h)
        · subst h
          rw [Sg.put_same]
          exact (ho.base (gc.h.trans g3.h)).other hA5
      · rcases Nat.lt_succ_iff_lt_or_eq.mp hk with h | h <;> rcases Nat.lt_succ_iff_lt_or_eq.mp hl with h' | h'
        · rw [Sg.put_ne (Nat.ne_of_lt h), Sg.put_ne (Nat.ne_of_lt h')] at e
          exact M5.inj k l h h' e
        · subst h'
          rw [Sg.put_ne (Nat.ne_of_lt h), Sg.put_same] at e
          exact (hne k h e).elim
        · subst h
          rw [Sg.put_same, Sg.put_ne (Nat.ne_of_lt h')] at e
          exact (hne l h' e.symm).elim
        · omega
      · rcases Nat.lt_succ_iff_lt_or_eq.mp hk with h | h
        · rw [Sg.put_ne (Nat.ne_of_lt h)]
          exact M5.ne k h
        · subst h
          rw [Sg.put_same]; exact hA5
    · have e : i = n := by omega
      subst e
      exact .inl ⟨stop Fc Hc gc.f gc.fh, q _ Fc Hc (g2.trans gc) ⟨A, qs, rfl, hM.base (y.trans g2.h)⟩⟩
end
end Dv
namespace Sg
open PySem PySem.Spec L2 Dv
theorem web_inv {ds : List PyData} (h : IsWeb (.tuple ds)) : ∃ W, Web ds.length W ∧ ∀ i d, ds[i]? = some d → d = rowD ds.length W i := by
  obtain ⟨n, W, e, ww⟩ := h
  injection e with e
  have el : ds.length = n := by rw [e, len_rng]
  refine ⟨W, by rw [el]; exact ww, fun i d hd => ?_⟩
  have hi : i < n := by rw [← el]; exact (List.getElem?_eq_some_iff.mp hd).1
  rw [e, at_rng hi] at hd
  rw [el]
  exact (Option.some.inj hd).symm
theorem row_len {n : Nat} {W : Nat → Nat → Int} {i : Nat} {rs : List PyData} (h : .tuple rs = rowD n W i) : rs.length = n := by
  unfold rowD at h
  injection h with h
  rw [h, len_rng]
theorem row_at {n : Nat} {W : Nat → Nat → Int} {i j : Nat} {rs : List PyData} {d : PyData} (h : .tuple rs = rowD n W i) (hd : rs[j]? = some d) : d = .int (W i j) := by
  unfold rowD at h
  injection h with h
  have hj : j < n := by have := (List.getElem?_eq_some_iff.mp hd).1; rw [h, len_rng] at this; exact this
  rw [h, at_rng hj] at hd
  exact (Option.some.inj hd).symm
/-- a row of a wrong length -/
theorem no_len {ds rs : List PyData} {i : Nat} (h : ds[i]? = some (.tuple rs)) (hl : rs.length ≠ ds.length) : ¬ IsWeb (.tuple ds) := fun hw => by
  obtain ⟨W, _, hr⟩ := web_inv hw
  exact hl (row_len (hr i _ h))
/-- a row that is no tuple -/
theorem no_row {ds : List PyData} {i : Nat} {d : PyData} (h : ds[i]? = some d) (hl : ∀ rs, d ≠ .tuple rs) : ¬ IsWeb (.tuple ds) := fun hw => by
  obtain ⟨W, _, hr⟩ := web_inv hw
  exact hl _ (hr i _ h)
/-- an entry that is no sign -/
theorem no_ent {ds rs : List PyData} {i j : Nat} {d : PyData} (h : ds[i]? = some (.tuple rs)) (hd : rs[j]? = some d) (hl : ∀ v, d = .int v → ¬ (-1 ≤ v ∧ v ≤ 1)) : ¬ IsWeb (.tuple ds) := fun hw => by
  obtain ⟨W, ww, hr⟩ := web_inv hw
  have e := hr i _ h
  have hi := (List.getElem?_eq_some_iff.mp h).1
  have hj : j < ds.length := by rw [← row_len e]; exact (List.getElem?_eq_some_iff.mp hd).1
  exact hl _ (row_at e hd) (by rcases ww.sgn i j hi hj with h | h | h <;> omega)
/-- two entries that differ -/
theorem no_sym {ds rs ss : List PyData} {i j : Nat} {a b : Int} (h : ds[i]? = some (.tuple rs)) (h' : ds[j]? = some (.tuple ss)) (ha : rs[j]? = some (.int a)) (hb : ss[i]? = some (.int b)) (hl : a ≠ b) : ¬ IsWeb (.tuple ds) := fun hw => by
  obtain ⟨W, ww, hr⟩ := web_inv hw
  have e := row_at (hr i _ h) ha
  have e' := row_at (hr j _ h') hb
  injection e with e
  injection e' with e'
  have := ww.sym i j (List.getElem?_eq_some_iff.mp h).1 (List.getElem?_eq_some_iff.mp h').1
  omega
theorem no_dia {ds rs : List PyData} {i : Nat} {a : Int} (h : ds[i]? = some (.tuple rs)) (ha : rs[i]? = some (.int a)) (hl : a ≠ 0) : ¬ IsWeb (.tuple ds) := fun hw => by
  obtain ⟨W, ww, hr⟩ := web_inv hw
  have e := row_at (hr i _ h) ha
  injection e with e
  exact hl (by rw [e]; exact ww.dia i (List.getElem?_eq_some_iff.mp h).1)
theorem no_tup {d : PyData} (h : ∀ ds, d ≠ .tuple ds) : ¬ IsWeb d := fun ⟨n, W, e, _⟩ => h _ e
theorem no_nil : ¬ IsWeb (.tuple []) := fun h => by
  obtain ⟨W, ww, _⟩ := web_inv h
  have := ww.lo
  simp at this
theorem no_big {ds : List PyData} (h : 10 < ds.length) : ¬ IsWeb (.tuple ds) := fun hw => by
  obtain ⟨W, ww, _⟩ := web_inv hw
  have := ww.hi
  omega
/-- what may not stand at (x, y) -/
def BadO (W : Nat → Nat → Int) (x y : Nat) (d : PyData) : Prop := ∀ v, d = .int v → -1 ≤ v ∧ v ≤ 1 → (x = y ∧ v ≠ 0) ∨ (x ≠ y ∧ v ≠ W x y)
theorem no_odd {n : Nat} {W : Nat → Nat → Int} {x y : Nat} {d : PyData} (ww : Web n W) (hx : x < n) (hy : y < n) (hd : BadO W x y d) : ¬ IsWeb (.tuple (((List.range n).map (rowD n W)).set x (.tuple ((rowsD n W x).set y d)))) := by
  have hrow : (((List.range n).map (rowD n W)).set x (.tuple ((rowsD n W x).set y d)))[x]? = some (.tuple ((rowsD n W x).set y d)) := by rw [List.getElem?_set_self (by rw [len_rng]; exact hx)]
  have hent : ((rowsD n W x).set y d)[y]? = some d := by rw [List.getElem?_set_self (by rw [rowsD, len_rng]; exact hy)]
  by_cases hv : ∃ v, d = .int v ∧ -1 ≤ v ∧ v ≤ 1
  · obtain ⟨v, rfl, h1⟩ := hv
    rcases hd v rfl h1 with ⟨e, h0⟩ | ⟨e, h0⟩
    · subst e
      exact no_dia hrow hent h0
    · have hrow' : (((List.range n).map (rowD n W)).set x (.tuple ((rowsD n W x).set y (.int v))))[y]? = some (.tuple (rowsD n W y)) := by
        rw [List.getElem?_set_ne e, at_rng hy]; rfl
      refine no_sym hrow hrow' hent (b := W y x) (by rw [rowsD, at_rng hx]) fun e2 => h0 (by rw [ww.sym x y hx hy]; exact e2)
  · exact no_ent hrow hent fun v e h => hv ⟨v, e, h⟩
end Sg
set_option maxRecDepth 100000
set_option maxHeartbeats 4000000
/-! G23: _law_bad_web. -/
namespace Dv
open PySem PySem.Spec L2
section
variable {K : PySem.W.Frag} {σ : St} {F H : Hp} {tt : TT} {ts tu : TS} {p : Addr} {D : Ends} {b : Bool}
/-- if, joined behind -/
theorem st_ifC (C : St → Hp → Hp → Prop) (z : Same F H) (h : EvT tt σ F H b) (h1 : b = true → ∀ F1 H1 N, Gr F H F1 H1 → (∀ σ2 F2 H2, C σ2 F2 H2 → N σ2 H2) → ts { D with nx := N } σ H1)
    (h2 : b = false → ∀ F1 H1 N, Gr F H F1 H1 → (∀ σ2 F2 H2, C σ2 F2 H2 → N σ2 H2) → tu { D with nx := N } σ H1) (k : ∀ σ2 F2 H2, C σ2 F2 H2 → D.nx σ2 H2) : tIfS tt ts tu D σ H :=
  st_if z h (fun e F1 H1 g => h1 e F1 H1 D.nx g k) fun e F1 H1 g => h2 e F1 H1 D.nx g k
theorem stw_ifC (C : St → Hp → Hp → Prop) (ws : WS p F H) (h : EvTW p tt σ F H) (h1 : ∀ F1 H1 N, GrW p F H F1 H1 → (∀ σ2 F2 H2, C σ2 F2 H2 → N σ2 H2) → ts { D with nx := N } σ H1)
    (h2 : ∀ F1 H1 N, GrW p F H F1 H1 → (∀ σ2 F2 H2, C σ2 F2 H2 → N σ2 H2) → tu { D with nx := N } σ H1) (k : ∀ σ2 F2 H2, C σ2 F2 H2 → D.nx σ2 H2) : tIfS tt ts tu D σ H :=
  stw_if ws h (fun F1 H1 g => h1 F1 H1 D.nx g k) fun F1 H1 g => h2 F1 H1 D.nx g k
end
end Dv
namespace Sg
open PySem PySem.Spec L2 Dv
section
variable {P : Program} {w : World} {K : PySem.W.Frag} {mg : Str → Option Value} {base : Heap} {SE IW IT NB TM fI : Addr} {fd : FuncData}
def R_bad_web : List PyData → PyData → Prop := fun _ d => ¬ IsWeb d
def zr : PyData := .tuple [.int 0]
def none1 (n : Nat) (W : Nat → Nat → Int) : List PyData := [.none, .int 3, .str "", .tuple [], .list ((List.range n).map (rowD n W)), .list ((List.range n).map fun x => .list (rowsD n W x)), .tuple [.tuple [.int 1]], .tuple [.tuple [.int 0], .tuple [.int 0]], .tuple [.tuple [.int 0, .int 1]], .tuple [.int 0, .int 0],
  .tuple ((List.range n).map (rowD n W) ++ [.tuple (List.replicate n (.int 0))])]
def none2 (n : Nat) (W : Nat → Nat → Int) : List PyData := [.tuple [.tuple [.int 0, .int 1], .tuple [.int (-1), .int 0]], .tuple [.tuple [.int 0, .int 1], .tuple [.int 0, .int 0]], .tuple (List.replicate 11 (.tuple (List.replicate 11 (.int 0)))), .tuple [.tuple [.bool false]],
  .tuple ((List.range n).map fun x => .tuple (rowsD n W x ++ [.int 0])), .tuple (((List.range n).map (rowD n W)).drop 1 ++ [.tuple (rowsD n W 0 ++ [.int 0])])]
theorem no_none1 {n : Nat} {W : Nat → Nat → Int} (ww : Web n W) : ∀ d ∈ none1 n W, ¬ IsWeb d := by
  intro d hd
  have h1 := ww.lo
  simp only [none1, List.mem_cons, List.not_mem_nil, or_false] at hd
  rcases hd with rfl | rfl | rfl | rfl | rfl | rfl | rfl | rfl | rfl | rfl | rfl
  · exact no_tup fun ds e => by cases e
  · exact no_tup fun ds e => by cases e
  · exact no_tup fun ds e => by cases e
  · exact no_nil
  · exact no_tup fun ds e => by cases e
  · exact no_tup fun ds e => by cases e
  · exact no_dia (i := 0) (a := 1) (rs := [.int 1]) rfl rfl (by decide)
  · exact no_len (i := 0) (rs := [.int 0]) rfl (by simp)
  · exact no_len (i := 0) (rs := [.int 0, .int 1]) rfl (by simp)
  · exact no_row (i := 0) (d := .int 0) rfl fun rs e => by cases e
  · exact no_len (i := 0) (rs := rowsD n W 0) (by rw [List.getElem?_append_left (by rw [len_rng]; omega), at_rng (by omega)]; rfl) (by rw [List.length_append, len_rng, rowsD, len_rng, List.length_singleton]; omega)
theorem no_none2 {n : Nat} {W : Nat → Nat → Int} (ww : Web n W) : ∀ d ∈ none2 n W, ¬ IsWeb d := by
  intro d hd
  have h1 := ww.lo
  simp only [none2, List.mem_cons, List.not_mem_nil, or_false] at hd
  rcases hd with rfl | rfl | rfl | rfl | rfl | rfl
  · exact no_sym (i := 0) (j := 1) (a := 1) (b := -1) (rs := [.int 0, .int 1]) (ss := [.int (-1), .int 0]) rfl rfl rfl rfl (by decide)
  · exact no_sym (i := 0) (j := 1) (a := 1) (b := 0) (rs := [.int 0, .int 1]) (ss := [.int 0, .int 0]) rfl rfl rfl rfl (by decide)
  · exact no_big (by rw [List.length_replicate]; omega)
  · exact no_ent (i := 0) (j := 0) (d := .bool false) (rs := [.bool false]) rfl rfl fun v e => by cases e
  · exact no_len (i := 0) (rs := rowsD n W 0 ++ [.int 0]) (at_rng (by omega)) (by rw [len_rng, List.length_append, rowsD, len_rng, List.length_singleton]; omega)
  · exact no_len (i := n - 1) (rs := rowsD n W 0 ++ [.int 0]) (by rw [List.getElem?_append_right (by rw [List.length_drop, len_rng]; omega), List.length_drop, len_rng]; simp) (by simp only [List.length_append, List.length_drop, len_rng, rowsD, List.length_cons, List.length_nil]; omega)
def odds0 : List PyData := [.int 2, .int (-2), .none, .str "+", .bool true, .bool false, .tuple [.int 0], .list [.int 0], .int (10 ^ (30 : Int).toNat)]
theorem odds_bad : ∀ d ∈ odds0, ∀ v, d = .int v → ¬ (-1 ≤ v ∧ v ≤ 1) := by
  intro d hd v e
  have big : ((10 : Int) ^ (30 : Int).toNat) > 1000 := by decide
  simp only [odds0, List.mem_cons, List.not_mem_nil, or_false] at hd
  rcases hd with rfl | rfl | rfl | rfl | rfl | rfl | rfl | rfl | rfl <;> first | (cases e; done) | (injection e with e; omega)
theorem eva_none1 {σ : L2.St} {F H : Hp} {n : Nat} {W : Nat → Nat → Int} {v : V} : True := trivial
theorem sc_law_bad_web : FnScope ["_law_well_here", "_law_web_here", "_law_many_here", "_law_none", "_law_x", "_law_y", "_law_odds", "_law_line", "_law_odd", "_law_lines", "_law_other", "_law_one"] ["_law_well_here", "_law_web_here"] (defScope (topS 61)) := ⟨rfl, rfl, rfl, by decide +kernel, rfl, by decide +kernel, by decide +kernel⟩
theorem c__law_bad_web (T : Txt K mg) : Cal P w K mg base CX0 2 "_law_bad_web" ["_law_well_here", "_law_web_here"] (spW K PreW R_bad_web) := by
  have c__law_dip := c__law_dip (P := P) (w := w) (base := base) T
  refine T.d_law_bad_web.cal sc_law_bad_web (spW_len (ps := ["_law_web_here"]) fun ds ⟨n, W, e, _⟩ => by rw [e]; rfl) (fun f cdv A outer s H vs Q E hr ⟨F, p, us, ds, ws, e, ha, pre, q⟩ => ?_)
  have nd := sc_law_bad_web.nd
  obtain ⟨n, W, rfl, ww⟩ := pre
  have hn := ww.hi
  have hn1 := ww.lo
  obtain ⟨v2, rfl, h2⟩ := DpAll.one_inv ha
  subst e
  refine ⟨_, (pss_cons (ps_set (i := 2) nd rfl (Or.inl rfl) (q_len K T.len_n (pv 1)))
      (pss_cons (ps_set (i := 3) nd rfl (Or.inl rfl) (pe_lst (pa_cons pe_non (pa_cons pe_int (pa_cons pe_str (pa_cons (pe_tup pa_nil) (pa_cons (q_list K T.list_n (pv 1)) (pa_cons (pe_lc (own := [("_law_line", 7)]) rfl nd (kTup K (pv 1)) (blkOk_by (by kernel_rfl)) (fun _ _ _ _ _ => (pg_name (i := 7) nd rfl (Or.inl rfl))) (fun _ _ _ _ _ => pts_nil) (fun _ _ _ _ _ => (q_list K T.list_n (pv 7)))) (pa_cons (pe_tup (pa_cons (pe_tup (pa_cons pe_int pa_nil)) pa_nil)) (pa_cons (pe_tup (pa_cons (pe_tup (pa_cons pe_int pa_nil)) (pa_cons (pe_tup (pa_cons pe_int pa_nil)) pa_nil))) (pa_cons (pe_tup (pa_cons (pe_tup (pa_cons pe_int (pa_cons pe_int pa_nil))) pa_nil)) (pa_cons (pe_tup (pa_cons pe_int (pa_cons pe_int pa_nil))) (pa_cons (pe_op (kCatA K) (pv 1) (pe_tup (pa_cons (pe_op (kRepA K) (pe_tup (pa_cons pe_int pa_nil)) (pv 2)) pa_nil))) pa_nil)))))))))))))
      (pss_cons (ps_set (i := 3) nd rfl (Or.inl rfl) (pe_op op_cat (pv 3) (pe_lst (pa_cons (pe_tup (pa_cons (pe_tup (pa_cons pe_int (pa_cons pe_int pa_nil))) (pa_cons (pe_tup (pa_cons (pe_un un_neg pe_int) (pa_cons pe_int pa_nil))) pa_nil))) (pa_cons (pe_tup (pa_cons (pe_tup (pa_cons pe_int (pa_cons pe_int pa_nil))) (pa_cons (pe_tup (pa_cons pe_int (pa_cons pe_int pa_nil))) pa_nil))) (pa_cons (pe_op (kRepA K) (pe_tup (pa_cons (pe_op (kRepA K) (pe_tup (pa_cons pe_int pa_nil)) pe_int) pa_nil)) pe_int) (pa_cons (pe_tup (pa_cons (pe_tup (pa_cons pe_bl pa_nil)) pa_nil)) (pa_cons (q_tuple K T.tuple_n (pe_lc (own := [("_law_line", 7)]) rfl nd (kTup K (pv 1)) (blkOk_by (by kernel_rfl)) (fun _ _ _ _ _ => (pg_name (i := 7) nd rfl (Or.inl rfl))) (fun _ _ _ _ _ => pts_nil) (fun _ _ _ _ _ => (pe_op (kCatA K) (pv 7) (pe_tup (pa_cons pe_int pa_nil)))))) (pa_cons (pe_op (kCatA K) (pe_slice (kSlT K) (pv 1) (po_some pe_int) po_none) (pe_tup (pa_cons (pe_op (kCatA K) (pe_ix (kIxT K) (pv 1) pe_int (fun _ _ => rfl)) (pe_tup (pa_cons pe_int pa_nil))) pa_nil))) pa_nil)))))))))
      (pss_cons (ps_if (pt_cmpR op_eq (pe_cal c__law_dip hr (by decide) pass0 (pa_cons (pv 0) (pa_cons pe_int pa_nil))) pe_int (nomark _)) (pss_one (ps_ret (pe_ix (kIxL K) (pv 3) (pe_cal c__law_dip hr (by decide) pass0 (pa_cons (pv 0) (pa_cons (q_len K T.len_n (pv 3)) pa_nil))) (fun _ _ => rfl)))) pss_nil)
      (pss_cons (ps_set (i := 4) nd rfl (Or.inr rfl) (pe_cal c__law_dip hr (by decide) pass0 (pa_cons (pv 0) (pa_cons (pv 2) pa_nil))))
      (pss_cons (ps_set (i := 5) nd rfl (Or.inr rfl) (pe_cal c__law_dip hr (by decide) pass0 (pa_cons (pv 0) (pa_cons (pv 2) pa_nil))))
      (pss_cons (ps_set (i := 6) nd rfl (Or.inl rfl) (pe_lst (pa_cons pe_int (pa_cons (pe_un un_neg pe_int) (pa_cons pe_non (pa_cons pe_str (pa_cons pe_bl (pa_cons pe_bl (pa_cons (pe_tup (pa_cons pe_int pa_nil)) (pa_cons (pe_lst (pa_cons pe_int pa_nil)) (pa_cons (pe_op op_pow pe_int pe_int) pa_nil)))))))))))
      (pss_cons (ps_if (pt_cmpR op_eq (pv 4) (pv 5) (nomark _)) (pss_one (ps_set (i := 6) nd rfl (Or.inl rfl) (pe_op op_cat (pv 6) (pe_lst (pa_cons pe_int (pa_cons (pe_un un_neg pe_int) pa_nil)))))) (pss_one (ps_set (i := 6) nd rfl (Or.inl rfl) (pe_op op_cat (pv 6) (pe_lc (own := [("_law_one", 11)]) rfl nd (kLst K (pe_lst (pa_cons pe_int (pa_cons pe_int (pa_cons (pe_un un_neg pe_int) pa_nil))))) (blkOk_by (by kernel_rfl)) (fun _ _ _ _ _ => (pg_name (i := 11) nd rfl (Or.inl rfl))) (fun _ _ _ _ _ => (pts_one (pt_cmpR op_ne (pv 11) (pe_ix (kIxT K) (pe_ix (kIxT K) (pv 1) (pv 4) (fun _ _ => rfl)) (pv 5) (fun _ _ => rfl)) (nomark _)))) (fun _ _ _ _ _ => (pv 11)))))))
      (pss_cons (ps_set (i := 7) nd rfl (Or.inl rfl) (pe_op (kCatA K) (pe_op (kCatA K) (pe_slice (kSlT K) (pe_ix (kIxT K) (pv 1) (pv 4) (fun _ _ => rfl)) po_none (po_some (pv 5))) (pe_tup (pa_cons (pe_ix (kIxL K) (pv 6) (pe_cal c__law_dip hr (by decide) pass0 (pa_cons (pv 0) (pa_cons (q_len K T.len_n (pv 6)) pa_nil))) (fun _ _ => rfl)) pa_nil))) (pe_slice (kSlT K) (pe_ix (kIxT K) (pv 1) (pv 4) (fun _ _ => rfl)) (po_some (pe_op op_add (pv 5) pe_int)) po_none)))
      (pss_cons (ps_if (pt_cmpR op_eq (pe_cal c__law_dip hr (by decide) pass0 (pa_cons (pv 0) (pa_cons pe_int pa_nil))) pe_int (nomark _)) (pss_one (ps_set (i := 7) nd rfl (Or.inl rfl) (q_list K T.list_n (pe_ix (kIxT K) (pv 1) (pv 4) (fun _ _ => rfl))))) pss_nil)
      (pss_cons (ps_if (pt_cmpR op_eq (pe_cal c__law_dip hr (by decide) pass0 (pa_cons (pv 0) (pa_cons pe_int pa_nil))) pe_int (nomark _)) (pss_cons (ps_set (i := 8) nd rfl (Or.inl rfl) (pe_ix (kIxL K) (pv 6) (pe_cal c__law_dip hr (by decide) pass0 (pa_cons (pv 0) (pa_cons pe_int pa_nil))) (fun _ _ => rfl)))
        (pss_cons (ps_setLc (i := 9) (own := [("_law_one", 11)]) rfl nd rfl rfl (sw_true rfl rfl rfl (by decide +kernel)) (kTup K (pv 1)) (blkOk_by (by kernel_rfl)) (fun _ _ _ _ _ => (pg_name (i := 11) nd rfl (Or.inl rfl))) (fun _ _ _ _ _ => pts_nil) (fun _ _ _ _ _ => (q_list K T.list_n (pv 11))))
        (pss_cons (ps_set (i := 7) nd rfl (Or.inl rfl) (pe_ix (kIxL K) (pv 9) (pv 4) (fun _ _ => rfl)))
        (pss_cons (ps_asg (pv 8) (pg_sub (pv 7) (pv 5) set_list))
        (pss_cons (ps_set (i := 10) nd rfl (Or.inl rfl) (pe_ix (kIxL K) (pv 9) (pv 5) (fun _ _ => rfl)))
        (pss_cons (ps_asg (pv 8) (pg_sub (pv 10) (pv 4) set_list))
        (pss_one (ps_ret (q_tuple K T.tuple_n (pe_lc (own := [("_law_one", 11)]) rfl nd (kLst K (pv 9)) (blkOk_by (by kernel_rfl)) (fun _ _ _ _ _ => (pg_name (i := 11) nd rfl (Or.inl rfl))) (fun _ _ _ _ _ => pts_nil) (fun _ _ _ _ _ => (q_tuple K T.tuple_n (pv 11))))))))))))) pss_nil)
      (pss_one (ps_ret (pe_op (kCatA K) (pe_op (kCatA K) (pe_slice (kSlT K) (pv 1) po_none (po_some (pv 4))) (pe_tup (pa_cons (pv 7) pa_nil))) (pe_slice (kSlT K) (pv 1) (po_some (pe_op op_add (pv 4) pe_int)) po_none))))))))))))))), ?_⟩
  refine st_seq (st_asg ws.z (evd_lenR (K := K) (evd_var rfl h2)) fun v F1 H1 g1 p1 => ?_)
  obtain rfl := p1.int_inv
  have hz1 : matD n W = .tuple ((List.range n).map (rowD n W)) := rfl
  dsimp only
  have hv1 := h2.up g1.f
  have one0 : ∀ {σ : L2.St} {F H : Hp}, EvD K (tTup (tCons (tC (.int 0)) tNil)) σ F H zr := evd_tup (eva_one evd_i) (by simp)
  refine st_seq (st_asg g1.fh (evp_lstP (K := K) (ds := none1 n W)
    (eva_cons evd_n (eva_cons evd_i (eva_cons (evd_c (.str _)) (eva_cons (evd_tup eva_nil (by simp)) (eva_cons (evd_lstT (evd_var rfl hv1)) (eva_cons (evd_lcD0 (g := fun x => rowD n W x) (n := n) (fun x => .list (rowsD n W x)) (iwd_tupR (evd_var rfl hv1)) (by omega) fun k v F5 H5 hk f5 hh5 z5 hv => evd_lstT (ds := rowsD n W k) (evd_var rfl hv)) (eva_cons (evd_tup (eva_one (evd_tup (eva_one evd_i) (by simp))) (by simp))
      (eva_cons (evd_tup (eva_cons one0 (eva_one one0)) (by simp)) (eva_cons (evd_tup (eva_one (evd_tup (eva_cons evd_i (eva_one evd_i)) (by simp))) (by simp)) (eva_cons (evd_tup (eva_cons evd_i (eva_one evd_i)) (by simp))
        (eva_one (evd_catT (evd_var rfl hv1) (evd_tup (eva_one (evd_rep (n := n) one0 (evd_vari rfl) hn1 (by omega))) (by simp)) (by rw [len_rng]; simp; omega)))))))))))))
    (by simp [none1])) fun vf F2 H2 g2 ⟨p2, d2⟩ => ?_)
  dsimp only
  have gA := g1.trans g2
  have hv2 := h2.up gA.f
  have pl2 : (none1 n W).length = 11 := rfl
  refine st_seq (st_asg g2.fh (evp_cat (K := K) (ds := none1 n W) (es := none2 n W) (evp_var rfl fun F5 H5 f5 hh5 z5 => ?_) (EvP.imp (evp_lst (K := K) (ds := none2 n W) ?_ (by simp [none2])) fun v F5 H5 h => h.pln) (by simp [none1, none2])) fun vg F3 H3 g3 ⟨p3, d3⟩ => ?_)
  · obtain ⟨a, xs, e, b, c⟩ := p2
    exact ⟨a, xs, e, hh5 _ _ b, c.up f5⟩
  · refine eva_cons (evd_tup (eva_cons (evd_tup (eva_cons evd_i (eva_one evd_i)) (by simp)) (eva_one (evd_tup (eva_cons (evd_unI (g := fun a => -a) evd_i) (eva_one evd_i)) (by simp)))) (by simp)) (eva_cons (evd_tup (eva_cons (evd_tup (eva_cons evd_i (eva_one evd_i)) (by simp)) (eva_one (evd_tup (eva_cons evd_i (eva_one evd_i)) (by simp)))) (by simp))
      (eva_cons (evd_rep (n := 11) (evd_tup (eva_one (evd_rep (n := 11) one0 evd_i (by decide) (by decide))) (by simp)) evd_i (by decide) (by decide)) (eva_cons (evd_tup (eva_one (evd_tup (eva_one evd_b) (by simp))) (by simp)) (eva_cons ?_ (eva_one ?_)))))
    · exact evd_tupL (evd_lcD0 (g := fun x => rowD n W x) (n := n) (fun x => .tuple (rowsD n W x ++ [.int 0])) (iwd_tupR (evd_var rfl hv2)) (by omega) fun k v F5 H5 hk f5 hh5 z5 hv => evd_catT (ds := rowsD n W k) (es := [.int 0]) (evd_var rfl hv) one0 (by rw [rowsD, len_rng]; simp; omega))
    · refine evd_catT (evd_eq (evd_slT (lo := some ((1 : Nat) : Int)) (hi := none) (evd_var rfl hv2) (evo_some (K := K) evd_i) evo_none) (congrArg PyData.tuple (cut_drop (k := 1) (by rw [len_rng]; omega)))) (evd_tup (eva_one (evd_catT (ds := rowsD n W 0) (es := [.int 0]) (evd_ixT (n := 0) (evd_var rfl hv2) evd_i (at_rng (by omega))) one0 (by rw [rowsD, len_rng]; simp; omega))) (by simp)) (by rw [List.length_drop, len_rng]; simp; omega)
  · have gB := gA.trans g3
    have ws3 := ws.up (.of ws gB)
    have gW := GrW.of ws gB
    have hv3 := hv2.up g3.f
    dsimp only
    have noN : ∀ d ∈ none1 n W ++ none2 n W, ¬ IsWeb d := fun d hd => by
      rcases List.mem_append.mp hd with h | h
      · exact no_none1 ww d h
      · exact no_none2 ww d h
    have lenN : (none1 n W ++ none2 n W).length = 17 := rfl
    generalize none1 n W ++ none2 n W = nones at p3 d3 noN lenN
    have tdip : ∀ {m : Int} {σ : L2.St} {F H : Hp}, σ[0]? = some (some (.ref p)) → 0 < m → m < 1000 → EvTW p (tTest (tOp rEq (tCall (spW K Pre_dip R_dip) [] E0 (tCons (tVar 0) (tCons (tC (.int m)) tNil))) (tC (.int 0)))) σ F H := fun hσ h0 h1 => evtw_test (evw_eqI (K := K) (evw_dip hσ (evw_i rfl) h0 h1) (evw_i (A := fun _ => True) trivial))
    refine st_seq (stw_if ws3 (tdip rfl (by decide) (by decide)) (fun F4 H4 g4 => ?_) fun F4 H4 g4 => ?_)
    · refine stw_ret (ws3.up g4) (evw_pick (K := K) (n := 0) (k := 3) rfl rfl (d3.up g4.f) (by omega) (by omega)) fun v F5 H5 g5 ⟨d, hm, p5⟩ => ?_
      exact q v F5 H5 d (noN d hm) (gW.trans (g4.trans g5)) p5
    have ws4 := ws3.up g4
    have gW4 := gW.trans g4
    have hv4 := hv3.up g4.f
    refine st_seq (stw_asg ws4 (evw_dip (K := K) (m := (n : Nat)) rfl (evw_vari rfl rfl) (by omega) (by omega)) fun v F5 H5 g5 ⟨d, ⟨x', ed, hx0, hx1⟩, p5⟩ => ?_)
    subst ed
    obtain rfl := p5.int_inv
    obtain ⟨x, rfl⟩ : ∃ x : Nat, x' = x := ⟨x'.toNat, by omega⟩
    have hx : x < n := by omega
    have ws5 := ws4.up g5
    have gW5 := gW4.trans g5
    have hv5 := hv4.up g5.f
    dsimp only
    refine st_seq (stw_asg ws5 (evw_dip (K := K) (m := (n : Nat)) rfl (evw_vari rfl rfl) (by omega) (by omega)) fun v F6 H6 g6 ⟨d, ⟨y', ed, hy0, hy1⟩, p6⟩ => ?_)
    subst ed
    obtain rfl := p6.int_inv
    obtain ⟨y, rfl⟩ : ∃ y : Nat, y' = y := ⟨y'.toNat, by omega⟩
    have hy : y < n := by omega
    have ws6 := ws5.up g6
    have gW6 := gW5.trans g6
    have hv6 := hv5.up g6.f
    dsimp only
    refine st_seq (st_asg ws6.z (evp_lstP (K := K) (ds := odds0) (eva_cons evd_i (eva_cons (evd_unI (g := fun a => -a) evd_i) (eva_cons evd_n (eva_cons (evd_c (.str _)) (eva_cons evd_b (eva_cons evd_b (eva_cons one0 (eva_cons (evd_lst (eva_one evd_i) (by simp)) (eva_one (evd_opC (C := CPow) (g := fun a b => a ^ b.toNat) evd_i evd_i (by unfold CPow; decide)))))))))))
      (by simp [odds0])) fun vo F7 H7 g7 ⟨p7, d7⟩ => ?_)
    have ws7 := ws6.up (.of ws6 g7)
    have gW7 := gW6.trans (.of ws6 g7)
    have hv7 := hv6.up g7.f
    dsimp only
    have ext : ∀ {es : List PyData} {te : TE} {F8 H8 : Hp} {N : L2.St → Hp → Prop} {D : Ends}, Gr F7 H7 F8 H8 → EvP te [some (.ref p), some v2, some (.int (n : Nat)), some vg, some (.int (x : Nat)), some (.int (y : Nat)), some vo, none, none, none, none, none] F8 H8 (PlnL K es) → es.length ≤ 3 → (∀ d ∈ es, BadO W x y d) →
        (∀ σ2 F2 H2, (∃ vo es, σ2 = [some (.ref p), some v2, some (.int (n : Nat)), some vg, some (.int (x : Nat)), some (.int (y : Nat)), some vo, none, none, none, none, none] ∧ Gr F7 H7 F2 H2 ∧ Dp K F2 vo (.list (odds0 ++ es)) ∧ es.length ≤ 3 ∧ ∀ d ∈ es, BadO W x y d) → N σ2 H2) →
        tAsg (tOp rCat (tVar 6) te) (gName 6) { D with nx := N } [some (.ref p), some v2, some (.int (n : Nat)), some vg, some (.int (x : Nat)), some (.int (y : Nat)), some vo, none, none, none, none, none] H8 := fun {es te F8 H8 N D} g8 he hl hb hN => by
      refine st_asg g8.fh (evp_cat (K := K) (ds := odds0) (es := es) (evp_var rfl fun F9 H9 f9 hh9 z9 => ?_) he (by simp [odds0]; omega)) fun v F9 H9 g9 ⟨p9, d9⟩ => ?_
      · obtain ⟨a, xs, e, b, c⟩ := p7.up g8
        exact ⟨a, xs, e, hh9 _ _ b, c.up f9⟩
      · exact hN _ F9 H9 ⟨v, es, rfl, g8.trans g9, d9, hl, hb⟩
    refine st_seq (st_ifC (fun σ2 F2 H2 => ∃ vo es, σ2 = [some (.ref p), some v2, some (.int (n : Nat)), some vg, some (.int (x : Nat)), some (.int (y : Nat)), some vo, none, none, none, none, none] ∧ Gr F7 H7 F2 H2 ∧ Dp K F2 vo (.list (odds0 ++ es)) ∧ es.length ≤ 3 ∧ ∀ d ∈ es, BadO W x y d) ws7.z (b := decide (x = y)) (evt_eq (evt_test (evd_eqI (K := K) (evd_vari (i := (x : Nat)) rfl) (evd_vari (i := (y : Nat)) rfl))) (by rw [decide_eq_decide]; omega)) (fun hb F8 H8 N g8 hN => ?_) (fun hb F8 H8 N g8 hN => ?_) ?_)
    · have hxy := of_decide_eq_true hb
      refine ext (es := [.int 1, .int (-1)]) g8 (EvP.imp (evp_lst (eva_cons evd_i (eva_one (evd_unI (g := fun a => -a) evd_i))) (by simp)) fun v F5 H5 h => h.pln) (by simp) (fun d hd v e _ => ?_) hN
      simp only [List.mem_cons, List.not_mem_nil, or_false] at hd
      rcases hd with rfl | rfl <;> (injection e with e; exact .inl ⟨hxy, by omega⟩)
    · have hxy := of_decide_eq_false hb
      have hpk := picks_len 3 (fun k => !decide ((([0, 1, -1] : List Int).getD k 0) = W x y)) fun k => .int ((([0, 1, -1] : List Int).getD k 0))
      refine ext (es := picks 3 (fun k => !decide ((([0, 1, -1] : List Int).getD k 0) = W x y)) fun k => .int ((([0, 1, -1] : List Int).getD k 0))) g8 (EvP.imp (evp_lcIO (K := K) (s := 11) (vs := [11]) (g := fun k => ([0, 1, -1] : List Int).getD k 0) _ _ (iwd_intsL (ns := [0, 1, -1]) (evd_lst (eva_cons evd_i (eva_cons evd_i (eva_one (evd_unI (g := fun a => -a) evd_i)))) (by simp))) (by simp) (fun k F9 H9 hk f9 hh9 z9 => evt_test (evd_neI (evd_vari rfl) (evd_cell (evd_var rfl ((hv7.up g8.f).up f9)) (evd_vari rfl) (evd_vari rfl) hx hy))) fun k F9 H9 hk _ f9 hh9 z9 => evd_vari rfl) fun v F5 H5 h => h.pln) hpk (fun d hd v e _ => ?_) hN
      unfold picks at hd
      obtain ⟨k, hk, rfl⟩ := List.mem_map.mp hd
      injection e with e
      have := (List.mem_filter.mp hk).2
      simp only [Bool.not_eq_true', decide_eq_false_iff_not] at this
      exact .inr ⟨hxy, by rw [← e]; exact this⟩
    rintro σ2 F8 H8 ⟨vo, es, rfl, g8, d8, hel, hbad⟩
    have ws8 := ws7.up (.of ws7 g8)
    have gW8 := gW7.trans (.of ws7 g8)
    have hv8 := hv7.up g8.f
    have hole : (odds0 ++ es).length = 9 + es.length := by rw [List.length_append]; rfl
    have hbadO : ∀ d ∈ odds0 ++ es, BadO W x y d := fun d hd => by
      rcases List.mem_append.mp hd with h | h
      · exact fun v e h2 => (odds_bad d h v e h2).elim
      · exact hbad d h
    have odd9 : ∀ r d, r < 9 → (odds0 ++ es)[r]? = some d → ∀ v, d = .int v → ¬ (-1 ≤ v ∧ v ≤ 1) := fun r d hr hd => by
      rw [List.getElem?_append_left (show r < odds0.length from hr)] at hd
      exact odds_bad d (List.mem_of_getElem? hd)
    generalize odds0 ++ es = odds at d8 hole hbadO odd9
    have rowx : ∀ {F9 H9 : Hp} {σ : L2.St}, Same F8 F9 → σ[1]? = some (some v2) → σ[4]? = some (some (.int (x : Nat))) → EvD K (tOp (rIxT K) (tVar 1) (tVar 4)) σ F9 H9 (.tuple (rowsD n W x)) := fun f e1 e4 => evd_ixT (n := x) (evd_var e1 (hv8.up f)) (evd_vari e4) (at_rng hx)
    have lrow : (rowsD n W x).length = n := by rw [rowsD, len_rng]
    refine st_seq (stw_asg ws8 (evw_op (K := K) (B1 := fun d => ∃ o ∈ odds, d = .tuple ((rowsD n W x).take y ++ [o])) (B2 := fun d => d = .tuple ((rowsD n W x).drop (y + 1))) (B3 := fun d => ∃ o ∈ odds, d = .tuple ((rowsD n W x).set y o))
      (evw_op (B1 := fun d => d = .tuple ((rowsD n W x).take y)) (B2 := fun d => ∃ o ∈ odds, d = .tuple [o]) (evw_d rfl fun F9 H9 g9 => evd_eq (evd_slT (rowx g9.f rfl rfl) evo_none (evo_some (K := K) (evd_vari (i := (y : Nat)) rfl))) (congrArg PyData.tuple (cut_take (by omega))))
        (evw_bind (B := fun d => d ∈ odds) (fun v => tTup (tCons (tC v) tNil)) (fun H Q => rfl) (evw_pick (n := 0) (k := 6) rfl rfl d8 (by omega) (by omega)) (fun v d F9 H9 f9 bd pd => EvP.imp (evd_tup (eva_one (evd_c pd)) (by simp)) fun v F10 H10 p10 => ⟨_, ⟨d, bd, rfl⟩, p10⟩))
        (fun d e u v F9 H9 f9 ed ⟨o, ho, ee⟩ hu hv => ⟨_, ⟨o, ho, rfl⟩, evd_catT (evd_c (ed ▸ hu)) (evd_c (ee ▸ hv)) (by rw [List.length_take]; simp; omega)⟩))
      (evw_d rfl fun F9 H9 g9 => evd_eq (evd_slT (rowx g9.f rfl rfl) (evo_some (K := K) (evd_eq (evd_opI (g := fun a b => a + b) (evd_vari (i := (y : Nat)) rfl) evd_i) (e := .int ((y + 1 : Nat) : Int)) rfl)) evo_none) (congrArg PyData.tuple (cut_drop (by omega))))
      (fun d e u v F9 H9 f9 ⟨o, ho, ed⟩ ee hu hv => ⟨_, ⟨o, ho, rfl⟩, evd_eq (evd_catT (evd_c (ed ▸ hu)) (evd_c (ee ▸ hv)) (by rw [List.length_append, List.length_take, List.length_drop]; simp; omega)) (by rw [List.set_eq_take_append_cons_drop, if_pos (by omega), List.append_assoc]; rfl)⟩)) fun vl F9 H9 g9 ⟨dl, ⟨o, ho, ed⟩, p9⟩ => ?_)
    subst ed
    have ws9 := ws8.up g9
    have gW9 := gW8.trans g9
    have hv9 := hv8.up g9.f
    dsimp only
    refine st_seq (stw_ifC (fun σ2 F2 H2 => ∃ vl dl, σ2 = [some (.ref p), some v2, some (.int (n : Nat)), some vg, some (.int (x : Nat)), some (.int (y : Nat)), some vo, some vl, none, none, none, none] ∧ GrW p F9 H9 F2 H2 ∧ Dp K F2 vl dl ∧ (dl = .tuple ((rowsD n W x).set y o) ∨ ∃ l, dl = .list l)) ws9 (tdip rfl (by decide) (by decide)) (fun F10 H10 N g10 hN => ?_) (fun F10 H10 N g10 hN => ?_) ?_)
    · have ws10 := ws9.up g10
      refine st_asg ws10.z (evd_lstT (rowx (g9.f.trans g10.f) rfl rfl)) fun v F11 H11 g11 p11 => ?_
      exact hN _ F11 H11 ⟨v, _, rfl, g10.trans (.of ws10 g11), p11, .inr ⟨_, rfl⟩⟩
    · exact hN _ F10 H10 ⟨vl, _, rfl, g10, p9.up g10.f, .inl rfl⟩
    rintro σ2 F10 H10 ⟨vl, dl, rfl, g10, p10, hdl⟩
    have ws10 := ws9.up g10
    have gW10 := gW9.trans g10
    have hv10 := hv9.up g10.f
    have f810 := g9.f.trans g10.f
    have d10 := d8.up f810
    refine st_seq (stw_if ws10 (tdip rfl (by decide) (by decide)) (fun F11 H11 g11 => ?_) fun F11 H11 g11 => ?_)
    · have ws11 := ws10.up g11
      have gW11 := gW10.trans g11
      refine st_seq (stw_asg ws11 (evw_pickI (K := K) (n := 0) (k := 6) (m := 9) rfl (fun F12 H12 g12 => evd_var rfl ((d10.up g11.f).up g12.f)) (evw_i rfl) (by decide) (by decide) (by omega)) fun vod F12 H12 g12 ⟨od, ⟨r, hr9, hrd⟩, p12⟩ => ?_)
      have ws12 := ws11.up g12
      have gW12 := gW11.trans g12
      have hv12 := (hv10.up g11.f).up g12.f
      have hod := odd9 r od hr9 hrd
      dsimp only
      refine st_seq (st_asg ws12.z (evp_lcNewD (K := K) (n := n) (s := 11) (vs := [11]) (item := fun k => rowD n W k) (rows := rowsD n W) (iwd_tupR (evd_var rfl hv12)) (by omega) fun k u F13 H13 hk f13 hh13 z13 hu => evp_newT (ds := rowsD n W k) (evd_var rfl hu)) fun v F13 H13 g13 ⟨A0, qs, ev, hM⟩ => ?_)
      subst ev
      have ws13 := ws12.up (.of ws12 g13)
      have gW13 := gW12.trans (.of ws12 g13)
      have pod := p12.up g13.f
      have neP : ∀ {u : Addr}, H12 u = none → u ≠ p := fun h => GrW.ne ws12.wl h
      have hA0 : A0 ≠ p := neP hM.nw
      have hqp : ∀ k, k < n → qs k ≠ p := fun k hk => neP (hM.row k hk).nw
      have nH : ∀ u, u ≠ p → H12 u = none → H u = none := fun u hu h => by
        cases e : H u with
        | none => rfl
        | some o => rw [gW12.h u o hu e] at h; cases h
      dsimp only
      refine st_seq (st_asg ws13.z (evp_ixO (K := K) hM.at_ (evv_var rfl) (evd_vari (i := (x : Nat)) rfl) (atI_nat (at_rng hx))) fun v F14 H14 g14 ev => ?_)
      subst ev
      have hM14 := hM.up g14
      have ws14 := ws13.up (.of ws13 g14)
      have gW14 := gW13.trans (.of ws13 g14)
      have pod14 := pod.up g14.f
      dsimp only
      refine st_seq (st_setO (K := K) (i := y) (d := od) (hM14.row x hx) ws14.z (evd_var rfl pod14) rfl (fun _ _ _ => evd_vari rfl) (by omega) fun xs F15 H15 g15 ho15 => ?_)
      have hM15 := (hM14.up g15).put hx ho15
      have ws15 := (ws14.up (.of ws14 g15)).mut (o := .lst xs) ho15.out (hqp x hx)
      have gW15 := (gW14.trans (.of ws14 g15)).mut (o := .lst xs) (nH _ (hqp x hx) (hM.row x hx).nw) ho15.out (hqp x hx)
      have pod15 := pod14.up g15.f
      dsimp only
      refine st_seq (st_asg ws15.z (evp_ixO (K := K) hM15.at_ (evv_var rfl) (evd_vari (i := (y : Nat)) rfl) (atI_nat (at_rng hy))) fun v F16 H16 g16 ev => ?_)
      subst ev
      have hM16 := hM15.up g16
      have ws16 := ws15.up (.of ws15 g16)
      have gW16 := gW15.trans (.of ws15 g16)
      have pod16 := pod15.up g16.f
      have lr1 : ∀ k, k < n → (put (rowsD n W) x ((rowsD n W x).set y od) k).length = n := fun k _ => by
        by_cases e : k = x
        · subst e; rw [put_same, List.length_set, lrow]
        · rw [put_ne e, rowsD, len_rng]
      dsimp only
      refine st_seq (st_setO (K := K) (i := x) (d := od) (hM16.row y hy) ws16.z (evd_var rfl pod16) rfl (fun _ _ _ => evd_vari rfl) (by rw [lr1 y hy]; exact hx) fun ys F17 H17 g17 ho17 => ?_)
      have hM17 := (hM16.up g17).put hy ho17
      have ws17 := (ws16.up (.of ws16 g17)).mut (o := .lst ys) ho17.out (hqp y hy)
      have gW17 := (gW16.trans (.of ws16 g17)).mut (o := .lst ys) (nH _ (hqp y hy) (hM.row y hy).nw) ho17.out (hqp y hy)
      obtain ⟨F18, f18, gw, hd⟩ := hM17.give ws17.z nH hA0 hqp gW17
      dsimp only
      refine st_ret (F := F18) gw.fh (evd_tupL (K := K) (evd_lcD0 (n := n) (s := 11) (vs := [11]) (fun k => .tuple (put (put (rowsD n W) x ((rowsD n W x).set y od)) y ((put (rowsD n W) x ((rowsD n W x).set y od) y).set x od) k)) (iwd_lstR (evd_var rfl hd)) (by omega) fun k v F5 H5 hk f5 hh5 z5 hv => evd_tupL (evd_var rfl hv))) fun v F19 H19 g19 p19 => ?_
      refine q v F19 H19 _ (no_ent (i := x) (j := y) (d := od) (at_rng hx) ?_ hod) (gw.trans (.of (ws.up gw) g19)) p19
      by_cases e : x = y
      · subst e
        rw [put_same, List.getElem?_set_self (by rw [lr1 x hx]; exact hx)]
      · rw [put_ne e, put_same, List.getElem?_set_self (by omega)]
    · have ws11 := ws10.up g11
      have gW11 := gW10.trans g11
      have hv11 := hv10.up g11.f
      have lrs : ((List.range n).map (rowD n W)).length = n := len_rng
      refine st_ret ws11.z (evd_eq (e := .tuple (((List.range n).map (rowD n W)).set x dl)) (evd_catT (K := K) (evd_catT (evd_eq (evd_slT (evd_var rfl hv11) evo_none (evo_some (K := K) (evd_vari (i := (x : Nat)) rfl))) (congrArg PyData.tuple (cut_take (by rw [len_rng]; omega)))) (evd_tup (eva_one (evd_var rfl (p10.up g11.f))) (by simp)) (by rw [List.length_take, len_rng]; simp; omega))
        (evd_eq (evd_slT (evd_var rfl hv11) (evo_some (K := K) (evd_eq (evd_opI (g := fun a b => a + b) (evd_vari (i := (x : Nat)) rfl) evd_i) (e := .int ((x + 1 : Nat) : Int)) rfl)) evo_none) (congrArg PyData.tuple (cut_drop (by rw [len_rng]; omega)))) (by rw [List.length_append, List.length_take, List.length_drop, len_rng]; simp; omega)) (by rw [List.set_eq_take_append_cons_drop, if_pos (by omega), List.append_assoc]; rfl)) fun v F12 H12 g12 p12 => ?_
      refine q v F12 H12 _ ?_ (gW11.trans (.of ws11 g12)) p12
      rcases hdl with rfl | ⟨l, rfl⟩
      · exact no_odd ww hx hy (hbadO o ho)
      · exact no_row (i := x) (d := .list l) (List.getElem?_set_self (by omega)) fun rs e => by cases e
end
end Sg
set_option maxRecDepth 100000
set_option maxHeartbeats 4000000
/-! G24: _law_due. -/
namespace Sg
open PySem PySem.Spec L2 Dv
section
variable {P : Program} {w : World} {K : PySem.W.Frag} {mg : Str → Option Value} {base : Heap} {SE IW IT NB TM fI : Addr} {fd : FuncData}
theorem here_turn {n : Nat} {W : Nat → Nat → Int} {x y : Nat} (h : W x y = -1) : matD n (turnW W [y]) = matD n (hereW W x y) := mat_congr fun a b _ _ => by
  unfold turnW hereW
  rw [if_pos h, sdI_y, sdI_y]
  simp only [List.mem_singleton]
  by_cases h1 : a = y <;> by_cases h2 : b = y <;> simp [h1, h2]
def R_due : List PyData → PyData → Prop := fun ds d => ∃ n W x y, ds = [matD n W, tieD (x, y)] ∧ Web n W ∧ x < y ∧ y < n ∧ d = matD (n - 1) (drawnU n W x y)
theorem sc_law_due : FnScope ["_law_web_here", "_law_tie", "_law_x", "_law_y", "_law_here", "_law_kept", "_law_lines", "_law_a", "_law_line", "_law_b", "_law_entry", "_law_z"] ["_law_web_here", "_law_tie"] (defScope (topS 64)) := ⟨rfl, rfl, rfl, by decide +kernel, rfl, by decide +kernel, by decide +kernel⟩
theorem c__law_due (T : Txt K mg) : Cal P w K mg base CX0 2 "_law_due" ["_law_web_here", "_law_tie"] (spD K R_due) := by
  have c__law_turned := c__law_turned (P := P) (w := w) (base := base) T
  refine T.d_law_due.calD sc_law_due (fun ds d ⟨n, W, x, y, e, _⟩ => by rw [e]; rfl) (fun f cdv A outer s F H vs ds d Q E hr z ha r q => ?_)
  have nd := sc_law_due.nd
  obtain ⟨n, W, x, y, rfl, ww, hxy, hyn, rfl⟩ := r
  have hn := ww.hi
  have hxn : x < n := by omega
  obtain ⟨v1, v2, rfl, h1, h2⟩ := DpAll.two_inv ha
  refine ⟨_, (pss_cons (ps_asg (pv 1) (kPgT (n := 2) K rfl (pgs_cons (pg_name (i := 2) nd rfl (Or.inl rfl)) (pgs_cons (pg_name (i := 3) nd rfl (Or.inr rfl)) pgs_nil))))
      (pss_cons (ps_set (i := 4) nd rfl (Or.inl rfl) (pe_ifExp (pt_cmpR op_eq (pe_ix (kIxT K) (pe_ix (kIxT K) (pv 0) (pv 2) (fun _ _ => rfl)) (pv 3) (fun _ _ => rfl)) (pe_un un_neg pe_int) (nomark _)) (pe_cal c__law_turned hr (by decide) pass0 (pa_cons (pv 0) (pa_cons (pe_tup (pa_cons (pv 3) pa_nil)) pa_nil))) (pv 0)))
      (pss_cons (ps_setLc (i := 5) (own := [("_law_z", 11)]) rfl nd rfl rfl (sw_true rfl rfl rfl (by decide +kernel)) (pi_range1 rfl T.range_n (pa_cons (q_len K T.len_n (pv 0)) pa_nil)) (blkOk_by (by kernel_rfl)) (fun _ _ _ _ _ => (pg_name (i := 11) nd rfl (Or.inl rfl))) (fun _ _ _ _ _ => (pts_one (pt_cmpR op_ne (pv 11) (pv 3) (nomark _)))) (fun _ _ _ _ _ => (pv 11)))
      (pss_cons (ps_set (i := 6) nd rfl (Or.inl rfl) (pe_lst pa_nil))
      (pss_cons (ps_for PassesOwn.never rfl (kLst K (pv 5)) (pg_name (i := 7) nd rfl (Or.inl rfl)) (pss_cons (ps_set (i := 8) nd rfl (Or.inl rfl) (pe_lst pa_nil))
        (pss_cons (ps_for PassesOwn.never rfl (kLst K (pv 5)) (pg_name (i := 9) nd rfl (Or.inl rfl)) (pss_cons (ps_set (i := 10) nd rfl (Or.inl rfl) (pe_ix (kIxT K) (pe_ix (kIxT K) (pv 4) (pv 7) (fun _ _ => rfl)) (pv 9) (fun _ _ => rfl)))
          (pss_cons (ps_if (PW.pt (pw_and (pt_cmpR op_eq (pv 7) (pv 2) (nomark _)) (pw_and (pt_cmpR op_ne (pv 9) (pv 2) (nomark _)) (pw_and1 (pt_cmpR op_eq (pv 10) pe_int (nomark _)))))) (pss_one (ps_set (i := 10) nd rfl (Or.inl rfl) (pe_ix (kIxT K) (pe_ix (kIxT K) (pv 4) (pv 3) (fun _ _ => rfl)) (pv 9) (fun _ _ => rfl)))) pss_nil)
          (pss_cons (ps_if (PW.pt (pw_and (pt_cmpR op_eq (pv 9) (pv 2) (nomark _)) (pw_and (pt_cmpR op_ne (pv 7) (pv 2) (nomark _)) (pw_and1 (pt_cmpR op_eq (pv 10) pe_int (nomark _)))))) (pss_one (ps_set (i := 10) nd rfl (Or.inl rfl) (pe_ix (kIxT K) (pe_ix (kIxT K) (pv 4) (pv 7) (fun _ _ => rfl)) (pv 3) (fun _ _ => rfl)))) pss_nil)
          (pss_one (ps_expr (kApp K (pv 8) (pv 10))))))))
        (pss_one (ps_expr (kApp K (pv 6) (q_tuple K T.tuple_n (pv 8))))))))
      (pss_one (ps_ret (q_tuple K T.tuple_n (pv 6))))))))), ?_⟩
  refine st_seq (st_asg2 z (evd_var rfl h2) fun vx vy F3 H3 g3 hx hy => ?_)
  obtain rfl := hx.int_inv
  obtain rfl := hy.int_inv
  have hv3 := h1.up g3.f
  show tSeq _ _ _ [some v1, some v2, some (.int (x : Nat)), some (.int (y : Nat)), none, none, none, none, none, none, none, none] H3
  refine st_seq (st_asg g3.fh (P := fun v F4 _ => Dp K F4 v (matD n (hereW W x y))) (evp_if (b := decide (W x y = -1)) (evt_test (evd_eqI (evd_cell (evd_var rfl hv3) (evd_vari rfl) (evd_vari rfl) hxn hyn) (evd_unI (g := fun a => -a) evd_i))) (fun hb => ?_) fun hb => ?_) fun vh F4 H4 g4 hh => ?_)
  · rw [← here_turn (of_decide_eq_true hb)]
    exact evd_call (eva_cons (evd_var rfl hv3) (eva_one (evd_tup (ds := [.int (y : Nat)]) (eva_one (evd_vari rfl)) (by simp)))) ⟨n, W, [y], rfl, hn, rfl⟩
  · have e : matD n (hereW W x y) = matD n W := mat_congr fun a b _ _ => by unfold hereW; rw [if_neg (of_decide_eq_false hb)]
    rw [e]
    exact evd_var rfl hv3
  have gA := g3.trans g4
  have hv4 := hv3.up g4.f
  generalize hWe : hereW W x y = hW at hh
  dsimp only
  refine st_seq (st_asg g4.fh (evd_eq (e := .list (natsD (keptL n y))) (evd_lcI (K := K) (s := 11) (vs := [11]) (g := fun k => (k : Nat)) (n := ((n : Nat) : Int).toNat) (fun k => !decide (k = y)) (fun k => .int (k : Nat)) (iwd_range1 (n := (n : Int)) (evd_lenR (evd_var rfl hv4)) (by omega) (by omega)) (by omega) (fun k F5 H5 hk f5 hh5 z5 => evt_eq (evt_test (evd_neI (K := K) (i := (k : Nat)) (j := (y : Nat)) (evd_vari rfl) (evd_vari rfl))) (by congr 1; rw [decide_eq_decide]; omega)) fun k F5 H5 hk _ f5 hh5 z5 => evd_vari rfl) rfl) fun vk F5 H5 g5 hk5 => ?_)
  have gB := gA.trans g5
  have hh5 := hh.up g5.f
  have hkl := kept_len hyn
  have hkm : ∀ z ∈ keptL n y, z < n := fun z hz => (kept_mem.mp hz).1
  have hdU : ∀ i j, drawnU n W x y i j = mrgU hW x y ((keptL n y).getD i 0) ((keptL n y).getD j 0) := fun i j => by rw [← hWe]; rfl
  generalize keptL n y = L at hk5 hkl hkm hdU
  dsimp only
  refine st_seq (st_asg g5.fh (evp_new (K := K) eva_nil (by simp)) fun v6 F6 H6 g6 ⟨p, e6, hp⟩ => ?_)
  subst e6
  have gC := gB.trans g6
  have hk6 := hk5.up g6.f
  have hh6 := hh5.up g6.f
  have iwk : ∀ {F7 H7 : Hp} {σ : L2.St}, Same F6 F7 → σ[5]? = some (some vk) → IwD K (iList K (tVar 5)) σ F7 H7 L.length fun i => .int ((L.getD i 0 : Nat) : Int) := fun {F7 H7 σ} f e => by
    have q := iwd_intsL (K := K) (te := tVar 5) (σ := σ) (H := H7) (ns := L.map fun z : Nat => (z : Int)) (evd_var e (by rw [← natsD_eq]; exact hk6.up f))
    rw [List.length_map] at q
    exact q.congr fun i hi => by rw [natD_at hi]
  dsimp only
  refine st_seq (st_forI (K := K) (g := fun i => ((L.getD i 0 : Nat) : Int)) (n := L.length) (fun i σ' F' H' => ∃ u7 u8 u9 u10, σ' = [some v1, some v2, some (.int (x : Nat)), some (.int (y : Nat)), some vh, some vk, some (.ref p), u7, u8, u9, u10, none] ∧ Gr F H F' H' ∧ Same F6 F' ∧ Own K H F' H' p ((List.range i).map fun a => rowD (n - 1) (drawnU n W x y) a)) g6.fh (iwk (Same.refl _) rfl) (fun F7 H7 g7 => ⟨_, _, _, _, rfl, gC.trans g7, g7.f, (hp.base gB.h).up g7⟩) ?_ ?_)
  · rintro i σ' F' H' F'' H'' N hi f' z' ⟨u7, u8, u9, u10, rfl, gg, f6, ho⟩ g' hN
    have ho' := ho.up g'
    have f6' := f6.trans g'.f
    have gg' := gg.trans g'
    have ha : L.getD i 0 < n := hkm _ (at_mem hi)
    show tSeq _ _ _ [some v1, some v2, some (.int (x : Nat)), some (.int (y : Nat)), some vh, some vk, some (.ref p), some (.int ((L.getD i 0 : Nat) : Int)), u8, u9, u10, none] H''
    generalize hae : L.getD i 0 = a at ha
    refine st_seq (st_asg g'.fh (evp_new (K := K) eva_nil (by simp)) fun v8 F8 H8 g8 ⟨p8, e8, hp8⟩ => ?_)
    subst e8
    dsimp only
    have hpp : p8 ≠ p := fun e => by
      obtain ⟨xs, hx, _⟩ := ho'.at_
      rw [← e, hp8.nw] at hx; cases hx
    have f8 := f6'.trans g8.f
    have ho8 := ho'.up g8
    refine st_seq (st_forI (K := K) (g := fun j => ((L.getD j 0 : Nat) : Int)) (n := L.length) (fun j σ' F' H' => ∃ u9 u10, σ' = [some v1, some v2, some (.int (x : Nat)), some (.int (y : Nat)), some vh, some vk, some (.ref p), some (.int (a : Nat)), some (.ref p8), u9, u10, none] ∧ Gr F H F' H' ∧ Same F8 F' ∧ Own K H F' H' p ((List.range i).map fun a => rowD (n - 1) (drawnU n W x y) a) ∧ Own K H'' F' H' p8 ((List.range j).map fun b => .int (drawnU n W x y i b))) g8.fh (iwk f8 rfl) (fun F9 H9 g9 => ⟨_, _, rfl, (gg'.trans g8).trans g9, g9.f, ho8.up g9, hp8.up g9⟩) ?_ ?_)
    · rintro j σ' F9 H9 F10 H10 N2 hj f9 z9 ⟨u9, u10, rfl, g9, f89, ho9, hl9⟩ g10 hN2
      have hb : L.getD j 0 < n := hkm _ (at_mem hj)
      show tSeq _ _ _ [some v1, some v2, some (.int (x : Nat)), some (.int (y : Nat)), some vh, some vk, some (.ref p), some (.int (a : Nat)), some (.ref p8), some (.int ((L.getD j 0 : Nat) : Int)), u10, none] H10
      generalize hbe : L.getD j 0 = b at hb
      have hvh : Dp K F10 vh (matD n hW) := hh6.up (f8.trans (f89.trans g10.f))
      have cell : ∀ {c e : Nat} {tc te : TE} {σ : L2.St} {F11 H11 : Hp}, Same F10 F11 → σ[4]? = some (some vh) → c < n → e < n → EvD K tc σ F11 H11 (.int (c : Nat)) → EvD K te σ F11 H11 (.int (e : Nat)) → EvD K (tOp (rIxT K) (tOp (rIxT K) (tVar 4) tc) te) σ F11 H11 (.int (hW c e)) := fun f e4 hc he h1 h2 => evd_cell (evd_var e4 (hvh.up f)) h1 h2 hc he
      have e0 : drawnU n W x y i j = mrgU hW x y a b := by rw [hdU, hae, hbe]
      refine st_seq (st_asg g10.fh (cell (Same.refl _) rfl ha hb (evd_vari (i := (a : Nat)) rfl) (evd_vari (i := (b : Nat)) rfl)) fun v F11 H11 g11 p11 => ?_)
      obtain rfl := p11.int_inv
      dsimp only
      have G11 := g10.trans g11
      have tst : ∀ {c e : Nat} {v : Int} {k1 k2 : Nat} {σ : L2.St} {F12 H12 : Hp}, σ[k1]? = some (some (.int (c : Nat))) → σ[k2]? = some (some (.int (e : Nat))) → σ[2]? = some (some (.int (x : Nat))) → σ[10]? = some (some (.int v)) →
          EvT (tAnd (tTest (tOp rEq (tVar k1) (tVar 2))) (tAnd (tTest (tOp rNe (tVar k2) (tVar 2))) (tTest (tOp rEq (tVar 10) (tC (.int 0)))))) σ F12 H12 (decide (c = x ∧ e ≠ x ∧ v = 0)) := fun {c e v k1 k2 σ F12 H12} h1 h2 h3 h4 =>
        evt_eq (evt_and (evt_test (evd_eqI (K := K) (evd_vari h1) (evd_vari h3))) fun _ => evt_and (evt_test (evd_neI (K := K) (evd_vari h2) (evd_vari h3))) fun _ => evt_test (evd_eqI (K := K) (evd_vari h4) evd_i)) (by
          rw [Bool.eq_iff_iff]
          simp only [Bool.and_eq_true, decide_eq_true_eq, Bool.not_eq_true', decide_eq_false_iff_not]
          omega)
      refine st_seq (st_ifC (fun σ2 F2 H2 => ∃ v, σ2 = [some v1, some v2, some (.int (x : Nat)), some (.int (y : Nat)), some vh, some vk, some (.ref p), some (.int (a : Nat)), some (.ref p8), some (.int (b : Nat)), some (.int v), none] ∧ Gr F10 H10 F2 H2 ∧ v = if a = x ∧ b ≠ x ∧ hW a b = 0 then hW y b else hW a b) g11.fh (tst (c := a) (e := b) (k1 := 7) (k2 := 9) rfl rfl rfl rfl) (fun hb1 F12 H12 N g12 hN => ?_) (fun hb1 F12 H12 N g12 hN => ?_) ?_)
      · refine st_asg g12.fh (cell (g11.trans g12).f rfl hyn hb (evd_vari (i := (y : Nat)) rfl) (evd_vari (i := (b : Nat)) rfl)) fun v F13 H13 g13 p13 => ?_
        obtain rfl := p13.int_inv
        exact hN _ F13 H13 ⟨_, rfl, g11.trans (g12.trans g13), by rw [if_pos (of_decide_eq_true hb1)]⟩
      · exact hN _ F12 H12 ⟨_, rfl, g11.trans g12, by rw [if_neg (of_decide_eq_false hb1)]⟩
      rintro σ2 F12 H12 ⟨v, rfl, g12, hv⟩
      refine st_seq (st_ifC (fun σ2 F2 H2 => ∃ v', σ2 = [some v1, some v2, some (.int (x : Nat)), some (.int (y : Nat)), some vh, some vk, some (.ref p), some (.int (a : Nat)), some (.ref p8), some (.int (b : Nat)), some (.int v'), none] ∧ Gr F10 H10 F2 H2 ∧ v' = if b = x ∧ a ≠ x ∧ v = 0 then hW a y else v) g12.fh (tst (c := b) (e := a) (k1 := 9) (k2 := 7) rfl rfl rfl rfl) (fun hb1 F13 H13 N g13 hN => ?_) (fun hb1 F13 H13 N g13 hN => ?_) ?_)
      · refine st_asg g13.fh (cell (g12.trans g13).f rfl ha hyn (evd_vari (i := (a : Nat)) rfl) (evd_vari (i := (y : Nat)) rfl)) fun v' F14 H14 g14 p14 => ?_
        obtain rfl := p14.int_inv
        exact hN _ F14 H14 ⟨_, rfl, g12.trans (g13.trans g14), by rw [if_pos (of_decide_eq_true hb1)]⟩
      · exact hN _ F13 H13 ⟨_, rfl, g12.trans g13, by rw [if_neg (of_decide_eq_false hb1)]⟩
      rintro σ2 F13 H13 ⟨v', rfl, g13, hv'⟩
      have ev : v' = drawnU n W x y i j := by
        rw [e0, hv', hv]
        unfold mrgU
        by_cases c1 : a = x ∧ b ≠ x ∧ hW a b = 0
        · rw [if_pos c1, if_pos c1, if_neg (fun c2 => c2.2.1 c1.1)]
        · rw [if_neg c1, if_neg c1]
      subst ev
      have G := g10.trans g13
      refine st_append (d := .int (drawnU n W x y i j)) (hl9.up G) g13.fh rfl (evd_vari rfl) (by rw [len_rng]; have := at_mem hj; omega) fun xs F14 H14 g14 ho14 => ?_
      have GT := G.trans g14
      refine hN2 _ F14 _ (g13.trans g14).f (same_mut g14.fh ho14.out) ⟨_, _, rfl, ?_, f89.trans GT.f, ?_, ?_⟩
      · exact (g9.trans GT).mut (gg'.h.free hp8.nw) ho14.out
      · exact ((ho9.up GT)).other hpp.symm
      · rw [List.range_succ, List.map_append]
        exact ho14
    · rintro σ' F9 H9 f9 z9 ⟨u9, u10, rfl, g9, f89, ho9, hl9⟩
      rw [hkl] at hl9
      refine st_append (d := rowD (n - 1) (drawnU n W x y) i) ho9 z9 rfl (evd_tupO' hl9 (evv_var rfl)) (by rw [len_rng]; omega) fun xs F10 H10 g10 ho10 => ?_
      refine hN _ F10 _ (g8.f.trans (f89.trans g10.f)) (same_mut g10.fh ho10.out) ⟨_, _, _, _, rfl, (g9.trans g10).mut (hp.base gB.h).nw ho10.out, f8.trans (f89.trans g10.f), ?_⟩
      rw [List.range_succ, List.map_append]
      exact ho10
  · rintro σ' F' H' f' z' ⟨u7, u8, u9, u10, rfl, gg, f6, ho⟩
    rw [hkl] at ho
    exact st_ret z' (evd_tupO' ho (evv_var rfl)) fun v F5 H5 g5 p5 => q v F5 H5 (gg.trans g5) p5
end
end Sg
set_option maxRecDepth 100000
set_option maxHeartbeats 1000000
/-! Mth4: what is drawn is balanced as the web is; its camps lift. -/
namespace Sg
open PySem PySem.Spec L2 Dv
def kp (y i : Nat) : Nat := if i < y then i else i + 1
theorem kept_eq {n y : Nat} (hy : y < n) : keptL n y = (List.range (n - 1)).map (kp y) := by
  refine List.Perm.eq_of_pairwise (le := (· < ·)) (fun a b _ _ h1 h2 => by omega) (List.Pairwise.filter _ List.pairwise_lt_range) ?_ ?_
  · rw [List.pairwise_map]
    refine List.Pairwise.imp (fun h => ?_) List.pairwise_lt_range
    unfold kp
    split <;> split <;> omega
  · refine (List.perm_ext_iff_of_nodup (List.Pairwise.filter _ List.nodup_range) ?_).mpr fun z => ?_
    · refine List.Pairwise.imp (fun h => Nat.ne_of_lt h) (R := (· < ·)) ?_
      rw [List.pairwise_map]
      refine List.Pairwise.imp (fun h => ?_) List.pairwise_lt_range
      unfold kp
      split <;> split <;> omega
    · rw [show (List.range n).filter (fun z => !decide (z = y)) = keptL n y from rfl, kept_mem, List.mem_map]
      constructor
      · rintro ⟨h1, h2⟩
        by_cases h : z < y
        · exact ⟨z, List.mem_range.mpr (by omega), by unfold kp; rw [if_pos h]⟩
        · exact ⟨z - 1, List.mem_range.mpr (by omega), by unfold kp; rw [if_neg (by omega)]; omega⟩
      · rintro ⟨i, hi, rfl⟩
        have := List.mem_range.mp hi
        unfold kp
        split <;> omega
theorem kept_at {n y i : Nat} (hy : y < n) (hi : i < n - 1) : (keptL n y).getD i 0 = kp y i := by rw [kept_eq hy, getD_rng hi]
theorem kp_lt {n y i : Nat} (hy : y < n) (hi : i < n - 1) : kp y i < n ∧ kp y i ≠ y := by unfold kp; split <;> omega
def kq (y v : Nat) : Nat := if v < y then v else v - 1
theorem kp_kq {y v : Nat} (h : v ≠ y) : kp y (kq y v) = v := by
  unfold kp kq
  by_cases h1 : v < y
  · rw [if_pos h1, if_pos h1]
  · rw [if_neg h1, if_neg (by omega)]; omega
theorem kq_kp {y i : Nat} : kq y (kp y i) = i := by
  unfold kp kq
  by_cases h1 : i < y
  · rw [if_pos h1, if_pos h1]
  · rw [if_neg h1, if_neg (by omega)]; omega
theorem kq_lt {n y v : Nat} (hy : y < n) (h : v ≠ y) (hv : v < n) : kq y v < n - 1 := by unfold kq; split <;> omega
theorem drawn_kp {n : Nat} {W : Nat → Nat → Int} {x y i j : Nat} (hy : y < n) (hi : i < n - 1) (hj : j < n - 1) : drawnU n W x y i j = mrgU (hereW W x y) x y (kp y i) (kp y j) := by
  show mrgU _ x y ((keptL n y).getD i 0) ((keptL n y).getD j 0) = _
  rw [kept_at hy hi, kept_at hy hj]
/-- the sign of the turn at y -/
def sgy (W : Nat → Nat → Int) (x y v : Nat) : Int := if W x y = -1 ∧ v = y then -1 else 1
theorem sgy_pm (W : Nat → Nat → Int) (x y v : Nat) : sgy W x y v = 1 ∨ sgy W x y v = -1 := by unfold sgy; split <;> simp
theorem here_sgy {W : Nat → Nat → Int} {x y a b : Nat} : hereW W x y a b = W a b * sgy W x y a * sgy W x y b := by
  unfold hereW sgy
  by_cases h : W x y = -1
  · rw [if_pos h, sdI_y, sdI_y]; simp [h]
  · rw [if_neg h]; simp [h]
theorem pm_sq {a : Int} (h : a = 1 ∨ a = -1) : a * a = 1 := by rcases h with h | h <;> rw [h] <;> rfl
theorem wit_here {n : Nat} {W : Nat → Nat → Int} {x y : Nat} {s : Nat → Int} (w : Wit n W s) : Wit n (hereW W x y) fun v => s v * sgy W x y v := by
  refine ⟨fun v hv => ?_, fun a b ha hb hw => ?_⟩
  · rcases w.1 v hv with h | h <;> rcases sgy_pm W x y v with h' | h' <;> simp only [h, h'] <;> decide
  · have h := w.2 a b ha hb fun e => hw (here_zero.mpr e)
    rw [here_sgy, ← h]
    simp only [Int.mul_assoc, Int.mul_left_comm, Int.mul_comm]
theorem here_wit {n : Nat} {W : Nat → Nat → Int} {x y : Nat} {s : Nat → Int} (w : Wit n (hereW W x y) s) : Wit n W fun v => s v * sgy W x y v := by
  refine ⟨fun v hv => ?_, fun a b ha hb hw => ?_⟩
  · rcases w.1 v hv with h | h <;> rcases sgy_pm W x y v with h' | h' <;> simp only [h, h'] <;> decide
  · have h := w.2 a b ha hb fun e => hw (here_zero.mp e)
    rw [here_sgy] at h
    have e1 := pm_sq (sgy_pm W x y a)
    have e2 := pm_sq (sgy_pm W x y b)
    have : s a * sgy W x y a * (s b * sgy W x y b) = (s a * s b) * (sgy W x y a * sgy W x y b) := by simp only [Int.mul_assoc, Int.mul_left_comm, Int.mul_comm]
    show s a * sgy W x y a * (s b * sgy W x y b) = W a b
    rw [this, h]
    have : W a b * sgy W x y a * sgy W x y b * (sgy W x y a * sgy W x y b) = W a b * (sgy W x y a * sgy W x y a) * (sgy W x y b * sgy W x y b) := by simp only [Int.mul_assoc, Int.mul_left_comm, Int.mul_comm]
    rw [this, e1, e2, Int.mul_one, Int.mul_one]
section
variable {n : Nat} {W : Nat → Nat → Int} {x y : Nat}
theorem wit_mrg {h : Nat → Nat → Int} {t : Nat → Int} (hw : Web n h) (hx : x < n) (hy : y < n) (h1 : h x y = 1) (w : Wit n h t) : Wit (n - 1) (fun i j => mrgU h x y (kp y i) (kp y j)) fun i => t (kp y i) := by
  have txy : t x = t y := by
    have := w.2 x y hx hy (by rw [h1]; decide)
    rw [h1] at this
    rcases w.1 x hx with e | e <;> rcases w.1 y hy with e' | e' <;> rw [e, e'] at this ⊢ <;> simp at this
  refine ⟨fun i hi => w.1 _ (kp_lt hy hi).1, fun i j hi hj hne => ?_⟩
  obtain ⟨ha, ha'⟩ := kp_lt hy hi
  obtain ⟨hb, hb'⟩ := kp_lt hy hj
  dsimp only at hne ⊢
  generalize kp y i = a at *
  generalize kp y j = b at *
  unfold mrgU at hne ⊢
  by_cases c1 : a = x ∧ b ≠ x ∧ h a b = 0
  · rw [if_pos c1] at hne ⊢
    rw [c1.1, txy]
    exact w.2 y b hy hb hne
  · rw [if_neg c1] at hne ⊢
    by_cases c2 : b = x ∧ a ≠ x ∧ h a b = 0
    · rw [if_pos c2] at hne ⊢
      rw [c2.1, txy]
      exact w.2 a y ha hy hne
    · rw [if_neg c2] at hne ⊢
      exact w.2 a b ha hb hne
theorem mrg_wit {h : Nat → Nat → Int} {t : Nat → Int} (hw : Web n h) (hx : x < n) (hy : y < n) (hxy : x ≠ y) (h1 : h x y = 1) (hs : ∀ z, z < n → h x z ≠ 0 → h y z ≠ 0 → h x z = h y z)
    (w : Wit (n - 1) (fun i j => mrgU h x y (kp y i) (kp y j)) t) : Wit n h fun v => if v = y then t (kq y x) else t (kq y v) := by
  have core : ∀ u v, u < n → v < n → u ≠ y → v ≠ y → mrgU h x y u v ≠ 0 → t (kq y u) * t (kq y v) = mrgU h x y u v := fun u v hu hv hu' hv' hne => by
    have := w.2 (kq y u) (kq y v) (kq_lt hy hu' hu) (kq_lt hy hv' hv)
    dsimp only at this
    rw [kp_kq hu', kp_kq hv'] at this
    exact this hne
  have side : ∀ v, v < n → v ≠ y → h y v ≠ 0 → t (kq y x) * t (kq y v) = h y v := fun v hv hv' hne => by
    by_cases e : v = x
    · subst e
      rw [hw.sym y v hy hv, h1]
      exact pm_sq (w.1 _ (kq_lt hy hxy hx))
    · have em : mrgU h x y x v = h y v := by
        unfold mrgU
        by_cases h0 : h x v = 0
        · rw [if_pos ⟨rfl, e, h0⟩]
        · rw [if_neg (fun c => h0 c.2.2), if_neg (fun c => e c.1)]
          exact hs v hv h0 hne
      rw [core x v hx hv hxy hv' (by rw [em]; exact hne), em]
  refine ⟨fun v hv => ?_, fun u v hu hv hne => ?_⟩
  · dsimp only
    by_cases e : v = y
    · rw [if_pos e]; exact w.1 _ (kq_lt hy hxy hx)
    · rw [if_neg e]; exact w.1 _ (kq_lt hy e hv)
  · dsimp only
    by_cases eu : u = y
    · subst eu
      by_cases ev : v = u
      · subst ev; exact (hne (hw.dia v hv)).elim
      · rw [if_pos rfl, if_neg ev]
        exact side v hv ev hne
    · by_cases ev : v = y
      · subst ev
        rw [if_neg eu, if_pos rfl, Int.mul_comm, hw.sym u v hu hv]
        exact side u hu eu (by rw [← hw.sym u v hu hv]; exact hne)
      · rw [if_neg eu, if_neg ev]
        have em : mrgU h x y u v = h u v := by
          unfold mrgU
          rw [if_neg (fun c => hne c.2.2), if_neg (fun c => hne c.2.2)]
        rw [core u v hu hv eu ev (by rw [em]; exact hne), em]
theorem wit_drawn (ww : Web n W) (hxy : x < y) (hy : y < n) (h0 : W x y ≠ 0) {s : Nat → Int} (w : Wit n W s) : Bal (n - 1) (drawnU n W x y) :=
  ⟨_, wit_congr (fun i j hi hj => (drawn_kp hy hi hj).symm) (wit_mrg (here_web ww) (by omega) hy (here_xy ww hxy hy h0) (wit_here w))⟩
theorem drawn_wit (ww : Web n W) (hxy : x < y) (hy : y < n) (h0 : W x y ≠ 0) (hg : ∀ z, z < n → ¬ BadZ W x y z) {t : Nat → Int} (w : Wit (n - 1) (drawnU n W x y) t) :
    Wit n W fun v => (if v = y then t (kq y x) else t (kq y v)) * sgy W x y v :=
  here_wit (mrg_wit (here_web ww) (by omega) hy (by omega) (here_xy ww hxy hy h0) (fun z hz h1 h2 => here_same ww hxy hy hz (hg z hz) h1 h2 h0) (wit_congr (fun i j hi hj => drawn_kp hy hi hj) w))
/-- what is drawn is balanced as the web is -/
theorem drawn_bal (ww : Web n W) (hxy : x < y) (hy : y < n) (h0 : W x y ≠ 0) (hg : ∀ z, z < n → ¬ BadZ W x y z) : Bal (n - 1) (drawnU n W x y) ↔ Bal n W :=
  ⟨fun ⟨_, w⟩ => ⟨_, drawn_wit ww hxy hy h0 hg w⟩, fun ⟨_, w⟩ => wit_drawn ww hxy hy h0 w⟩
end
end Sg
set_option maxRecDepth 100000
set_option maxHeartbeats 1000000
/-! Mth5: camps lift. -/
namespace Sg
open PySem PySem.Spec L2 Dv
def sgL (L : List Nat) (v : Nat) : Int := if v ∈ L then -1 else 1
theorem sgL_pm (L : List Nat) (v : Nat) : sgL L v = 1 ∨ sgL L v = -1 := by unfold sgL; split <;> simp
theorem camp_wit {n : Nat} {W : Nat → Nat → Int} {L : List Nat} (ww : Web n W) (h : IsCamp n W L) : Wit n W (sgL L) := by
  have core : ∀ u v, u < v → v < n → W u v ≠ 0 → sgL L u * sgL L v = W u v := fun u v huv hv hw => by
    have c := h u v huv hv hw
    have s := ww.sgn u v (by omega) hv
    unfold sgL
    by_cases h1 : u ∈ L <;> by_cases h2 : v ∈ L <;> simp [h1, h2] at c ⊢ <;> omega
  refine ⟨fun v _ => sgL_pm L v, fun u v hu hv hw => ?_⟩
  rcases Nat.lt_trichotomy u v with e | e | e
  · exact core u v e hv hw
  · subst e; exact (hw (ww.dia u hu)).elim
  · rw [Int.mul_comm, ww.sym u v hu hv]
    exact core v u e hu (by rw [← ww.sym u v hu hv]; exact hw)
theorem wit_camp {n : Nat} {W : Nat → Nat → Int} {L : List Nat} {s : Nat → Int} (h : Wit n W s) (e : ∀ v, v < n → (v ∈ L ↔ s v = -1)) : IsCamp n W L := fun u v huv hv hw => by
  have h1 := h.2 u v (by omega) hv hw
  have e1 := e u (by omega)
  have e2 := e v hv
  simp only [e1, e2]
  rw [← h1]
  rcases h.1 u (by omega) with a | a <;> rcases h.1 v hv with b | b <;> rw [a, b] <;> decide
/-- the law's lot -/
def liftL (W : Nat → Nat → Int) (x y : Nat) (C : List Nat) : List Nat := C.map (kp y) ++ if decide (x ∈ C.map (kp y)) != decide (W x y = -1) then [y] else []
theorem lift_camp {n : Nat} {W : Nat → Nat → Int} {x y : Nat} {C : List Nat} (ww : Web n W) (hxy : x < y) (hy : y < n) (h0 : W x y ≠ 0) (hg : ∀ z, z < n → ¬ BadZ W x y z) (hC : Lot (n - 1) C) (hc : IsCamp (n - 1) (drawnU n W x y) C) (wd : Web (n - 1) (drawnU n W x y)) :
    (liftL W x y C).Nodup ∧ (∀ v ∈ liftL W x y C, v < n) ∧ IsCamp n W (liftL W x y C) := by
  have w := drawn_wit ww hxy hy h0 hg (camp_wit wd hc)
  have kne : ∀ i ∈ C, kp y i < n ∧ kp y i ≠ y := fun i hi => kp_lt hy (hC.2 i hi)
  have mk : ∀ v, v ≠ y → (v ∈ C.map (kp y) ↔ kq y v ∈ C) := fun v hv => by
    rw [List.mem_map]
    constructor
    · rintro ⟨i, hi, rfl⟩; rw [kq_kp]; exact hi
    · exact fun h => ⟨_, h, kp_kq hv⟩
  have ny : y ∉ C.map (kp y) := fun h => by
    obtain ⟨i, hi, e⟩ := List.mem_map.mp h
    exact (kne i hi).2 e
  have hxy' : x ≠ y := by omega
  refine ⟨?_, fun v hv => ?_, wit_camp w fun v hv => ?_⟩
  · unfold liftL
    refine List.nodup_append.mpr ⟨?_, by split <;> simp, fun a ha b hb e => ?_⟩
    · refine List.Pairwise.imp (fun h => Nat.ne_of_lt h) (R := (· < ·)) ?_
      rw [List.pairwise_map]
      refine List.Pairwise.imp (fun h => ?_) hC.1
      unfold kp
      split <;> split <;> omega
    · split at hb
      · rw [List.mem_singleton.mp hb] at e
        exact ny (e ▸ ha)
      · cases hb
  · unfold liftL at hv
    rcases List.mem_append.mp hv with h | h
    · obtain ⟨i, hi, rfl⟩ := List.mem_map.mp h
      exact (kne i hi).1
    · split at h
      · rw [List.mem_singleton.mp h]; exact hy
      · cases h
  · unfold liftL
    rw [List.mem_append]
    by_cases e : v = y
    · subst e
      rw [if_pos rfl]
      have s1 : (v ∈ if (decide (x ∈ C.map (kp v)) != decide (W x v = -1)) = true then [v] else []) ↔ (decide (x ∈ C.map (kp v)) != decide (W x v = -1)) = true := by split <;> simp_all
      rw [s1]
      have s2 := mk x hxy'
      unfold sgL sgy
      simp only [s2]
      by_cases h1 : kq v x ∈ C <;> by_cases h2 : W x v = -1 <;> simp [h1, h2, ny]
    · rw [if_neg e]
      have s1 : ¬ (v ∈ if (decide (x ∈ C.map (kp y)) != decide (W x y = -1)) = true then [y] else []) := by split <;> simp [e]
      rw [mk v e]
      unfold sgL sgy
      by_cases h1 : kq y v ∈ C <;> simp [h1, s1, e]
end Sg
set_option maxRecDepth 100000
set_option maxHeartbeats 4000000
/-! G25: _law_just. -/
namespace Sg
open PySem PySem.Spec L2 Dv
section
variable {P : Program} {w : World} {K : PySem.W.Frag} {mg : Str → Option Value} {base : Heap} {SE IW IT NB TM fI : Addr} {fd : FuncData}
/-- e is an exception of the kind b1 b2 b3, as the heap says -/
theorem evd_isX {σ : L2.St} {F H : Hp} {n : Nat} {a D : Addr} {d : Option Addr} {c : V} {u : Value} {b : Bool} (hn : σ[n]? = some (some (.ref a))) (hs : Ex4.StE a D d H) (k : ClsV c u) (C : Ex4.KxC K D) (e : PySem.W.kitOne K (.ref D) u = some b) :
    EvD K (tCB (Ex4.rIsX K) (tCons (tVar n) (tCons (tC c) tNil))) σ F H (.bool b) := fun F1 H1 x y z Q q =>
  ⟨.ref a, hn, a, D, d, c, u, b, rfl, k, ⟨y _ _ hs.1, fun dd hd => let ⟨fs, h⟩ := hs.2 dd hd; ⟨fs, y _ _ h⟩⟩, C, e, q _ F1 H1 (.refl z) (.bl b)⟩
theorem Shp.bools (bs : List Bool) : Shp 1 (.list (bs.map PyData.bool)) := .lst fun d hd => by
  obtain ⟨b, _, rfl⟩ := List.mem_map.mp hd
  exact ⟨by simp [PyData.canLay0], by simp [PyData.depth]⟩
def sp_just (K : PySem.W.Frag) (SE IW IT NB TM : Addr) : Sp := fun vs H Q _ => ∃ (F : Hp) (a D : Addr) (d : Option Addr) (k : Nat), Same F H ∧ vs = [.ref a, .int (k : Nat)] ∧ Ex4.StE a D d H ∧ Err1 K SE IW IT NB TM D (decide (k = 0)) (decide (k = 1)) (decide (k = 2)) ∧ k < 3 ∧
  ∀ F' H', Gr F H F' H' → Q (.bl true) H'
theorem sc_law_just : FnScope ["_law_caught_here", "_law_kind", "_law_kinds", "_law_k"] ["_law_caught_here", "_law_kind"] (defScope (topS 62)) := ⟨rfl, rfl, rfl, by decide +kernel, rfl, by decide +kernel, by decide +kernel⟩
theorem c__law_just (T : Txt K mg) (Er : Errs P K mg SE IW IT NB TM fI fd) : Cal P w K mg base CX0 1 "_law_just" ["_law_caught_here", "_law_kind"] (sp_just K SE IW IT NB TM) := by
  refine T.d_law_just.cal sc_law_just (fun vs H Q E ⟨F, a, D, d, k, _, e, _⟩ => by rw [e]; rfl) (fun f cdv A outer s H vs Q E hr ⟨F, a, D, d, k, z, e, hs, C, hk, q⟩ => ?_)
  have nd := sc_law_just.nd
  subst e
  refine ⟨_, (pss_cons (ps_set (i := 2) nd rfl (Or.inl rfl) (pe_lst (pa_cons (kIsX K T.isinstance_n (pv 0) (pe_glob (v := .ref IW) rfl Er.iw.m rfl)) (pa_cons (kIsX K T.isinstance_n (pv 0) (pe_glob (v := .ref IT) rfl Er.it.m rfl)) (pa_cons (kIsX K T.isinstance_n (pv 0) (pe_glob (v := .ref NB) rfl Er.nbm rfl)) (pa_cons (kIsX K T.isinstance_n (pv 0) (pe_glob (v := .ref TM) rfl Er.tmm rfl)) pa_nil))))))
      (pss_cons (ps_if (PW.pt (pw_or (pt_not (pt_val (kIsX K T.isinstance_n (pv 0) (pe_glob (v := .ref SE) rfl Er.sem rfl)))) (pw_or1 (pt_not (pt_val (kIsX K T.isinstance_n (pv 0) (pe_bltn (v := .ty "ValueError") rfl T.ValueError_n bt_ValueError rfl))))))) (pss_one (ps_ret pe_bl)) pss_nil)
      (pss_one (ps_ret (pe_cmpR (kEqD K hr.units) (pv 2) (pe_lc (own := [("_law_k", 3)]) rfl nd (pi_range1 rfl T.range_n (pa_cons (q_len K T.len_n (pv 2)) pa_nil)) (blkOk_by (by kernel_rfl)) (fun _ _ _ _ _ => (pg_name (i := 3) nd rfl (Or.inl rfl))) (fun _ _ _ _ _ => pts_nil) (fun _ _ _ _ _ => (pe_cmpR op_eq (pv 3) (pv 1) (nomark _)))) (nomark _)))))), ?_⟩
  have up : ∀ {F1 H1 : Hp}, Gr F H F1 H1 → Ex4.StE a D d H1 := fun g => ⟨g.h _ _ hs.1, fun dd hd => let ⟨fs, h⟩ := hs.2 dd hd; ⟨fs, g.h _ _ h⟩⟩
  refine st_seq (st_asg z (evd_lst (K := K) (ds := [.bool (decide (k = 0)), .bool (decide (k = 1)), .bool (decide (k = 2)), .bool false]) (eva_cons (evd_isX rfl hs (.own IW) C.kx C.k1) (eva_cons (evd_isX rfl hs (.own IT) C.kx C.k2) (eva_cons (evd_isX rfl hs (.own NB) C.kx C.k3) (eva_one (evd_isX rfl hs (.own TM) C.kx C.k4))))) (by simp)) fun v2 F2 H2 g2 p2 => ?_)
  have hs2 := up g2
  dsimp only
  refine st_seq (st_if g2.fh (b := false) (evt_eq (evt_or (evt_not (evt_B (evd_isX (K := K) rfl hs2 (.own SE) C.kx C.k5))) fun _ => evt_not (evt_B (evd_isX (K := K) rfl hs2 (.ty "ValueError") C.kx C.k6))) rfl) (fun hb => by cases hb) fun _ F3 H3 g3 => ?_)
  have gA := g2.trans g3
  refine st_ret g3.fh (evd_eq (e := .bool true) (evd_eqD (K := K) (evd_var rfl (p2.up g3.f)) (evd_lcI0 (s := 3) (vs := [3]) (g := fun i => (i : Nat)) (n := ((4 : Nat) : Int).toNat) (fun i => .bool (decide ((i : Int) = (k : Int)))) (iwd_range1 (n := ((4 : Nat) : Int)) (evd_lenL (evd_var rfl (p2.up g3.f))) (by decide) (by decide)) (by decide) fun i F4 H4 hi f4 hh4 z4 => evd_eqI (evd_vari rfl) (evd_vari rfl)) ?_ ?_) ?_) fun v F4 H4 g4 p4 => ?_
  · exact Shp.ok (k := 1) (Shp.bools [decide (k = 0), decide (k = 1), decide (k = 2), false])
  · have e : (List.range ((4 : Nat) : Int).toNat).map (fun i : Nat => PyData.bool (decide ((i : Int) = (k : Int)))) = ((List.range 4).map fun i : Nat => decide ((i : Int) = (k : Int))).map PyData.bool := by rw [List.map_map]; rfl
    rw [e]
    exact Shp.ok (k := 1) (Shp.bools _)
  · rcases (show k = 0 ∨ k = 1 ∨ k = 2 by omega) with rfl | rfl | rfl <;> rfl
  · obtain rfl := p4.bl_inv
    exact q F4 H4 (gA.trans g4)
end
end Sg
set_option maxRecDepth 100000
set_option maxHeartbeats 2000000
/-! Mth6: what is drawn is a web; sides found place by place. -/
namespace Sg
open PySem PySem.Spec L2 Dv
theorem mrg_web {n : Nat} {h : Nat → Nat → Int} {x y : Nat} (hw : Web n h) (hy : y < n) : Web n (mrgU h x y) := by
  refine ⟨hw.lo, hw.hi, fun a b ha hb => ?_, fun a b ha hb => ?_, fun a ha => ?_⟩
  · unfold mrgU
    split
    · exact hw.sgn _ _ hy hb
    · split
      · exact hw.sgn _ _ ha hy
      · exact hw.sgn _ _ ha hb
  · have s := hw.sym a b ha hb
    have s2 := hw.sym a y ha hy
    have s3 := hw.sym b y hb hy
    unfold mrgU
    rw [← s]
    by_cases c1 : a = x
    · by_cases c2 : b = x
      · rw [if_neg (fun c => c.2.1 c2), if_neg (fun c => c.2.1 c1), if_neg (fun c => c.2.1 c1), if_neg (fun c => c.2.1 c2)]
      · by_cases c3 : h a b = 0
        · rw [if_pos ⟨c1, c2, c3⟩, if_neg (fun c => c2 c.1), if_pos ⟨c1, c2, c3⟩, s3]
        · rw [if_neg (fun c => c3 c.2.2), if_neg (fun c => c3 c.2.2), if_neg (fun c => c3 c.2.2), if_neg (fun c => c3 c.2.2)]
    · by_cases c2 : b = x
      · by_cases c3 : h a b = 0
        · rw [if_neg (fun c => c1 c.1), if_pos ⟨c2, c1, c3⟩, if_pos ⟨c2, c1, c3⟩, s2]
        · rw [if_neg (fun c => c3 c.2.2), if_neg (fun c => c3 c.2.2), if_neg (fun c => c3 c.2.2), if_neg (fun c => c3 c.2.2)]
      · rw [if_neg (fun c => c1 c.1), if_neg (fun c => c2 c.1), if_neg (fun c => c2 c.1), if_neg (fun c => c1 c.1)]
  · unfold mrgU
    rw [if_neg (fun c => c.2.1 c.1), if_neg (fun c => c.2.1 c.1)]
    exact hw.dia a ha
theorem drawn_web {n : Nat} {W : Nat → Nat → Int} {x y : Nat} (ww : Web n W) (hxy : x < y) (hy : y < n) : Web (n - 1) (drawnU n W x y) := by
  have m := mrg_web (x := x) (here_web (x := x) (y := y) ww) hy
  have hn := ww.hi
  refine ⟨by omega, by omega, fun i j hi hj => ?_, fun i j hi hj => ?_, fun i hi => ?_⟩
  · rw [drawn_kp hy hi hj]
    exact m.sgn _ _ (kp_lt hy hi).1 (kp_lt hy hj).1
  · rw [drawn_kp hy hi hj, drawn_kp hy hj hi]
    exact m.sym _ _ (kp_lt hy hi).1 (kp_lt hy hj).1
  · rw [drawn_kp hy hi hi]
    exact m.dia _ (kp_lt hy hi).1
/-- about places that are done there is no clash -/
def CF (n : Nat) (W : Nat → Nat → Int) (sd : Nat → Int) (op : Nat → Prop) : Prop := ∀ v u, v < n → u < n → sd v ≠ 0 → ¬ op v → W v u ≠ 0 → sd u = sd v * W v u
theorem CF.bal {n : Nat} {W : Nat → Nat → Int} {sd : Nat → Int} (c : CF n W sd fun _ => False) (sg : ∀ v, v < n → sd v = 0 ∨ sd v = 1 ∨ sd v = -1) (all : ∀ v, v < n → sd v ≠ 0) : Bal n W :=
  ⟨sd, fun v hv => (sg v hv).resolve_left (all v hv), fun x y hx hy hw => by
    rw [c x y hx hy (all x hx) (fun z => z) hw, ← Int.mul_assoc, sq_one ((sg x hx).resolve_left (all x hx)), Int.one_mul]⟩
theorem CF.put {n : Nat} {W : Nat → Nat → Int} {sd : Nat → Int} {op op' : Nat → Prop} {y : Nat} {a : Int} (c : CF n W sd op) (h0 : sd y = 0) (hcl : ∀ v u, v < n → u < n → sd v ≠ 0 → ¬ op v → W v u ≠ 0 → sd u ≠ 0) (hop : ∀ v, op v → op' v) (hy : op' y) : CF n W (put sd y a) op' := fun v u hv hu hs ho hw => by
  have e : v ≠ y := fun e => ho (by rw [e]; exact hy)
  rw [put_ne e] at hs ⊢
  have ho' : ¬ op v := fun z => ho (hop v z)
  have hu0 := hcl v u hv hu hs ho' hw
  rw [put_ne (fun e => hu0 (by rw [e]; exact h0))]
  exact c v u hv hu hs ho' hw
theorem WI.clash {n r : Nat} {W : Nat → Nat → Int} {sd : Nat → Int} {pr : Nat → Option Nat} {cmp dep : Nat → Nat} {op : Nat → Prop} {x y : Nat} (i : WI n W r sd pr cmp dep op) (hx : op x) (hy : y < n) (hs : sd y ≠ 0) (hw : W x y ≠ 0) (sym : W x y = W y x) (hc : sd y ≠ sd x * W x y) : ¬ Bal n W := fun ⟨s, ws⟩ => by
  obtain ⟨hxn, hxs, _⟩ := i.ops x hx
  have m := i.met hx hy hs hw sym
  have a := i.wt s ws x hxn hxs
  have b := i.wt s ws y hy hs
  have e := ws.2 x y hxn hy hw
  rw [m, ← a] at b
  have sx := ws.1 x hxn
  have sy := ws.1 y hy
  have dx := (i.sg x hxn).resolve_left hxs
  have dy := (i.sg y hy).resolve_left hs
  rw [← e] at hc
  rcases sx with sx | sx <;> rcases sy with sy | sy <;> rcases dx with dx | dx <;> rcases dy with dy | dy <;> rw [sx, sy, dx, dy] at b hc <;> revert b hc <;> decide
end Sg
set_option maxRecDepth 100000
set_option maxHeartbeats 2000000
/-! Dv14: a dict of our own with int keys. -/
namespace Dv
open PySem PySem.Spec L2
/-- a dict of our own, new since H0, at p; at the int i it holds g i -/
structure OD (H0 F H : Hp) (p : Addr) (B : Nat) (g : Int → Option V) : Prop where
  nw : H0 p = none
  out : F p = none
  at_ : ∃ m, H p = some (.dK m) ∧ m.length ≤ B ∧ ∀ i : Int, valV m (.inl i : Key) = g i
section
variable {K : PySem.W.Frag} {σ : St} {F F' H H' H0 H1 F0 : Hp} {te ta tb : TE} {i j : Int} {p q : Addr} {v : V} {o : HO} {D : Ends} {n B : Nat} {g g' : Int → Option V}
theorem OD.up (h : OD H0 F H p B g) (gr : Gr F H F' H') : OD H0 F' H' p B g := by
  obtain ⟨m, a, b⟩ := h.at_
  exact ⟨h.nw, gr.out a h.out, m, gr.h _ _ a, b⟩
theorem OD.other (h : OD H0 F H p B g) (ne : p ≠ q) : OD H0 F (upd H q o) p B g := by
  obtain ⟨m, a, b⟩ := h.at_
  exact ⟨h.nw, h.out, m, by rw [upd_ne ne]; exact a, b⟩
theorem OD.base (h : OD H0 F H p B g) (e : Same H1 H0) : OD H1 F H p B g := ⟨e.free h.nw, h.out, h.at_⟩
theorem OD.congr (h : OD H0 F H p B g) (e : ∀ k, g k = g' k) : OD H0 F H p B g' := by
  obtain ⟨m, a, b, c⟩ := h.at_
  exact ⟨h.nw, h.out, m, a, b, fun i => by rw [c, e]⟩
theorem OD.le {B' : Nat} (h : OD H0 F H p B g) (e : B ≤ B') : OD H0 F H p B' g := by
  obtain ⟨m, a, b, c⟩ := h.at_
  exact ⟨h.nw, h.out, m, a, Nat.le_trans b e, c⟩
def NewOD (H0 : Hp) (g : Int → Option V) : V → Hp → Hp → Prop := fun v F H => ∃ p, v = .ref p ∧ OD H0 F H p 0 g
theorem evp_dnew : EvP tDNewK σ F H (NewOD H fun _ => none) := fun F1 H1 x y z Q q p hp =>
  q _ F1 (upd H1 p (.dK [])) (.own z hp) ⟨p, rfl, y.free hp, z.free hp, [], upd_same, Nat.zero_le _, fun _ => rfl⟩
/-- i not in d -/
theorem evd_dnotin (h : OD H0 F H p B g) (hb : EvD K tb σ F H (.int i)) (ha : EvV ta σ F H (.ref p)) : EvD K (tDNotIn tb ta) σ F H (.bool (!(g i).isSome)) := by
  obtain ⟨m, a, _, hg⟩ := h.at_
  refine fun F1 H1 x y z Q q => hb F1 H1 x y z _ fun u F2 H2 g2 p2 => ?_
  obtain rfl := p2.int_inv
  refine ha F2 H2 (x.trans g2.f) (y.trans g2.h) g2.fh _ fun w F3 H3 g3 e => ?_
  subst e
  refine ⟨p, g i, rfl, ?_, q _ F3 H3 (g2.trans g3) (.bl _)⟩
  rw [← hg i]
  exact DGet.k (k := (.inl i : Key)) ((y.trans (g2.h.trans g3.h)) _ _ a)
/-- d[i] -/
theorem evd_dgetI (h : OD H0 F H p B g) (ha : EvV ta σ F H (.ref p)) (hb : EvD K tb σ F H (.int i)) (hg : g i = some (.int j)) : EvD K (tDGet ta tb) σ F H (.int j) := by
  obtain ⟨m, a, _, hm⟩ := h.at_
  refine fun F1 H1 x y z Q q => ha F1 H1 x y z _ fun u F2 H2 g2 e => ?_
  subst e
  refine hb F2 H2 (x.trans g2.f) (y.trans g2.h) g2.fh _ fun w F3 H3 g3 p3 => ?_
  obtain rfl := p3.int_inv
  refine ⟨p, .int j, rfl, ?_, q _ F3 H3 (g2.trans g3) (.int _)⟩
  rw [← hg, ← hm i]
  exact DGet.k (k := (.inl i : Key)) ((y.trans (g2.h.trans g3.h)) _ _ a)
/-- d[i] = e -/
theorem st_dputI (h : OD H0 F H p B g) (z : Same F H) (he : EvD K te σ F H (.int j)) (hn : σ[n]? = some (some (.ref p))) (hk : ∀ F1 H1, Gr F H F1 H1 → EvD K tb σ F1 H1 (.int i)) (hl : B ≤ 50000)
    (kk : ∀ o F1 H1, Gr F H F1 H1 → OD H0 F1 (upd H1 p o) p (B + 1) (fun l => if l = i then some (.int j) else g l) → D.nx σ (upd H1 p o)) : sDPut (tVar n) tb te D σ H := by
  obtain ⟨m, a, hm, hg⟩ := h.at_
  refine he F H (Same.refl _) (Same.refl _) z _ fun w F1 H1 g1 e => ?_
  obtain rfl := e.int_inv
  refine ⟨.ref p, hn, ?_⟩
  refine hk F1 H1 g1 F1 H1 (Same.refl _) (Same.refl _) g1.fh _ fun kv F2 H2 g2 ek => ?_
  obtain rfl := ek.int_inv
  have gg := g1.trans g2
  refine ⟨p, _, rfl, DPut.k (k := (.inl i : Key)) (gg.h _ _ a) (Nat.lt_of_le_of_lt (show m.length ≤ 50000 from Nat.le_trans hm hl) (by decide)), kk _ F2 H2 gg ⟨h.nw, (h.up gg).out, _, upd_same, ?_, fun l => ?_⟩⟩
  · have := length_putK m (.inl i : Key) (.int j)
    omega
  · rw [valV_put, hg]
    by_cases e : l = i
    · subst e
      rw [if_pos rfl, if_pos rfl]
    · rw [if_neg e, if_neg (fun z => e (Sum.inl.inj z))]
end
end Dv
set_option maxRecDepth 100000
set_option maxHeartbeats 4000000
/-! G26: _law_caught. -/
namespace Sg
open PySem PySem.Spec L2 Dv
/-- a call whose exceptions hang on the slots -/
theorem pe_calS {X : Cx} {CX : CXT} {x : Str} {k j : Nat} {ps : List Str} {sp : Sp} {E : L2.St → XK} {e : Expr} {es : List Expr} {t : TA} {p pos : Pos} (C : Cal X.prog X.w X.K X.mg X.base CX j x ps sp) (hr : Room k X.A) (hk : j ≤ k) (hx : ∀ σ, PassesAt CX X σ (E σ)) (ha : PA X (e :: es) t)
    (hg : Gl X x := by rfl) (hdb : (x == ("__debug__" : Str)) = false := by decide) (he : starEach (e :: es) X.env = (false, eval e X.env) :: starEach es X.env := by rfl) (hpl : (backTo pos (starEach es X.env)).any (·.1) = false := by rfl) : PE X (.Call (.Name x p) (e :: es) [] pos) (tCallS sp E t) := by
  obtain ⟨f, fd, G, m, kp, b⟩ := C.ex
  exact pe_callS G (hr.mono hk) hg m kp b.1 hx ha hdb he hpl
theorem pass0S {X : Cx} : ∀ σ : L2.St, PassesAt CX0 X σ ((fun _ : L2.St => E0) σ) := fun _ _ _ _ _ _ _ h => h.elim
section
variable {P : Program} {w : World} {K : PySem.W.Frag} {mg : Str → Option Value} {base : Heap} {SE IW IT NB TM fI : Addr} {fd : FuncData}
theorem X_drawn_up {ds : List PyData} {cls : Value} {d : Option Addr} {F H H' : Hp} (s : Same H H') (h : X_drawn K IW IT NB ds cls d F H) : X_drawn K IW IT NB ds cls d F H' := by
  obtain ⟨a, b, e, h⟩ := h
  refine ⟨a, b, e, ?_⟩
  rcases h with h | ⟨n, W, e1, ww, h⟩
  · exact .inl h
  · refine .inr ⟨n, W, e1, ww, ?_⟩
    rcases h with h | ⟨x, y, zz, e2, h1, h2, h3, h4, h5, h6, dx, v, ms, h7, h8, h9⟩
    · exact .inl h
    · exact .inr ⟨x, y, zz, e2, h1, h2, h3, h4, h5, h6, dx, v, ms, h7, s _ _ h8, h9⟩
theorem X_drawn_cls {ds : List PyData} {cls : Value} {d : Option Addr} {F H : Hp} (Er : Errs P K mg SE IW IT NB TM fI fd) (h : X_drawn K IW IT NB ds cls d F H) : PySem.W.exmOne K cls (.ref SE) = some true := by
  obtain ⟨a, b, e, h⟩ := h
  rcases h with ⟨_, h, _⟩ | ⟨n, W, e1, ww, h⟩
  · rw [h]; exact Er.iw1.ex
  · rcases h with ⟨_, h, _⟩ | ⟨x, y, zz, e2, h1, h2, h3, h4, h5, h6, _⟩
    · rw [h]; exact Er.it1.ex
    · rw [h6]; exact Er.nb1.ex
/-- None where drawn answers, else the exception -/
def sp_caught (K : PySem.W.Frag) (IW IT NB : Addr) : Sp := fun vs H Q _ => ∃ (F : Hp) (a b : PyData) (va vb : V) (c : Bool), Same F H ∧ vs = [va, vb, .bl c] ∧ Dp K F va a ∧ Dp K F vb b ∧
  (∀ d F' H', R_drawn [a, b] d → Gr F H F' H' → Q .non H') ∧ ∀ ad cls d F' H', X_drawn K IW IT NB [a, b] cls d F' H' → Gr F H F' H' → H' ad = some (Ex4.excK ad cls d) → Q (.ref ad) H'
theorem sc_law_caught : FnScope ["_law_web_here", "_law_tie", "_law_named", "_law_caught_here", "e"] ["_law_web_here", "_law_tie", "_law_named"] (defScope (topS 63)) := ⟨rfl, rfl, rfl, by decide +kernel, rfl, by decide +kernel, by decide +kernel⟩
open Ex4 (ps_try_keep wKeep) in
theorem c__law_caught (T : Txt K mg) (Er : Errs P K mg SE IW IT NB TM fI fd) : Cal P w K mg base CX0 7 "_law_caught" ["_law_web_here", "_law_tie", "_law_named"] (sp_caught K IW IT NB) := by
  have c_drawn := c_drawn (P := P) (w := w) (base := base) T Er
  refine T.d_law_caught.cal sc_law_caught (fun vs H Q E ⟨F, a, b, va, vb, c, _, e, _⟩ => by rw [e]; rfl) (fun f cdv A outer s H vs Q E hr ⟨F, a, b, va, vb, c, z, e, ha, hb, qn, qx⟩ => ?_)
  have nd := sc_law_caught.nd
  subst e
  refine ⟨_, (pss_cons (ps_set (i := 3) nd rfl (Or.inl rfl) pe_non)
      (pss_cons (ps_try_keep (i := 4) rfl rfl rfl nd rfl rfl ⟨rfl, by decide, .inl Er.sem⟩ takes_none5 (fun W pn xe tk _ => (pss_one (ps_if (pt_val (pv 2)) (pss_one (ps_expr (pe_calK c_drawn hr (by decide) (passAt tk) (pk_cons (pv 1) (pk_cons (pv 0) pk_nil))))) (pss_one (ps_expr (pe_calS c_drawn hr (by decide) (passAt tk) (pa_cons (pv 0) (pa_cons (pv 1) pa_nil)))))))) (fun _ _ _ _ _ _ _ => (pss_one (ps_set (i := 3) nd rfl (Or.inl rfl) (pv 4)))))
      (pss_one (ps_ret (pv 3))))), ?_⟩
  refine st_seq (st_asg z (evd_n (K := K)) fun v1 F1 H1 g1 p1 => ?_)
  obtain rfl := p1.non_inv
  have ha1 := ha.up g1.f
  have hb1 := hb.up g1.f
  have fin : ∀ {vs : List V} {F2 H2 : Hp} {R : VK}, Gr F H F2 H2 → DpAll K F2 vs [a, b] → (∀ v F3 H3, Gr F H F3 H3 → Q .non H3 → R v H3) →
      spE K Pre2 R_drawn (X_drawn K IW IT NB) vs H2 R (WE (wKeep K (.ref SE) 4 (fun _ _ _ => tAsg (tVar 4) (gName 3)) (fun _ _ _ _ => False) { nx := fun σ' H' => tRet (tVar 3) { nx := fun _ H' => Q .non H', rt := Q } σ' H', rt := Q }) [some va, some vb, some (.bl c), some .non, none]) := fun {vs F2 H2 R} g hd hn =>
    ⟨F2, [a, b], g.fh, hd, ⟨a, b, rfl⟩, fun v F' H' d hR g' _ => hn v F' H' (g.trans g') (qn d F' H' hR (g.trans g')), fun cls d F' H' hX g' => ⟨true, X_drawn_cls Er hX, fun _ ad hn => ⟨.ref ad, rfl, .ref ad, rfl, qx ad cls d F' _ (X_drawn_up (same_upd hn) hX) ((g.trans g').trans (.own g'.fh hn)) upd_same⟩, fun h => by cases h⟩⟩
  refine st_seq (st_if g1.fh (evt_test (evd_var (K := K) rfl (.bl c))) (fun hc F2 H2 g2 => ?_) fun hc F2 H2 g2 => ?_)
  · exact (eva_cons (evd_var rfl (hb1.up g2.f)) (eva_one (evd_var rfl (ha1.up g2.f)))) F2 H2 (Same.refl _) (Same.refl _) g2.fh _ fun vs F3 H3 g3 hd => fin ((g1.trans g2).trans g3) hd.reverse fun v F4 H4 _ hq => ⟨.non, rfl, hq⟩
  · exact (eva_cons (evd_var rfl (ha1.up g2.f)) (eva_one (evd_var rfl (hb1.up g2.f)))) F2 H2 (Same.refl _) (Same.refl _) g2.fh _ fun vs F3 H3 g3 hd => fin ((g1.trans g2).trans g3) hd fun v F4 H4 _ hq => ⟨.non, rfl, hq⟩
end
end Sg
set_option maxRecDepth 100000
set_option maxHeartbeats 4000000
/-! G27: _law_sides. -/
namespace Sg
open PySem PySem.Spec L2 Dv
/-- the dict of the sides -/
def sdG (n : Nat) (sd : Nat → Int) : Int → Option V := fun i => if 0 ≤ i ∧ i < n ∧ sd i.toNat ≠ 0 then some (.int (sd i.toNat)) else none
theorem sdG_at {n v : Nat} {sd : Nat → Int} (hv : v < n) (h : sd v ≠ 0) : sdG n sd (v : Int) = some (.int (sd v)) := by
  unfold sdG
  rw [if_pos ⟨by omega, by omega, by rw [Int.toNat_natCast]; exact h⟩, Int.toNat_natCast]
theorem sdG_no {n v : Nat} {sd : Nat → Int} (h : sd v = 0) : sdG n sd (v : Int) = none := by
  unfold sdG
  rw [if_neg]
  rintro ⟨_, _, c⟩
  rw [Int.toNat_natCast] at c
  exact c h
theorem sdG_some {n v : Nat} {sd : Nat → Int} (hv : v < n) : (!(sdG n sd (v : Int)).isSome) = decide (sd v = 0) := by
  by_cases h : sd v = 0
  · rw [sdG_no h, decide_eq_true h]; rfl
  · rw [sdG_at hv h, decide_eq_false h]; rfl
theorem sdG_put {n y : Nat} {sd : Nat → Int} {a : Int} (hy : y < n) (ha : a ≠ 0) (l : Int) : (if l = (y : Int) then some (V.int a) else sdG n sd l) = sdG n (put sd y a) l := by
  by_cases e : l = y
  · subst e
    rw [if_pos rfl, sdG_at hy (by rw [put_same]; exact ha), put_same]
  · rw [if_neg e]
    unfold sdG
    by_cases c : 0 ≤ l ∧ l < n
    · have ne : l.toNat ≠ y := by omega
      rw [put_ne ne]
    · rw [if_neg (fun z => c ⟨z.1, z.2.1⟩), if_neg (fun z => c ⟨z.1, z.2.1⟩)]
theorem sdG_zero {n : Nat} (l : Int) : (none : Option V) = sdG n (fun _ => 0) l := by
  unfold sdG
  rw [if_neg fun z => z.2.2 rfl]
theorem nats_atI {L : List Nat} {k x : Nat} (h : L[k]? = some x) : L2.atI (natsD L) (k : Int) = some (.int (x : Nat)) := atI_nat (by rw [List.getElem?_map, h]; rfl)
/-- what stands while the places of L are gone through, the k-th the next -/
structure SI (n : Nat) (W : Nat → Nat → Int) (r : Nat) (sd : Nat → Int) (pr : Nat → Option Nat) (cmp dep : Nat → Nat) (L : List Nat) (k : Nat) : Prop where
  wi : WI n W r sd pr cmp dep fun v => v ∈ L.drop k
  cf : CF n W sd fun v => v ∈ L.drop k
  nd : L.Nodup
  mt : ∀ v ∈ L, v < n ∧ sd v ≠ 0
section
variable {P : Program} {w : World} {K : PySem.W.Frag} {mg : Str → Option Value} {base : Heap} {SE IW IT NB TM fI : Addr} {fd : FuncData}
def R_sides : List PyData → PyData → Prop := fun ds d => ∃ n W, ds = [matD n W] ∧ Web n W ∧ ((¬ Bal n W ∧ d = .none) ∨ (Bal n W ∧ ∃ es, d = .list es))
theorem sc_law_sides : FnScope ["_law_web_here", "_law_sides_here", "_law_start", "_law_here", "_law_k", "_law_y", "_law_sign", "_law_x"] ["_law_web_here"] (defScope (topS 60)) := ⟨rfl, rfl, rfl, by decide +kernel, rfl, by decide +kernel, by decide +kernel⟩
theorem c__law_sides (T : Txt K mg) : Cal P w K mg base CX0 1 "_law_sides" ["_law_web_here"] (spS K PreW R_sides) := by
  refine T.d_law_sides.cal sc_law_sides (spS_len fun ds ⟨n, W, e, _⟩ => by rw [e]; rfl) (fun f cdv A outer s H vs Q E hr ⟨F, ds, z, ha, ⟨n, W, e, ww⟩, q⟩ => ?_)
  have nd := sc_law_sides.nd
  subst e
  obtain ⟨v1, rfl, h1⟩ := DpAll.one_inv ha
  refine ⟨_, (pss_cons (ps_set (i := 1) nd rfl (Or.inr rfl) pe_dnewK)
      (pss_cons (ps_for PassesOwn.never rfl (pi_range1 rfl T.range_n (pa_cons (q_len K T.len_n (pv 0)) pa_nil)) (pg_name (i := 2) nd rfl (Or.inl rfl)) (pss_cons (ps_set (i := 3) nd rfl (Or.inl rfl) (pe_lst pa_nil))
        (pss_cons (ps_if (pt_cmp (pc_dnotin (hu1 hr) (pv 2) (pv 1)) rfl) (pss_cons (ps_dput (hu1 hr) (pv 1) (pv 2) pe_int rfl)
          (pss_one (ps_expr (kApp K (pv 3) (pv 2))))) pss_nil)
        (pss_one (ps_for PassesOwn.never rfl (pi_range1 rfl T.range_n (pa_cons (q_len K T.len_n (pv 0)) pa_nil)) (pg_name (i := 4) nd rfl (Or.inl rfl)) (pss_one (ps_if (pt_cmpR op_lt (pv 4) (q_len K T.len_n (pv 3)) (nomark _)) (pss_one (ps_for PassesOwn.never rfl (pi_range1 rfl T.range_n (pa_cons (q_len K T.len_n (pv 0)) pa_nil)) (pg_name (i := 5) nd rfl (Or.inl rfl)) (pss_cons (ps_set (i := 6) nd rfl (Or.inl rfl) (pe_ix (kIxT K) (pe_ix (kIxT K) (pv 0) (pe_ix (kIxL K) (pv 3) (pv 4) (fun _ _ => rfl)) (fun _ _ => rfl)) (pv 5) (fun _ _ => rfl)))
              (pss_one (ps_if (PW.pt (pw_and (pt_cmpR op_ne (pv 6) pe_int (nomark _)) (pw_and1 (pt_cmp (pc_dnotin (hu1 hr) (pv 5) (pv 1)) rfl)))) (pss_cons (ps_dput (hu1 hr) (pv 1) (pv 5) (pe_op op_mul (pe_dget (hu1 hr) (pv 1) (pe_ix (kIxL K) (pv 3) (pv 4) (fun _ _ => rfl)) (fun _ _ => rfl)) (pv 6)) rfl)
                (pss_one (ps_expr (kApp K (pv 3) (pv 5))))) (pss_one (ps_if (PW.pt (pw_and (pt_cmpR op_ne (pv 6) pe_int (nomark _)) (pw_and1 (pt_cmpR op_ne (pe_dget (hu1 hr) (pv 1) (pv 5) (fun _ _ => rfl)) (pe_op op_mul (pe_dget (hu1 hr) (pv 1) (pe_ix (kIxL K) (pv 3) (pv 4) (fun _ _ => rfl)) (fun _ _ => rfl)) (pv 6)) (nomark _))))) (pss_one (ps_ret pe_non)) pss_nil))))))) pss_nil)))))))
      (pss_one (ps_ret (pe_lc (own := [("_law_x", 7)]) rfl nd (pi_range1 rfl T.range_n (pa_cons (q_len K T.len_n (pv 0)) pa_nil)) (blkOk_by (by kernel_rfl)) (fun _ _ _ _ _ => (pg_name (i := 7) nd rfl (Or.inl rfl))) (fun _ _ _ _ _ => pts_nil) (fun _ _ _ _ _ => (pe_dget (hu1 hr) (pv 1) (pv 7) (fun _ _ => rfl)))))))), ?_⟩
  have hn10 := ww.hi
  have rng : ∀ {F4 H4 : Hp} {σ : L2.St}, Same F F4 → σ[0]? = some (some v1) → IwD K (iRng1 (tCons (tCB (rLenQ K) (tCons (tVar 0) tNil)) tNil)) σ F4 H4 n fun i => .int (i : Nat) := fun {F4 H4 σ} f e => by
    have h := iwd_range1 (K := K) (n := (n : Int)) (F := F4) (H := H4) (evd_lenR (evd_var e (h1.up f))) (by omega) (by omega)
    rw [Int.toNat_natCast] at h
    exact h
  refine st_seq (st_asg z evp_dnew fun v F1 H1 g1 ⟨pD, e, oD⟩ => ?_)
  subst e
  dsimp only
  refine st_seq (st_forI (K := K) (g := fun i => (i : Nat)) (n := n) (fun i σ' F' H' => ∃ u2 u3 u4 u5 u6, σ' = [some v1, some (.ref pD), u2, u3, u4, u5, u6, none] ∧ Gr F H F' H' ∧ ∃ sd pr cmp dep, OD H F' H' pD (n - cnt0 n sd) (sdG n sd) ∧
    WI n W 0 sd pr cmp dep (fun _ => False) ∧ CF n W sd (fun _ => False) ∧ (∀ v, v < i → sd v ≠ 0)) g1.fh (rng g1.f rfl) (fun F4 H4 g4 => ⟨_, _, _, _, _, rfl, g1.trans g4, _, _, _, _, ((oD.up g4).congr sdG_zero).le (Nat.zero_le _), .init, fun v u _ _ h => absurd rfl h, fun v h => absurd h (Nat.not_lt_zero _)⟩) ?_ ?_)
  · rintro i σ' F' H' F'' H'' N hi f' z' ⟨u2, u3, u4, u5, u6, rfl, gg, sd, pr, cmp, dep, oD, wi, cf, hmet⟩ g' hN
    have gA := gg.trans g'
    have oDA := oD.up g'
    refine st_seq (st_asg g'.fh (evp_new (K := K) eva_nil (by simp)) fun v3 F5 H5 g5 ⟨p3, e3, hp3⟩ => ?_)
    subst e3
    have gB := gA.trans g5
    have oDB := oDA.up g5
    have o3 := hp3.base gA.h
    have n1 : pD ≠ p3 := fun e => by
      obtain ⟨m, h, _⟩ := oDA.at_
      rw [e, hp3.nw] at h; cases h
    clear oD oDA hp3
    dsimp only
    refine st_seq (st_ifC (fun σ2 F2 H2 => ∃ sd pr cmp dep L, σ2 = [some v1, some (.ref pD), some (.int (i : Nat)), some (.ref p3), u4, u5, u6, none] ∧ Gr F H F2 H2 ∧ Same F'' F2 ∧ OD H F2 H2 pD (n - cnt0 n sd) (sdG n sd) ∧ Own K H F2 H2 p3 (natsD L) ∧ SI n W i sd pr cmp dep L 0 ∧ ∀ v, v < i + 1 → sd v ≠ 0) g5.fh
      (b := decide (sd i = 0)) (evt_eq (evt_test (evd_dnotin (K := K) oDB (evd_vari rfl) (evv_var rfl))) (sdG_some hi)) (fun hb F6 H6 N' g6 hN' => ?_) (fun hb F6 H6 N' g6 hN' => ?_) ?_)
    · have h0 := of_decide_eq_true hb
      have hcnt := cnt_put (sd := sd) (a := 1) h0 (by decide) hi
      have hcl := cnt_le n sd
      refine st_seq (st_dputI (j := 1) (oDB.up g6) g6.fh (evd_i (K := K)) rfl (fun _ _ _ => evd_vari (K := K) rfl) (by omega) fun o F7 H7 g7 oD7 => ?_)
      have g67 := ((gB.trans g6).trans g7).mut (o := o) oD7.nw oD7.out
      have o37 := ((o3.up g6).up g7).other (o := o) (Ne.symm n1)
      refine st_append (d := .int (i : Nat)) o37 g67.fh rfl (evd_vari rfl) (by simp) fun xs F8 H8 g8 o8 => ?_
      refine hN' _ F8 _ ⟨put sd i 1, pr, put cmp i i, dep, [i], rfl, (g67.trans g8).mut o8.nw o8.out, (g5.f.trans (g6.f.trans g7.f)).trans g8.f, ((((oD7.congr (sdG_put hi (by decide))).le (by omega)).up g8).other n1), o8, ⟨(wi.start hi h0).iff fun v => by simp, cf.put h0 (fun v u hv hu hs ho hw => (wi.cl v u hv hu hs ho hw).1) (fun v h => h.elim) (by simp), by simp, fun v hv => ?_⟩, fun v hv => ?_⟩
      · rw [List.mem_singleton] at hv
        subst hv
        exact ⟨hi, by rw [put_same]; decide⟩
      · by_cases e : v = i
        · subst e; rw [put_same]; decide
        · rw [put_ne e]; exact hmet v (by omega)
    · have h0 := of_decide_eq_false hb
      refine hN' _ F6 H6 ⟨sd, pr, cmp, dep, [], rfl, gB.trans g6, g5.f.trans g6.f, oDB.up g6, o3.up g6, ⟨(wi.root i).iff fun v => by simp, fun v u hv hu hs _ hw => cf v u hv hu hs (fun z => z) hw, by simp, fun v hv => by simp at hv⟩, fun v hv => ?_⟩
      by_cases e : v = i
      · subst e; exact h0
      · exact hmet v (by omega)
    clear oDB o3 wi cf hmet
    rintro σ2 F6 H6 ⟨sd, pr, cmp, dep, L, rfl, gC, f6, oD, oL, si, hm⟩
    refine st_forI (K := K) (g := fun i => (i : Nat)) (n := n) (fun k σ' F' H' => ∃ u4 u5 u6 sd pr cmp dep L, σ' = [some v1, some (.ref pD), some (.int (i : Nat)), some (.ref p3), u4, u5, u6, none] ∧ Gr F H F' H' ∧ OD H F' H' pD (n - cnt0 n sd) (sdG n sd) ∧ Own K H F' H' p3 (natsD L) ∧ SI n W i sd pr cmp dep L k ∧ ∀ v, v < i + 1 → sd v ≠ 0) gC.fh (rng gC.f rfl)
      (fun F7 H7 g7 => ⟨_, _, _, sd, pr, cmp, dep, L, rfl, gC.trans g7, oD.up g7, oL.up g7, si, hm⟩) ?_ ?_
    · clear oD oL si hm
      rintro k σ' F' H' F7 H7 N2 hk f7 z7 ⟨u4, u5, u6, sd, pr, cmp, dep, L, rfl, gD, oD, oL, si, hm⟩ g7 hN2
      have oD7 := oD.up g7
      have oL7 := oL.up g7
      have gE := gD.trans g7
      clear oD oL
      refine st_if g7.fh (b := decide (k < L.length)) (evt_eq (evt_test (evd_cmpI (g := fun a b => decide (a < b)) (evd_vari (i := (k : Nat)) rfl) (evd_lenO oL7 (evv_var rfl)))) (by rw [List.length_map, decide_eq_decide]; omega)) (fun hb F8 H8 g8 => ?_) fun hb F8 H8 g8 => ?_
      · have hkl := of_decide_eq_true hb
        obtain ⟨x, hx⟩ : ∃ x, L[k]? = some x := ⟨L[k], List.getElem?_eq_getElem hkl⟩
        refine st_forI (K := K) (g := fun i => (i : Nat)) (n := n) (fun j σ' F' H' => ∃ u5 u6 sd pr cmp dep L, σ' = [some v1, some (.ref pD), some (.int (i : Nat)), some (.ref p3), some (.int (k : Nat)), u5, u6, none] ∧ Gr F H F' H' ∧ OD H F' H' pD (n - cnt0 n sd) (sdG n sd) ∧ Own K H F' H' p3 (natsD L) ∧ SI n W i sd pr cmp dep L k ∧ (∀ v, v < i + 1 → sd v ≠ 0) ∧ L[k]? = some x ∧
          ∀ u, u < j → W x u ≠ 0 → sd u = sd x * W x u ∧ sd u ≠ 0) g8.fh (rng (gE.trans g8).f rfl) (fun F9 H9 g9 => ⟨_, _, sd, pr, cmp, dep, L, rfl, (gE.trans g8).trans g9, (oD7.up g8).up g9, (oL7.up g8).up g9, si, hm, hx, fun u h => absurd h (Nat.not_lt_zero _)⟩) ?_ ?_
        · clear oD7 oL7 si hm hx hb hkl
          rintro j σ' F' H' F9 H9 N3 hj f9 z9 ⟨u5, u6, sd, pr, cmp, dep, L, rfl, gG, oD, oL, si, hm, hx, hdone⟩ g9 hN3
          have gH := gG.trans g9
          have oD9 := oD.up g9
          have oL9 := oL.up g9
          clear oD oL
          have hkl : k < L.length := (List.getElem?_eq_some_iff.mp hx).1
          have hxm : x ∈ L := List.mem_of_getElem? hx
          have hxd : x ∈ L.drop k := by
            rw [List.drop_eq_getElem_cons hkl, (List.getElem?_eq_some_iff.mp hx).2]
            exact List.mem_cons_self
          obtain ⟨hxn, hxs⟩ := si.mt x hxm
          have hAt : ∀ {F4 H4 : Hp} {σ : L2.St}, Own K H F4 H4 p3 (natsD L) → σ[3]? = some (some (.ref p3)) → σ[4]? = some (some (.int (k : Nat))) → EvD K (tOp (rIxL K) (tVar 3) (tVar 4)) σ F4 H4 (.int (x : Nat)) := fun {F4 H4 σ} o e1 e2 => evd_ixO o (evv_var e1) (evd_vari e2) (nats_atI hx)
          refine st_seq (st_asg g9.fh (evd_cell (K := K) (evd_var rfl (h1.up gH.f)) (hAt oL9 rfl rfl) (evd_vari (i := (j : Nat)) rfl) hxn hj) fun vs F10 H10 g10 p10 => ?_)
          obtain rfl := p10.int_inv
          have gI := gH.trans g10
          have oD10 := oD9.up g10
          have oL10 := oL9.up g10
          clear oD9 oL9
          dsimp only
          refine st_if g10.fh (b := !decide (W x j = 0) && decide (sd j = 0)) (evt_and (evt_test (evd_neI (K := K) (evd_vari rfl) evd_i)) fun _ => evt_eq (evt_test (evd_dnotin (K := K) oD10 (evd_vari rfl) (evv_var rfl))) (sdG_some hj)) (fun hb F11 H11 g11 => ?_) fun hb F11 H11 g11 => ?_
          · simp only [Bool.and_eq_true, Bool.not_eq_true', decide_eq_false_iff_not, decide_eq_true_eq] at hb
            have hw : W x j = 1 ∨ W x j = -1 := (ww.sgn x j hxn hj).resolve_left hb.1
            have wi2 := si.wi.visit (x := x) (y := j) hxd hj hb.2 hw
            have cm : CMul (sd x) (W x j) := .inr (by rcases hw with e | e <;> rw [e] <;> decide)
            have snz : sd x * W x j ≠ 0 := by rcases (si.wi.sg x hxn).resolve_left hxs with e | e <;> rcases hw with e2 | e2 <;> rw [e, e2] <;> decide
            have hcnt := cnt_put (sd := sd) (a := sd x * W x j) hb.2 snz hj
            have hcl := cnt_le n sd
            have oD11 := oD10.up g11
            have oL11 := oL10.up g11
            refine st_seq (st_dputI (j := sd x * W x j) oD11 g11.fh (evd_opC (K := K) (g := fun a b => a * b) (evd_dgetI (K := K) oD11 (evv_var rfl) (hAt oL11 rfl rfl) (sdG_at hxn hxs)) (evd_vari rfl) cm) rfl (fun _ _ _ => evd_vari (K := K) rfl) (by omega) fun o F12 H12 g12 oD12 => ?_)
            have g13 := ((gI.trans g11).trans g12).mut (o := o) oD12.nw oD12.out
            have o312 := (oL11.up g12).other (o := o) (Ne.symm n1)
            have hjL : j ∉ L := fun h => (si.mt j h).2 hb.2
            have hll : L.length ≤ n := nodup_len si.nd fun v hv => (si.mt v hv).1
            refine st_append (d := .int (j : Nat)) o312 g13.fh rfl (evd_vari rfl) (by rw [List.length_map]; omega) fun cs F14 H14 g14 o14 => ?_
            have hdr : (L ++ [j]).drop k = L.drop k ++ [j] := List.drop_append_of_le_length (Nat.le_of_lt hkl)
            have hxj : x ≠ j := fun e => hxs (by rw [e]; exact hb.2)
            refine hN3 _ F14 _ (((g10.f.trans g11.f).trans g12.f).trans g14.f) (same_mut g14.fh o14.out) ⟨_, _, _, _, _, _, L ++ [j], rfl, (g13.trans g14).mut o14.nw o14.out, ((((oD12.congr (sdG_put hj snz)).le (by omega)).up g14).other n1), by rw [natsD_app]; exact o14, ⟨wi2.iff fun v => ?_, si.cf.put hb.2 (fun v u hv hu hs ho hw => (si.wi.cl v u hv hu hs ho hw).1) (fun v h => ?_) ?_, ?_, fun v hv => ?_⟩, fun v hv => ?_, ?_, fun u hu hwu => ?_⟩
            · rw [hdr, List.mem_append, List.mem_singleton]
            · show v ∈ (L ++ [j]).drop k
              rw [hdr]; exact List.mem_append_left _ h
            · show j ∈ (L ++ [j]).drop k
              rw [hdr]; exact List.mem_append_right _ (List.mem_singleton.mpr rfl)
            · exact nd_snoc si.nd hjL
            · rcases List.mem_append.mp hv with h | h
              · have m := si.mt v h
                rw [put_ne fun e => hjL (by rw [← e]; exact h)]
                exact m
              · rw [List.mem_singleton] at h
                subst h
                rw [put_same]
                exact ⟨hj, snz⟩
            · by_cases e : v = j
              · subst e; exact (hm v hv hb.2).elim
              · rw [put_ne e]; exact hm v hv
            · rw [List.getElem?_append_left hkl]; exact hx
            · by_cases e : u = j
              · subst e
                rw [put_same, put_ne hxj]
                exact ⟨rfl, snz⟩
              · rw [put_ne e, put_ne hxj]
                exact hdone u (by omega) hwu
          · have oD11 := oD10.up g11
            have oL11 := oL10.up g11
            have hs0 : W x j ≠ 0 → sd j ≠ 0 := fun hw h0 => by
              rw [decide_eq_false hw, decide_eq_true h0] at hb
              cases hb
            have cm : CMul (sd x) (W x j) := .inr (by rcases ww.sgn x j hxn hj with e | e | e <;> rw [e] <;> decide)
            refine st_if g11.fh (b := !decide (W x j = 0) && !decide (sd j = sd x * W x j)) (evt_and (evt_test (evd_neI (K := K) (evd_vari rfl) evd_i)) fun hb2 => evt_test (evd_neI (K := K) (evd_dgetI (K := K) oD11 (evv_var rfl) (evd_vari rfl) (sdG_at hj (hs0 (by simpa using hb2)))) (evd_opC (K := K) (g := fun a b => a * b) (evd_dgetI (K := K) oD11 (evv_var rfl) (hAt oL11 rfl rfl) (sdG_at hxn hxs)) (evd_vari rfl) cm))) (fun hb2 F12 H12 g12 => ?_) fun hb2 F12 H12 g12 => ?_
            · simp only [Bool.and_eq_true, Bool.not_eq_true', decide_eq_false_iff_not] at hb2
              exact st_ret g12.fh (evd_n (K := K)) fun v F13 H13 g13 p13 => q v F13 H13 .none ⟨n, W, rfl, ww, .inl ⟨si.wi.clash hxd hj (hs0 hb2.1) hb2.1 (ww.sym x j hxn hj) hb2.2, rfl⟩⟩ (((gI.trans g11).trans g12).trans g13) p13
            · refine hN3 _ F12 H12 ((g10.f.trans g11.f).trans g12.f) g12.fh ⟨_, _, sd, pr, cmp, dep, L, rfl, (gI.trans g11).trans g12, oD11.up g12, oL11.up g12, si, hm, hx, fun u hu hwu => ?_⟩
              by_cases e : u = j
              · subst e
                refine ⟨?_, hs0 hwu⟩
                rw [decide_eq_false hwu] at hb2
                simpa using hb2
              · exact hdone u (by omega) hwu
        · clear oD7 oL7 si hm hx hb hkl
          rintro σ' F' H' f9 z9 ⟨u5, u6, sd, pr, cmp, dep, L, rfl, gG, oD, oL, si, hm, hx, hdone⟩
          have hkl : k < L.length := (List.getElem?_eq_some_iff.mp hx).1
          have hdr : L.drop k = x :: L.drop (k + 1) := by rw [List.drop_eq_getElem_cons hkl, (List.getElem?_eq_some_iff.mp hx).2]
          have hxd : x ∈ L.drop k := by rw [hdr]; exact List.mem_cons_self
          have hxn := (si.wi.ops x hxd).1
          refine hN2 _ F' H' (g8.f.trans f9) z9 ⟨_, _, _, sd, pr, cmp, dep, L, rfl, gG, oD, oL, ⟨si.wi.close (x := x) hxd (fun v h => ?_) (fun v h => ?_) (fun u hu hwu => ⟨(hdone u hu hwu).2, si.wi.met hxd hu (hdone u hu hwu).2 hwu (ww.sym x u hxn hu)⟩), fun v u hv hu hs ho hwu => ?_, si.nd, si.mt⟩, hm⟩
          · show v ∈ L.drop k
            rw [hdr]; exact List.mem_cons_of_mem _ h
          · have h' : v ∈ L.drop k := h
            rw [hdr] at h'
            exact List.mem_cons.mp h'
          · by_cases e : v = x
            · subst e; exact (hdone u hu hwu).1
            · refine si.cf v u hv hu hs (fun h => ?_) hwu
              have h' : v ∈ L.drop k := h
              rw [hdr] at h'
              exact (List.mem_cons.mp h').elim e ho
      · have hkl : L.length ≤ k := by have := of_decide_eq_false hb; omega
        have e1 : L.drop k = [] := List.drop_eq_nil_of_le hkl
        have e2 : L.drop (k + 1) = [] := List.drop_eq_nil_of_le (by omega)
        refine hN2 _ F8 H8 g8.f g8.fh ⟨_, _, _, sd, pr, cmp, dep, L, rfl, gE.trans g8, oD7.up g8, oL7.up g8, ⟨?_, ?_, si.nd, si.mt⟩, hm⟩
        · rw [e2, ← e1]; exact si.wi
        · rw [e2, ← e1]; exact si.cf
    · clear oD oL si hm
      rintro σ' F' H' f7 z7 ⟨u4, u5, u6, sd, pr, cmp, dep, L, rfl, gD, oD, oL, si, hm⟩
      have hll : L.length ≤ n := nodup_len si.nd fun v hv => (si.mt v hv).1
      have e1 : L.drop n = [] := List.drop_eq_nil_of_le hll
      have e2 : (fun v => v ∈ L.drop n) = fun _ : Nat => False := by
        funext v
        rw [e1]
        simp
      have wi := si.wi
      have cf := si.cf
      rw [e2] at wi cf
      exact hN _ F' H' (f6.trans f7) z7 ⟨_, _, _, _, _, rfl, gD, sd, pr, cmp, dep, oD, wi.root 0, cf, hm⟩
  · rintro σ' F' H' f' z' ⟨u2, u3, u4, u5, u6, rfl, gg, sd, pr, cmp, dep, oD, wi, cf, hmet⟩
    exact st_ret z' (evd_lcI0 (K := K) (s := 7) (vs := [7]) (g := fun i => (i : Nat)) (n := n) (fun i => .int (sd i)) (rng gg.f rfl) (by omega) fun i F5 H5 hi f5 h5 z5 => (evd_dgetI (K := K) oD (evv_var rfl) (evd_vari rfl) (sdG_at hi (hmet i hi))).mono f5 h5) fun v F5 H5 g5 p5 => q v F5 H5 _ ⟨n, W, rfl, ww, .inr ⟨cf.bal wi.sg hmet, _, rfl⟩⟩ (gg.trans g5) p5
end
end Sg
set_option maxRecDepth 100000
set_option maxHeartbeats 4000000
/-! GC: defs that ask for a place without guards; repr; what _law_tie_right asks of its calls. -/
namespace Sg
open PySem PySem.Spec L2 Dv
open PyProof.Rows (envOfC)
structure CalG (P : Program) (w : World) (K : PySem.W.Frag) (mg : Str → Option Value) (base : Heap) (CX : CXT) (k : Nat) (x : Str) (ps : List Str) (sp : Sp) : Prop where
  ex : ∃ f fd, Ex7.FnOkG P w K mg base CX k f fd ps sp ∧ mg x = some (.ref f) ∧ PySem.W.keepIn K (.ref f) = true ∧ BindsR K x fd ps
theorem pe_calG {X : Cx} {CX : CXT} {x : Str} {k j : Nat} {ps : List Str} {sp : Sp} {E : XK} {e : Expr} {es : List Expr} {t : TA} {p pos : Pos} (C : CalG X.prog X.w X.K X.mg X.base CX j x ps sp) (hr : Room k X.A) (hG : X.A.guards = some []) (hk : j ≤ k) (hx : Passes CX X E) (ha : PA X (e :: es) t)
    (hg : Gl X x := by rfl) (hdb : (x == ("__debug__" : Str)) = false := by decide) (he : starEach (e :: es) X.env = (false, eval e X.env) :: starEach es X.env := by rfl) (hpl : (backTo pos (starEach es X.env)).any (·.1) = false := by rfl) : PE X (.Call (.Name x p) (e :: es) [] pos) (tCall sp [] E t) := by
  obtain ⟨f, fd, G, m, kp, b⟩ := C.ex
  exact Ex7.pe_callG G (hr.mono hk) hG hg m kp b.1 hx ha hdb he hpl
section
variable {P : Program} {w : World} {K : PySem.W.Frag} {mg : Str → Option Value} {base : Heap}
theorem okG0 {x : Str} {st : Stmt} {ps N : List Str} {k : Nat} {sp : Sp} {f : Addr} {fd : FuncData} (F : Fun K x x st f fd) (S : FnScope N ps (defScope st)) (len : ∀ vs H Q E, sp vs H Q E → vs.length = ps.length)
    (hbody : ∀ (cdv : Value) (A : Around) (outer : List Env) (s : Shared) (H : Hp) (vs : List V) (Q : VK) (E : XK), (A.deeper (envOfC x (defScope st) s.heap.objs.size f cdv)).guards = some [] → Room k (A.deeper (envOfC x (defScope st) s.heap.objs.size f cdv)) → sp vs H Q E →
      ∃ t, PSs (cxOf CX0 P w K mg base N x (defScope st) f cdv A outer s H E).nox (defBody st) t ∧ t { nx := fun _ H' => Q .non H', rt := Q } (start N vs) H) : Ex7.FnOkG P w K mg base CX0 (k + 1) f fd ps sp := by
  obtain ⟨oc, od, kV, doc, pm, an, cdv, ct, osl, rfl, lk, hcd⟩ := F.ex
  refine Ex7.fn_ofG lk hcd S len fun A outer s H vs Q E hG hr hsp => ?_
  obtain ⟨t, h, q⟩ := hbody cdv A outer s H vs Q E hG hr hsp
  exact ⟨t, h.nox, q⟩
theorem Def1.calG {x : Str} {st : Stmt} {ps N : List Str} {k : Nat} {sp : Sp} (D : Def1 K mg x st ps) (S : FnScope N ps (defScope st)) (len : ∀ vs H Q E, sp vs H Q E → vs.length = ps.length)
    (hbody : ∀ (f : Addr) (cdv : Value) (A : Around) (outer : List Env) (s : Shared) (H : Hp) (vs : List V) (Q : VK) (E : XK), (A.deeper (envOfC x (defScope st) s.heap.objs.size f cdv)).guards = some [] → Room k (A.deeper (envOfC x (defScope st) s.heap.objs.size f cdv)) → sp vs H Q E →
      ∃ t, PSs (cxOf CX0 P w K mg base N x (defScope st) f cdv A outer s H E).nox (defBody st) t ∧ t { nx := fun _ H' => Q .non H', rt := Q } (start N vs) H) : CalG P w K mg base CX0 (k + 1) x ps sp := by
  obtain ⟨f, fd, F, m, b⟩ := D.ex
  refine ⟨f, fd, ?_, m, F.kp, b⟩
  obtain ⟨oc, od, kV, doc, pm, an, cdv, ct, osl, rfl, lk, hcd⟩ := F.ex
  refine Ex7.fn_ofG lk hcd S len fun A outer s H vs Q E hG hr hsp => ?_
  obtain ⟨t, h, q⟩ := hbody f cdv A outer s H vs Q E hG hr hsp
  exact ⟨t, h.nox, q⟩
end
/-! ### repr -/
def rRepr (K : PySem.W.Frag) : List V → Hp → VK → Prop := fun vs H Q => ∃ (a : Addr) (d : PyData), vs = [V.ref a] ∧ Dp K H (.ref a) d ∧ d.showable = true ∧ d.hasDict = false ∧ d.depth ≤ 60 ∧ d.shown.length ≤ sizeLine ∧ Q (.str d.shown) H
theorem cr_repr {X : Cx} (hg : X.A.guards = some []) (hu : X.A.units + 64 < cLine) : CallR X (.builtin "repr") (rRepr X.K) := by
  intro pins s σ H vs us Q I r h
  obtain ⟨a, d, rfl, hd, h1, h2, h3, h4, q⟩ := h
  rw [Vals.ref1 r]
  obtain ⟨as, rd⟩ := Dp.reads I d (.ref a) (.ref a) hd rfl
  exact repr_of_reads' rd h1 (PyData.noDict_hsm h2) hg (by omega) (fun _ _ e => e) (fun h' u tk hk => ⟨.str d.shown, H, I.kept hk, ⟨u, rfl⟩, q⟩) h4
section
variable {K : PySem.W.Frag} {σ : L2.St} {F H : Hp} {te ta tb : TE} {tr : TA} {d e : PyData} {ds : List PyData} {v : V} {b c : Bool} {x : Str}
theorem evd_repr (h : EvD K te σ F H (.tuple ds)) (h1 : (PyData.tuple ds).showable = true) (h2 : (PyData.tuple ds).hasDict = false) (h3 : (PyData.tuple ds).depth ≤ 60) (h4 : (PyData.tuple ds).shown.length ≤ sizeLine) : EvD K (tCB (rRepr K) (tCons te tNil)) σ F H (.str (PyData.tuple ds).shown) :=
  evd_cb (eva_one h) fun vs F1 H1 _ _ z hd Q q => by
    obtain ⟨v, rfl, hv⟩ := DpAll.one_inv hd
    obtain ⟨a, xs, rfl, _⟩ := hv.tup_inv
    exact ⟨a, _, rfl, hv.up z, h1, h2, h3, h4, q _ F1 H1 (.refl z) (.str _)⟩
theorem evd_neS (ha : EvD K ta σ F H (.str x)) (hb : EvD K tb σ F H (.str x)) : EvD K (tOp rNe ta tb) σ F H (.bool false) :=
  evd_op ha hb fun u v F1 H1 _ _ z p1 p2 Q q => by
    rw [p1.str_inv, p2.str_inv]
    refine ⟨rfl, ?_⟩
    rw [show (!decide (V.str x = V.str x)) = false by simp]
    exact q _ F1 H1 (.refl z) (.bl _)
/-- None or not, of a datum that is not known -/
theorem evd_isNS {R : PyData → Prop} (ha : EvP ta σ F H fun v F2 _ => ∃ d, R d ∧ Dp K F2 v d) (hd : ∀ d, R d → b = match d with | .none => true | _ => false) : EvD K (tOp (fun x y H Q => y = .non ∧ Q (.bl (decide (x = .non))) H) ta (tC .non)) σ F H (.bool b) :=
  fun F1 H1 x y z Q q => ha F1 H1 x y z _ fun v F2 H2 g2 ⟨d, hR, hv⟩ => by
    have hb := hd d hR
    refine ⟨rfl, ?_⟩
    have e : decide (v = V.non) = b := by
      rw [hb]
      cases hv <;> first | rfl | exact decide_eq_true rfl | exact decide_eq_false (fun z => by cases z)
    rw [e]
    exact q _ F2 H2 g2 (.bl _)
end
section
variable {P : Program} {w : World} {K : PySem.W.Frag} {mg : Str → Option Value} {base : Heap} {SE IW IT NB TM fI : Addr} {fd : FuncData} {σ : L2.St} {F H : Hp} {te ta tb : TE} {tr : TA} {a b : PyData} {c : Bool} {E : XK}
theorem X_drawn_gr {ds : List PyData} {cls : Value} {d : Option Addr} {F H F' H' : Hp} (g : Gr F H F' H') (h : X_drawn K IW IT NB ds cls d F H) : X_drawn K IW IT NB ds cls d F' H' := by
  obtain ⟨a, b, e, h⟩ := h
  refine ⟨a, b, e, ?_⟩
  rcases h with h | ⟨n, W, e1, ww, h⟩
  · exact .inl h
  · refine .inr ⟨n, W, e1, ww, ?_⟩
    rcases h with h | ⟨x, y, zz, e2, h1, h2, h3, h4, h5, h6, dx, v, ms, h7, h8, h9, h10⟩
    · exact .inl h
    · exact .inr ⟨x, y, zz, e2, h1, h2, h3, h4, h5, h6, dx, v, ms, h7, g.h _ _ h8, h9.up g.f, h10⟩
/-- what _law_caught gives -/
def IsCaught (K : PySem.W.Frag) (IW IT NB : Addr) (a b : PyData) : V → Hp → Hp → Prop := fun v F H => (v = .non ∧ ∃ d, R_drawn [a, b] d) ∨ ∃ ad cls d, v = .ref ad ∧ X_drawn K IW IT NB [a, b] cls d F H ∧ H ad = some (Ex4.excK ad cls d)
theorem evp_caught (h : EvA K tr σ F H [a, b, .bool c]) : EvP (tCall (sp_caught K IW IT NB) [] E tr) σ F H (IsCaught K IW IT NB a b) :=
  fun F1 H1 x y z Q q => h F1 H1 x y z _ fun vs F2 H2 g2 hd => by
    obtain ⟨v1, v2, v3, rfl, h1, h2, h3⟩ := DpAll.three_inv hd
    obtain rfl := h3.bl_inv
    exact ⟨F2, a, b, v1, v2, c, g2.fh, rfl, h1, h2, fun d F' H' hR g => q _ F' H' (g2.trans g) (.inl ⟨rfl, d, hR⟩), fun ad cls d F' H' hX g he => q _ F' H' (g2.trans g) (.inr ⟨ad, cls, d, rfl, hX, he⟩)⟩
/-- _law_just of an exception of the kind k -/
theorem evd_just {n k : Nat} {ad D : Addr} {d : Option Addr} (hn : σ[n]? = some (some (.ref ad))) (hs : Ex4.StE ad D d H) (C : Err1 K SE IW IT NB TM D (decide (k = 0)) (decide (k = 1)) (decide (k = 2))) (hk : k < 3) :
    EvD K (tCall (sp_just K SE IW IT NB TM) [] E (tCons (tVar n) (tCons (tC (.int (k : Nat))) tNil))) σ F H (.bool true) := fun F1 H1 x y z Q q =>
  ⟨.ref ad, hn, F1, ad, D, d, k, z, rfl, ⟨y _ _ hs.1, fun dd hd => let ⟨fs, h⟩ := hs.2 dd hd; ⟨fs, y _ _ h⟩⟩, C, hk, fun F' H' g => q _ F' H' g (.bl true)⟩
/-- e.ring -/
theorem evd_ring {n : Nat} {ad dx : Addr} {v : V} {d : PyData} (hn : σ[n]? = some (some (.ref ad))) (h1 : H ad = some (Ex4.excK ad (.ref NB) (some dx))) (h2 : H dx = some (.xd [("ring", v)])) (hf : XfC K NB) (hr : PySem.W.findIn K (.ref NB) "ring" = some none) (hv : Dp K F v d) :
    EvD K (Ex4.tXk K "ring" (tVar n)) σ F H d := fun F1 H1 x y z Q q => ⟨.ref ad, hn, ad, NB, dx, [("ring", v)], v, rfl, y _ _ h1, y _ _ h2, hf, hr, rfl, q _ F1 H1 (.refl z) (hv.up x)⟩
/-- drawn by name, where nothing is raised -/
theorem evd_callKS0 {Pre : List PyData → Prop} {R : List PyData → PyData → Prop} {X : List PyData → Value → Option Addr → Hp → Hp → Prop} {d : PyData} {E : L2.St → XK} (h : EvA K tr σ F H [b, a]) (hp : Pre [a, b]) (hx : ∀ cls d F' H', ¬ X [a, b] cls d F' H') (hu : ∀ e, R [a, b] e → e = d) :
    EvD K (Ex5.tCallKS (spE0 (spE K Pre R X)) (fun vs zs => vs ++ zs.reverse) E tr) σ F H d := fun F1 H1 x y z Q q => h F1 H1 x y z _ fun vs F2 H2 g2 hd =>
  ⟨F2, [a, b], g2.fh, hd.reverse, hp, fun v F' H' e hR g hv => q v F' H' (g2.trans g) (by rw [← hu e hR]; exact hv), fun cls d F' H' hX _ => hx cls d F' H' hX⟩
end
/-! ### the text of a web is short -/
theorem shownAll_map : ∀ xs : List PyData, PyData.shownAll xs = xs.map PyData.shown
  | [] => rfl
  | x :: r => by rw [PyData.shownAll, shownAll_map r]; rfl
theorem showAll_all : ∀ {xs : List PyData}, (∀ x ∈ xs, x.showable = true) → PyData.showableAll xs = true
  | [], _ => rfl
  | x :: r, h => by rw [PyData.showableAll, h x List.mem_cons_self, showAll_all fun y hy => h y (List.mem_cons_of_mem _ hy)]; rfl
theorem dictAll_all : ∀ {xs : List PyData}, (∀ x ∈ xs, x.hasDict = false) → PyData.hasDictAll xs = false
  | [], _ => rfl
  | x :: r, h => by rw [PyData.hasDictAll, h x List.mem_cons_self, dictAll_all fun y hy => h y (List.mem_cons_of_mem _ hy)]; rfl
theorem sum_le {B : Nat} : ∀ {l : List Str}, (∀ x ∈ l, x.length ≤ B) → (l.map (·.length)).sum ≤ l.length * B
  | [], _ => by simp
  | x :: r, h => by
    have h1 := h x List.mem_cons_self
    have h2 := sum_le (l := r) fun y hy => h y (List.mem_cons_of_mem _ hy)
    rw [List.map_cons, List.sum_cons, List.length_cons, Nat.succ_mul]
    omega
theorem tuple_short {ds : List PyData} {B : Nat} (h : ∀ d ∈ ds, d.shown.length ≤ B) : (PyData.tuple ds).shown.length ≤ ds.length * (B + 2) + 3 := by
  have e : (PyData.tuple ds).shown = tupleText (ds.map PyData.shown) := by rw [PyData.shown, shownAll_map]
  rw [e]
  have h1 := tupleText_len_le (ds.map PyData.shown)
  have h2 := sum_le (l := ds.map PyData.shown) (B := B) fun x hx => by
    obtain ⟨d, hd, rfl⟩ := List.mem_map.mp hx
    exact h d hd
  rw [List.length_map] at h1 h2
  have h3 : ds.length * (B + 2) = ds.length * B + ds.length * 2 := Nat.mul_add _ _ _
  omega
theorem sgn_short {i : Int} (h : i = 0 ∨ i = 1 ∨ i = -1) : (PyData.int i).shown.length ≤ 2 ∧ (PyData.int i).showable = true := by
  rcases h with rfl | rfl | rfl <;> decide
theorem mat_short {n : Nat} {W : Nat → Nat → Int} (w : Web n W) : (matD n W).showable = true ∧ (matD n W).hasDict = false ∧ (matD n W).depth ≤ 60 ∧ (matD n W).shown.length ≤ sizeLine := by
  have hn := w.hi
  have row : ∀ x, x < n → (rowD n W x).showable = true ∧ (rowD n W x).hasDict = false ∧ (rowD n W x).shown.length ≤ 43 := fun x hx => by
    refine ⟨?_, ?_, ?_⟩
    · unfold rowD
      rw [PyData.showable]
      refine showAll_all fun d hd => ?_
      obtain ⟨y, hy, rfl⟩ := List.mem_map.mp hd
      exact (sgn_short (w.sgn x y hx (List.mem_range.mp hy))).2
    · unfold rowD
      rw [PyData.hasDict]
      refine dictAll_all fun d hd => ?_
      obtain ⟨y, hy, rfl⟩ := List.mem_map.mp hd
      rfl
    · have h := tuple_short (ds := (List.range n).map fun y => .int (W x y)) (B := 2) fun d hd => by
        obtain ⟨y, hy, rfl⟩ := List.mem_map.mp hd
        exact (sgn_short (w.sgn x y hx (List.mem_range.mp hy))).1
      rw [List.length_map, List.length_range] at h
      unfold rowD
      omega
  refine ⟨?_, ?_, ?_, ?_⟩
  · unfold matD
    rw [PyData.showable]
    refine showAll_all fun d hd => ?_
    obtain ⟨x, hx, rfl⟩ := List.mem_map.mp hd
    exact (row x (List.mem_range.mp hx)).1
  · unfold matD
    rw [PyData.hasDict]
    refine dictAll_all fun d hd => ?_
    obtain ⟨x, hx, rfl⟩ := List.mem_map.mp hd
    exact (row x (List.mem_range.mp hx)).2.1
  · have := (Shp.mat (n := n) (W := W)).2
    omega
  · have h := tuple_short (ds := (List.range n).map fun x => rowD n W x) (B := 43) fun d hd => by
      obtain ⟨x, hx, rfl⟩ := List.mem_map.mp hd
      exact (row x (List.mem_range.mp hx)).2.2
    rw [List.length_map, List.length_range] at h
    unfold matD
    have e := sizeLine_eq
    omega
end Sg
set_option maxRecDepth 100000
set_option maxHeartbeats 4000000
/-! GD: facts for _law_tie_right. -/
namespace Sg
open PySem PySem.Spec L2 Dv
theorem hu65' {k : Nat} {A : Around} (r : Room k A) : A.units + 65 < cLine := by have := r.un; omega
section
variable {X : Cx} {e : Expr} {te : TE} {p pos : Pos} (K : PySem.W.Frag)
theorem q_repr (hG : X.A.guards = some []) (hu : X.A.units + 64 < cLine) (m : X.mg "repr" = none) (h : PE X e te) (g : Gl X "repr" := by rfl) (hs : starEach [e] X.env = (false, eval e X.env) :: starEach [] X.env := by rfl) (hK : X.K = K := by rfl) : PE X (.Call (.Name "repr" p) [e] [] pos) (tCB (rRepr K) (tCons te tNil)) := by
  subst hK
  exact pe_callB (cr_repr hG hu) g m bt_repr (pa_cons h pa_nil hs) (he := hs)
end
theorem drawnU_congr {n : Nat} {W U : Nat → Nat → Int} {x y : Nat} (h : ∀ a b, a < n → b < n → W a b = U a b) (hxy : x < y) (hy : y < n) : ∀ i j, i < n - 1 → j < n - 1 → drawnU n W x y i j = drawnU n U x y i j := fun i j hi hj => by
  have hx : x < n := by omega
  have h1 := (kp_lt hy hi).1
  have h2 := (kp_lt hy hj).1
  have hh : ∀ a b, a < n → b < n → hereW W x y a b = hereW U x y a b := fun a b ha hb => by
    unfold hereW
    rw [h x y hx hy, h a b ha hb]
  rw [drawn_kp hy hi hj, drawn_kp hy hi hj]
  unfold mrgU
  rw [hh _ _ h1 h2, hh _ _ hy h2, hh _ _ h1 hy]
theorem tie_inj {a b c d : Nat} (h : tieD (a, b) = tieD (c, d)) : a = c ∧ b = d := by
  injection h with h
  injection h with h1 h2
  injection h2 with h2 _
  injection h1 with h1
  injection h2 with h2
  exact ⟨by omega, by omega⟩
theorem pair_inj {n m : Nat} {W U : Nat → Nat → Int} {a b c d : Nat} (h : [matD n W, tieD (a, b)] = [matD m U, tieD (c, d)]) : n = m ∧ (∀ i j, i < n → j < n → W i j = U i j) ∧ a = c ∧ b = d := by
  injection h with h1 h2
  injection h2 with h2 _
  obtain ⟨e1, e2⟩ := mat_inj h1
  obtain ⟨e3, e4⟩ := tie_inj h2
  exact ⟨e1, e2, e3, e4⟩
theorem drawn_only {n : Nat} {W : Nat → Nat → Int} {x y : Nat} {e : PyData} (h : R_drawn [matD n W, tieD (x, y)] e) : e = matD (n - 1) (drawnU n W x y) := by
  obtain ⟨m, U, a, b, e1, _, hab, hbn, _, _, rfl⟩ := h
  obtain ⟨rfl, h2, rfl, rfl⟩ := pair_inj e1
  exact mat_congr fun i j hi hj => (drawnU_congr h2 hab hbn i j hi hj).symm
theorem drawn_no {n : Nat} {W : Nat → Nat → Int} {x y z : Nat} {e : PyData} (hz : z < n) (hb : BadZ W x y z) (h : R_drawn [matD n W, tieD (x, y)] e) : False := by
  obtain ⟨m, U, a, b, e1, _, hab, hbn, _, hno, _⟩ := h
  obtain ⟨rfl, h2, rfl, rfl⟩ := pair_inj e1
  refine hno z hz ?_
  unfold BadZ at hb ⊢
  rw [← h2 _ _ (by omega) hz, ← h2 _ _ hz hbn, ← h2 _ _ (by omega) hbn]
  exact hb
section
variable {K : PySem.W.Frag} {IW IT NB : Addr} {n : Nat} {W : Nat → Nat → Int} {x y : Nat} {v : V} {F H : Hp} {cls : Value} {d : Option Addr}
theorem X_bad (ww : Web n W) (hxy : x < y) (hyn : y < n) (h0 : W x y ≠ 0) (h : X_drawn K IW IT NB [matD n W, tieD (x, y)] cls d F H) : ∃ z, z < n ∧ BadZ W x y z ∧ RingE K NB x y z cls d F H := by
  obtain ⟨a, b, e, h⟩ := h
  injection e with e1 e2
  injection e2 with e2 _
  subst e1 e2
  rcases h with ⟨h, _⟩ | ⟨m, U, e1, wu, h⟩
  · exact (h (isWeb_mat.mpr ww)).elim
  · obtain ⟨rfl, hU⟩ := mat_inj e1
    rcases h with ⟨h, _⟩ | ⟨a, b, z, e2, hab, hbn, hz, hw, hB, hR⟩
    · refine (h ⟨x, y, rfl, hxy, hyn, ?_⟩).elim
      rw [← hU x y (by omega) hyn]; exact h0
    · obtain ⟨rfl, rfl⟩ := tie_inj e2
      refine ⟨z, hz, ?_, hR⟩
      unfold BadZ at hB ⊢
      rw [hU _ _ (by omega) hz, hU _ _ hz hyn, hU _ _ (by omega) hyn]
      exact hB
theorem caught_good (ww : Web n W) (hxy : x < y) (hyn : y < n) (h0 : W x y ≠ 0) (hg : ∀ z, z < n → ¬ BadZ W x y z) (h : IsCaught K IW IT NB (matD n W) (tieD (x, y)) v F H) : v = .non := by
  rcases h with ⟨h, _⟩ | ⟨ad, cls, d, _, hX, _⟩
  · exact h
  · obtain ⟨z, hz, hB, _⟩ := X_bad ww hxy hyn h0 hX
    exact (hg z hz hB).elim
theorem caught_bad (ww : Web n W) (hxy : x < y) (hyn : y < n) (h0 : W x y ≠ 0) {z : Nat} (hz : z < n) (hb : BadZ W x y z) (h : IsCaught K IW IT NB (matD n W) (tieD (x, y)) v F H) :
    ∃ ad dx vr ms z, v = .ref ad ∧ H ad = some (Ex4.excK ad (.ref NB) (some dx)) ∧ H dx = some (.xd [("ring", vr)]) ∧ Dp K F vr (lotD ms) ∧ ms.Perm [(x : Int), y, (z : Nat)] ∧ ms.Pairwise (· ≤ ·) ∧ z < n ∧ BadZ W x y z := by
  rcases h with ⟨_, d, h⟩ | ⟨ad, cls, d, e, hX, hE⟩
  · exact (drawn_no hz hb h).elim
  · obtain ⟨z, hz, hB, rfl, dx, vr, ms, rfl, h1, h2, h3, h4⟩ := X_bad ww hxy hyn h0 hX
    exact ⟨ad, dx, vr, ms, z, e, hE, h1, h2, h3, h4, hz, hB⟩
theorem bad_three (ww : Web n W) (hxy : x < y) (hyn : y < n) {z : Nat} (hz : z < n) (hB : BadZ W x y z) : [x, y, z].Nodup ∧ ∀ u ∈ [x, y, z], u < n := by
  have hx : x < n := by omega
  have n1 : z ≠ x := fun e => by
    unfold BadZ at hB
    rw [e, ww.dia x hx] at hB
    simp at hB
  have n2 : z ≠ y := fun e => by
    unfold BadZ at hB
    rw [e, ww.dia y hyn] at hB
    simp at hB
  refine ⟨?_, fun u hu => ?_⟩
  · simp only [List.nodup_cons, List.mem_cons, List.mem_singleton, List.not_mem_nil, or_false, not_or, not_false_eq_true, List.nodup_nil, and_true]
    exact ⟨⟨by omega, fun e => n1 e.symm⟩, fun e => n2 e.symm⟩
  · simp only [List.mem_cons, List.not_mem_nil, or_false] at hu
    rcases hu with rfl | rfl | rfl <;> omega
end
/-- the places with which the two make a bad round -/
def badL (n : Nat) (W : Nat → Nat → Int) (x y : Nat) : List Nat := (List.range n).filter fun z => decide (W x z * W z y * W x y = -1)
theorem mem_bad {n : Nat} {W : Nat → Nat → Int} {x y z : Nat} : z ∈ badL n W x y ↔ z < n ∧ BadZ W x y z := by
  unfold badL BadZ
  rw [List.mem_filter, List.mem_range, decide_eq_true_eq]
theorem eqv_nil (ds : List PyData) : PyData.eqv (.list ds) (.list []) = ds.isEmpty := by
  cases ds <;> simp [PyData.eqv, PyData.eqvAll]
theorem Shp.nats {L : List Nat} : Shp 1 (.list (natsD L)) := .lst fun d hd => by
  obtain ⟨b, _, rfl⟩ := List.mem_map.mp hd
  exact Shp.int
theorem Shp.nil1 : Shp 1 (.list []) := .lst fun d hd => by cases hd
theorem sides_inv {n : Nat} {W : Nat → Nat → Int} {d : PyData} (h : R_sides [matD n W] d) : (¬ Bal n W ∧ d = .none) ∨ (Bal n W ∧ ∃ es, d = .list es) := by
  obtain ⟨m, U, e, _, h⟩ := h
  injection e with e _
  obtain ⟨rfl, hU⟩ := mat_inj e
  rw [bal_congr hU]
  exact h
theorem camps_inv {n : Nat} {W : Nat → Nat → Int} {d : PyData} (h : R_camps [matD n W] d) : ∃ Ls : List (List Nat), (∀ L ∈ Ls, Lot n L ∧ IsCamp n W L) ∧ Ls.length ≤ 1024 ∧ d = .list (Ls.map natD) := by
  obtain ⟨m, U, Ls, e, _, h1, h2, h3⟩ := h
  injection e with e _
  obtain ⟨rfl, hU⟩ := mat_inj e
  exact ⟨Ls, fun L hL => ⟨(h1 L hL).1, camp_congr (fun a b ha hb => (hU a b ha hb).symm) (h1 L hL).2⟩, h2, h3⟩
theorem mem_canon {n x : Nat} {L : List Nat} : x ∈ canon n L ↔ x < n ∧ x ∈ L := by
  unfold canon
  rw [List.mem_filter, List.mem_range, decide_eq_true_eq]
theorem camp_canon {n : Nat} {W : Nat → Nat → Int} {L : List Nat} (c : IsCamp n W L) : IsCamp n W (canon n L) := fun a b hab hb hw => by
  rw [← c a b hab hb hw, decide_eq_decide.mpr (mem_canon.trans ⟨fun h => h.2, fun h => ⟨by omega, h⟩⟩), decide_eq_decide.mpr (mem_canon.trans ⟨fun h => h.2, fun h => ⟨hb, h⟩⟩)]
def isNoneD : PyData → Bool := fun d => match d with | .none => true | _ => false
def notNoneD : PyData → Bool := fun d => match d with | .none => false | _ => true
section
variable {K : PySem.W.Frag} {σ : L2.St} {F H : Hp} {te ta tb : TE} {b c : Bool}
theorem evd_isND {d : PyData} (ha : EvD K ta σ F H d) (h : b = isNoneD d) : EvD K (tOp (fun x y H Q => y = .non ∧ Q (.bl (decide (x = .non))) H) ta (tC .non)) σ F H (.bool b) := evd_isN ha (by rw [h]; cases d <;> rfl)
theorem evd_notND {d : PyData} (ha : EvD K ta σ F H d) (h : b = notNoneD d) : EvD K (tOp (fun x y H Q => y = .non ∧ Q (.bl (!decide (x = .non))) H) ta (tC .non)) σ F H (.bool b) := evd_notN ha (by rw [h]; cases d <;> rfl)
theorem evd_int1B (h : EvD K te σ F H (.bool b)) : EvD K (tCB (fun xs H Q => (∃ i, xs = [.int i] ∧ Q (.int i) H) ∨ ∃ k, xs = [.bl k] ∧ Q (.int (if k then 1 else 0)) H) (tCons te tNil)) σ F H (.int (if b then 1 else 0)) :=
  evd_cb (eva_one h) fun vs F1 H1 _ _ z hd Q q => by
    obtain ⟨v, rfl, hv⟩ := DpAll.one_inv hd
    obtain rfl := hv.bl_inv
    exact .inr ⟨b, rfl, q _ F1 H1 (.refl z) (.int _)⟩
theorem evd_notB (ha : EvD K ta σ F H (.bool b)) (hb : EvD K tb σ F H (.bool c)) : EvD K (tOp rNotB ta tb) σ F H (.bool (!decide (b = c))) :=
  evd_op ha hb fun u v F1 H1 _ _ z p1 p2 Q q => ⟨b, c, p1.bl_inv, p2.bl_inv, q _ F1 H1 (.refl z) (.bl _)⟩
theorem evd_isB (ha : EvD K ta σ F H (.bool b)) (hb : EvD K tb σ F H (.bool c)) : EvD K (tOp rIsB ta tb) σ F H (.bool (decide (b = c))) :=
  evd_op ha hb fun u v F1 H1 _ _ z p1 p2 Q q => ⟨b, c, p1.bl_inv, p2.bl_inv, q _ F1 H1 (.refl z) (.bl _)⟩
end
end Sg
set_option maxRecDepth 100000
set_option maxHeartbeats 8000000
/-! G28: _law_tie_right. -/
namespace Sg
open PySem PySem.Spec L2 Dv
section
variable {P : Program} {w : World} {K : PySem.W.Frag} {mg : Str → Option Value} {base : Heap} {SE IW IT NB TM fI : Addr} {fd : FuncData}
def R_tie_right : List PyData → PyData → Prop := fun ds d => ∃ n W x y c, ds = [matD n W, tieD (x, y), .bool c] ∧ Web n W ∧ x < y ∧ y < n ∧ W x y ≠ 0 ∧ d = .bool true
theorem sc_law_tie_right : FnScope ["_law_web_here", "_law_tie", "_law_named", "_law_x", "_law_y", "_law_bad", "_law_caught_here", "_law_told", "_law_sides_here", "_law_camp", "_law_lot_here", "_law_z"] ["_law_web_here", "_law_tie", "_law_named"] (defScope (topS 65)) := ⟨rfl, rfl, rfl, by decide +kernel, rfl, by decide +kernel, by decide +kernel⟩
theorem c__law_tie_right (T : Txt K mg) (Er : Errs P K mg SE IW IT NB TM fI fd) (hring : PySem.W.findIn K (.ref NB) "ring" = some none) : CalG P w K mg base CX0 8 "_law_tie_right" ["_law_web_here", "_law_tie", "_law_named"] (spD K R_tie_right) := by
  have c__law_caught := c__law_caught (P := P) (w := w) (base := base) T Er
  have c__law_just := c__law_just (P := P) (w := w) (base := base) T Er
  have c__law_number := c__law_number (P := P) (w := w) (base := base) T
  have c_drawn := (c_drawn (P := P) (w := w) (base := base) T Er).noX
  have c__law_due := c__law_due (P := P) (w := w) (base := base) T
  have c__law_sides := c__law_sides (P := P) (w := w) (base := base) T
  have c_is_balanced := c_is_balanced (P := P) (w := w) (base := base) T Er
  have c_camps := c_camps (P := P) (w := w) (base := base) T Er
  have c_is_camp := c_is_camp (P := P) (w := w) (base := base) T Er
  refine T.d_law_tie_right.calG sc_law_tie_right (spD_len fun ds d ⟨n, W, x, y, c, e, _⟩ => by rw [e]; rfl) (fun f cdv A outer s H vs Q E hG hr ⟨F, ds, d, z, ha, ⟨n, W, x, y, c, e, ww, hxy, hyn, h0, ed⟩, q⟩ => ?_)
  have nd := sc_law_tie_right.nd
  have hu65 := hu65' hr
  subst e ed
  obtain ⟨va, vb, vc, rfl, h1, h2, h3⟩ := DpAll.three_inv ha
  obtain rfl := h3.bl_inv
  refine ⟨_, (pss_cons (ps_asg (pv 1) (kPgT (n := 2) K rfl (pgs_cons (pg_name (i := 3) nd rfl (Or.inr rfl)) (pgs_cons (pg_name (i := 4) nd rfl (Or.inr rfl)) pgs_nil))))
      (pss_cons (ps_setLc (i := 5) (own := [("_law_z", 11)]) rfl nd rfl rfl (sw_true rfl rfl rfl (by decide +kernel)) (pi_range1 rfl T.range_n (pa_cons (q_len K T.len_n (pv 0)) pa_nil)) (blkOk_by (by kernel_rfl)) (fun _ _ _ _ _ => (pg_name (i := 11) nd rfl (Or.inl rfl))) (fun _ _ _ _ _ => (pts_one (pt_cmpR op_eq (pe_op op_mul (pe_op op_mul (pe_ix (kIxT K) (pe_ix (kIxT K) (pv 0) (pv 3) (fun _ _ => rfl)) (pv 11) (fun _ _ => rfl)) (pe_ix (kIxT K) (pe_ix (kIxT K) (pv 0) (pv 11) (fun _ _ => rfl)) (pv 4) (fun _ _ => rfl))) (pe_ix (kIxT K) (pe_ix (kIxT K) (pv 0) (pv 3) (fun _ _ => rfl)) (pv 4) (fun _ _ => rfl))) (pe_un un_neg pe_int) (nomark _)))) (fun _ _ _ _ _ => (pv 11)))
      (pss_cons (ps_set (i := 6) nd rfl (Or.inl rfl) (pe_cal c__law_caught hr (by decide) pass0 (pa_cons (pv 0) (pa_cons (pv 1) (pa_cons (pv 2) pa_nil)))))
      (pss_cons (ps_if (pt_cmpR (kNeD K hr.units) (pv 5) (pe_lst pa_nil) (nomark _)) (pss_cons (ps_if (PW.pt (pw_or (pt_not (pt_val (pe_cal c__law_just hr (by decide) pass0 (pa_cons (pv 6) (pa_cons pe_int pa_nil))))) (pw_or (pt_not (pt_val (q_isi_tuple K T.isinstance_n T.tuple_n (Ex4.pe_attrK (pv 6))))) (pw_or1 (pt_cmpR (kNeD K hr.units) (pe_lc (own := [("_law_z", 11)]) rfl nd (kTup K (Ex4.pe_attrK (pv 6))) (blkOk_by (by kernel_rfl)) (fun _ _ _ _ _ => (pg_name (i := 11) nd rfl (Or.inl rfl))) (fun _ _ _ _ _ => (pts_one (pt_not (pt_val (pe_cal c__law_number hr (by decide) pass0 (pa_cons (pv 11) pa_nil)))))) (fun _ _ _ _ _ => (pv 11))) (pe_lst pa_nil) (nomark _)))))) (pss_one (ps_ret pe_bl)) pss_nil)
        (pss_one (ps_ret (pe_cmpR (kInD K hu65) (Ex4.pe_attrK (pv 6)) (pe_lc (own := [("_law_z", 11)]) rfl nd (kLst K (pv 5)) (blkOk_by (by kernel_rfl)) (fun _ _ _ _ _ => (pg_name (i := 11) nd rfl (Or.inl rfl))) (fun _ _ _ _ _ => pts_nil) (fun _ _ _ _ _ => (q_tuple K T.tuple_n (q_sortI K T.sorted_n (pe_lst (pa_cons (pv 3) (pa_cons (pv 4) (pa_cons (pv 11) pa_nil)))))))) (by rfl))))) pss_nil)
      (pss_cons (ps_if (pt_cmpR op_notN (pv 6) pe_non (nomark _)) (pss_one (ps_ret pe_bl)) pss_nil)
      (pss_cons (ps_set (i := 7) nd rfl (Or.inl rfl) (pe_ifExp (pt_val (pv 2)) (pe_calK c_drawn hr (by decide) pass0S (pk_cons (pv 1) (pk_cons (pv 0) pk_nil))) (pe_cal c_drawn hr (by decide) pass0 (pa_cons (pv 0) (pa_cons (pv 1) pa_nil)))))
      (pss_cons (ps_if (pt_cmpR op_ne (q_repr K hG hr.units T.repr_n (pv 7)) (q_repr K hG hr.units T.repr_n (pe_cal c__law_due hr (by decide) pass0 (pa_cons (pv 0) (pa_cons (pv 1) pa_nil)))) (nomark _)) (pss_one (ps_ret pe_bl)) pss_nil)
      (pss_cons (ps_set (i := 8) nd rfl (Or.inl rfl) (pe_cal c__law_sides hr (by decide) pass0 (pa_cons (pv 0) pa_nil)))
      (pss_cons (ps_if (PW.pt (pw_or (pt_cmpR op_ne (pe_cmpR op_isN (pe_cal c__law_sides hr (by decide) pass0 (pa_cons (pv 7) pa_nil)) pe_non (nomark _)) (pe_cmpR op_isN (pv 8) pe_non (nomark _)) (nomark _)) (pw_or1 (pt_cmpR op_ne (pe_cal c_is_balanced hr (by decide) pass0 (pa_cons (pv 7) pa_nil)) (pe_cmpR op_notN (pv 8) pe_non (nomark _)) (nomark _))))) (pss_one (ps_ret pe_bl)) pss_nil)
      (pss_cons (ps_if (PW.pt (pw_or (pt_cmpR op_isN (pv 8) pe_non (nomark _)) (pw_or1 (pt_cmpR op_gt (q_len K T.len_n (pv 0)) pe_int (nomark _))))) (pss_one (ps_ret pe_bl)) pss_nil)
      (pss_cons (ps_for PassesOwn.never rfl (kLst K (pe_cal c_camps hr (by decide) pass0 (pa_cons (pv 7) pa_nil))) (pg_name (i := 9) nd rfl (Or.inl rfl)) (pss_cons (ps_setLc (i := 10) (own := [("_law_z", 11)]) rfl nd rfl rfl (sw_true rfl rfl rfl (by decide +kernel)) (kTup K (pv 9)) (blkOk_by (by kernel_rfl)) (fun _ _ _ _ _ => (pg_name (i := 11) nd rfl (Or.inl rfl))) (fun _ _ _ _ _ => pts_nil) (fun _ _ _ _ _ => (pe_op op_add (pv 11) (pe_callTy call_int1 rfl T.int_n bt_int (pa_cons (pe_cmpR op_ge (pv 11) (pv 4) (nomark _)) pa_nil)))))
        (pss_cons (ps_if (pt_cmpR op_ne (pe_cmpR (kIn K) (pv 3) (pv 10) (by rfl)) (pe_cmpR op_eq (pe_ix (kIxT K) (pe_ix (kIxT K) (pv 0) (pv 3) (fun _ _ => rfl)) (pv 4) (fun _ _ => rfl)) (pe_un un_neg pe_int) (nomark _)) (nomark _)) (pss_one (ps_set (i := 10) nd rfl (Or.inl rfl) (pe_op op_cat (pv 10) (pe_lst (pa_cons (pv 4) pa_nil))))) pss_nil)
        (pss_one (ps_if (pt_cmpR op_notBl (pe_cal c_is_camp hr (by decide) pass0 (pa_cons (pv 0) (pa_cons (q_tuple K T.tuple_n (q_sortI K T.sorted_n (pv 10))) pa_nil))) pe_bl (nomark _)) (pss_one (ps_ret pe_bl)) pss_nil)))))
      (pss_one (ps_ret pe_bl))))))))))))), ?_⟩
  have hn10 := ww.hi
  have hxn : x < n := by omega
  have cmW : ∀ {i : Int} {a b : Nat}, a < n → b < n → CMul i (W a b) := fun {i a b} ha hb => .inr (by rcases ww.sgn a b ha hb with e | e | e <;> rw [e] <;> decide)
  have rng : ∀ {F4 H4 : Hp} {σ : L2.St}, Same F F4 → σ[0]? = some (some va) → IwD K (iRng1 (tCons (tCB (rLenQ K) (tCons (tVar 0) tNil)) tNil)) σ F4 H4 n fun i => .int (i : Nat) := fun {F4 H4 σ} f e => by
    have h := iwd_range1 (K := K) (n := (n : Int)) (F := F4) (H := H4) (evd_lenR (evd_var e (h1.up f))) (by omega) (by omega)
    rw [Int.toNat_natCast] at h
    exact h
  have cell : ∀ {F4 H4 : Hp} {a b : Nat} {ta tb : TE} {σ : L2.St}, Same F F4 → a < n → b < n → σ[0]? = some (some va) → EvD K ta σ F4 H4 (.int (a : Nat)) → EvD K tb σ F4 H4 (.int (b : Nat)) → EvD K (tOp (rIxT K) (tOp (rIxT K) (tVar 0) ta) tb) σ F4 H4 (.int (W a b)) := fun f ha hb hσ h2 h3 => evd_cell (evd_var hσ (h1.up f)) h2 h3 ha hb
  refine st_seq (st_asg2 z (evd_var rfl h2) fun vx vy F3 H3 g3 hx hy => ?_)
  obtain rfl := hx.int_inv
  obtain rfl := hy.int_inv
  show tSeq _ _ _ [some va, some vb, some (.bl c), some (.int (x : Nat)), some (.int (y : Nat)), none, none, none, none, none, none, none] H3
  refine st_seq (st_asg g3.fh (evd_eq (e := .list (natsD (badL n W x y))) (evd_lcI (K := K) (s := 11) (vs := [11]) (g := fun k => (k : Nat)) (n := n) (fun k => decide (W x k * W k y * W x y = -1)) (fun k => .int (k : Nat)) (rng g3.f rfl) (by omega) (fun k F5 H5 hk f5 hh5 z5 => evt_test (evd_eqI (evd_opC (g := fun a b => a * b) (evd_opC (g := fun a b => a * b) (cell (g3.f.trans f5) hxn hk rfl (evd_vari (i := (x : Nat)) rfl) (evd_vari (i := (k : Nat)) rfl)) (cell (g3.f.trans f5) hk hyn rfl (evd_vari (i := (k : Nat)) rfl) (evd_vari (i := (y : Nat)) rfl)) (cmW hk hyn)) (cell (g3.f.trans f5) hxn hyn rfl (evd_vari (i := (x : Nat)) rfl) (evd_vari (i := (y : Nat)) rfl)) (cmW hxn hyn)) (evd_unI (g := fun a => -a) evd_i))) fun k F5 H5 hk _ f5 hh5 z5 => evd_vari rfl) rfl) fun v5 F4 H4 g4 p5 => ?_)
  have gA := g3.trans g4
  dsimp only
  refine st_seq (st_asg g4.fh (evp_caught (K := K) (IW := IW) (IT := IT) (NB := NB) (eva_cons (evd_var rfl (h1.up gA.f)) (eva_cons (evd_var rfl (h2.up gA.f)) (eva_one (evd_var (d := .bool c) rfl (.bl c)))))) fun v6 F5 H5 g5 p6 => ?_)
  have gB := gA.trans g5
  have p5B := p5.up g5.f
  dsimp only
  have hb5 : ∀ {F6 H6 : Hp} {σ : L2.St}, Same F5 F6 → σ[5]? = some (some v5) → EvT (tTest (tOp (rNeD K) (tVar 5) (tLst tNil))) σ F6 H6 (!(badL n W x y).isEmpty) := fun f e => evt_eq (evt_test (evd_neD (K := K) (evd_var e (p5B.up f)) (evd_lst (ds := []) eva_nil (by simp)) (Shp.ok Shp.nats) (Shp.ok Shp.nil1))) (by rw [eqv_nil, List.isEmpty_map])
  by_cases hbad : badL n W x y = []
  · -- drawn
    have hg : ∀ z, z < n → ¬ BadZ W x y z := fun z hz hB => by
      have := mem_bad.mpr ⟨hz, hB⟩
      rw [hbad] at this
      cases this
    have wd := drawn_web ww hxy hyn
    have dB := drawn_bal ww hxy hyn h0 hg
    obtain rfl := caught_good ww hxy hyn h0 hg p6
    refine st_seq (st_if g5.fh (hb5 (Same.refl _) rfl) (fun hb => by rw [hbad] at hb; cases hb) fun _ F6 H6 g6 => ?_)
    have gC := gB.trans g6
    refine st_seq (st_if g6.fh (b := false) (evt_eq (evt_test (evd_notN (K := K) (d := .none) (evd_var rfl .non) rfl)) rfl) (fun hb => by cases hb) fun _ F7 H7 g7 => ?_)
    have gD := gC.trans g7
    have noX : ∀ cls d F' H', ¬ X_drawn K IW IT NB [matD n W, tieD (x, y)] cls d F' H' := fun cls d F' H' hX => by
      obtain ⟨z, hz, hB, _⟩ := X_bad ww hxy hyn h0 hX
      exact hg z hz hB
    refine st_seq (st_asg g7.fh (P := fun v F2 _ => Dp K F2 v (matD (n - 1) (drawnU n W x y))) (evp_if (b := c) (evt_test (evd_var (K := K) (d := .bool c) rfl (.bl c))) (fun _ => evd_callKS0 (a := matD n W) (b := tieD (x, y)) (eva_cons (evd_var rfl (h2.up gD.f)) (eva_one (evd_var rfl (h1.up gD.f)))) ⟨_, _, rfl⟩ noX fun e h => drawn_only h) fun _ => evd_callE0 (eva_cons (evd_var rfl (h1.up gD.f)) (eva_one (evd_var rfl (h2.up gD.f)))) ⟨_, _, rfl⟩ noX fun e h => drawn_only h) fun v7 F8 H8 g8 p7 => ?_)
    have gE := gD.trans g8
    dsimp only
    obtain ⟨m1, m2, m3, m4⟩ := mat_short wd
    refine st_seq (st_if g8.fh (b := false) (evt_test (evd_neS (K := K) (evd_repr (evd_var rfl p7) m1 m2 m3 m4) (evd_repr (evd_call (eva_cons (evd_var rfl (h1.up gE.f)) (eva_one (evd_var rfl (h2.up gE.f)))) ⟨n, W, x, y, rfl, ww, hxy, hyn, rfl⟩) m1 m2 m3 m4))) (fun hb => by cases hb) fun _ F9 H9 g9 => ?_)
    have gF := gE.trans g9
    have p7F := p7.up g9.f
    refine st_seq (st_asg g9.fh (evp_callS (K := K) (eva_one (evd_var rfl (h1.up gF.f))) ⟨n, W, rfl, ww⟩) fun v8 F10 H10 g10 ⟨d8, hd8, p8⟩ => ?_)
    have gG := gF.trans g10
    have p7G := p7F.up g10.f
    have hs8 := sides_inv hd8
    dsimp only
    -- the sides of both, the balance
    obtain ⟨bb, hbb⟩ : ∃ bb : Bool, bb = true ↔ Bal n W := by
      by_cases h : Bal n W
      · exact ⟨true, by simp [h]⟩
      · exact ⟨false, by simp [h]⟩
    have isn8 : (!bb) = isNoneD d8 := by
      rcases hs8 with ⟨h, rfl⟩ | ⟨h, es, rfl⟩
      · cases bb
        · rfl
        · exact (h (hbb.mp rfl)).elim
      · rw [hbb.mpr h]; rfl
    have notn8 : bb = notNoneD d8 := by
      rcases hs8 with ⟨h, rfl⟩ | ⟨h, es, rfl⟩
      · cases bb
        · rfl
        · exact (h (hbb.mp rfl)).elim
      · rw [hbb.mpr h]; rfl
    have isnT : ∀ d, R_sides [matD (n - 1) (drawnU n W x y)] d → (!bb) = isNoneD d := fun d hd => by
      rcases sides_inv hd with ⟨h, rfl⟩ | ⟨h, es, rfl⟩
      · cases bb
        · rfl
        · exact (h (dB.mpr (hbb.mp rfl))).elim
      · rw [hbb.mpr (dB.mp h)]; rfl
    refine st_seq (st_if g10.fh (b := false) (evt_eq (evt_or (evt_test (evd_neB (K := K) (evd_isNS (evp_callS (K := K) (eva_one (evd_var rfl p7G)) ⟨n - 1, _, rfl, wd⟩) isnT) (evd_isND (K := K) (d := d8) (b := !bb) (evd_var rfl p8) isn8))) fun _ => evt_test (evd_neB (K := K) (evd_call (d := .bool bb) (eva_one (evd_var rfl p7G)) ⟨n - 1, _, bb, rfl, wd, hbb.trans dB.symm, rfl⟩) (evd_notND (K := K) (d := d8) (b := bb) (evd_var rfl p8) notn8))) (by cases bb <;> rfl)) (fun hb => by cases hb) fun _ F11 H11 g11 => ?_)
    have gH := gG.trans g11
    have p8H := p8.up g11.f
    have p7H := p7G.up g11.f
    refine st_seq (st_if g11.fh (evt_or (evt_test (evd_isND (K := K) (d := d8) (b := !bb) (evd_var rfl p8H) isn8)) fun _ => evt_test (evd_cmpI (K := K) (g := fun a b => decide (a > b)) (evd_lenR (evd_var rfl (h1.up gH.f))) evd_i)) (fun _ F12 H12 g12 => ?_) fun hb F12 H12 g12 => ?_)
    · exact st_ret g12.fh (evd_b (K := K)) fun v F13 H13 g13 p13 => q v F13 H13 ((gH.trans g12).trans g13) p13
    -- the camps
    have hB : Bal n W := by
      cases bb
      · cases hb
      · exact hbb.mp rfl
    have gI := gH.trans g12
    have p7I := p7H.up g12.f
    refine st_seq (st_forE g12.fh (evp_callS (K := K) (eva_one (evd_var rfl p7I)) ⟨n - 1, _, rfl, wd, dB.mpr hB⟩) fun vl F13 H13 g13 ⟨dl, hdl, pl⟩ => ?_)
    obtain ⟨Ls, hLs, hll, rfl⟩ := camps_inv hdl
    have gJ := gI.trans g13
    have hil : IwD K (iList K (tC vl)) [some va, some vb, some (.bl c), some (.int (x : Nat)), some (.int (y : Nat)), some v5, some .non, some v7, some v8, none, none, none] F13 H13 Ls.length fun k => natD (Ls.getD k []) := by
      have h := iwd_lst (K := K) (te := tC vl) (σ := [some va, some vb, some (.bl c), some (.int (x : Nat)), some (.int (y : Nat)), some v5, some .non, some v7, some v8, none, none, none]) (ds := Ls.map natD) (H := H13) (evd_c pl)
      rw [List.length_map] at h
      exact h.congr fun k hk => by rw [getD_at (by rw [List.length_map]; exact hk), List.getElem_map, getD_at hk]
    refine st_for (K := K) (fun i σ' F' H' => ∃ u9 u10, σ' = [some va, some vb, some (.bl c), some (.int (x : Nat)), some (.int (y : Nat)), some v5, some .non, some v7, some v8, u9, u10, none] ∧ Gr F H F' H') g13.fh hil (fun F14 H14 g14 => ⟨_, _, rfl, gJ.trans g14⟩) ?_ ?_
    · rintro i σ' F' H' F'' H'' v9 N hi f' z' ⟨u9, u10, rfl, gg⟩ g' p9 hN
      have gK := gg.trans g'
      have hmem : Ls.getD i [] ∈ Ls := getD_mem hi
      obtain ⟨hlot, hcamp⟩ := hLs _ hmem
      generalize Ls.getD i [] = C at hlot hcamp p9
      have lift := lift_camp ww hxy hyn h0 hg hlot hcamp wd
      have hCl := hlot.len
      show tSeq _ _ _ [some va, some vb, some (.bl c), some (.int (x : Nat)), some (.int (y : Nat)), some v5, some .non, some v7, some v8, some v9, u10, none] H''
      refine st_seq (st_asg g'.fh (evp_lcIO (K := K) (s := 11) (vs := [11]) (g := fun k => ((C.getD k 0 : Nat) : Int)) (n := C.length) (fun _ => true) (fun k => .int ((kp y (C.getD k 0) : Nat) : Int)) (iwd_nats (evd_var rfl p9)) (by omega) (fun k F5 H5 hk f5 hh5 z5 => evt_yes) fun k F5 H5 hk _ f5 hh5 z5 => evd_eq (evd_opI (K := K) (g := fun a b => a + b) (evd_vari rfl) (evd_int1B (evd_cmpI (g := fun a b => decide (a ≥ b)) (evd_vari rfl) (evd_vari rfl)))) ?_) fun v10 F14 H14 g14 p10 => ?_)
      · generalize C.getD k 0 = t
        unfold kp
        by_cases e : t < y
        · rw [if_pos e, if_neg (fun hh => by have := of_decide_eq_true hh; omega), Int.add_zero]
        · rw [if_neg e, if_pos (decide_eq_true (by omega))]; rfl
      have gL := gK.trans g14
      obtain ⟨pp, xs, rfl, po, ph, px⟩ := p10
      have ekp : picks C.length (fun _ => true) (fun k => .int ((kp y (C.getD k 0) : Nat) : Int)) = ((C.map (kp y)).map fun x : Nat => (x : Int)).map PyData.int := by
        rw [picks_all fun _ _ => rfl, rng_map (ns := C) (a0 := 0) (f := fun k => PyData.int ((kp y k : Nat) : Int)), List.map_map, List.map_map]
        rfl
      rw [ekp] at px
      obtain rfl := px.ints_inv
      have hxk : (decide (x ∈ C.map (kp y)) != decide (W x y = -1)) = (!(decide ((x : Int) ∈ (C.map (kp y)).map fun x : Nat => (x : Int)) == decide (W x y = -1))) := by
        rw [decide_eq_decide.mpr nat_mem]; rfl
      dsimp only
      refine st_seq (st_ifC (fun σ2 F2 H2 => ∃ v10, σ2 = [some va, some vb, some (.bl c), some (.int (x : Nat)), some (.int (y : Nat)), some v5, some .non, some v7, some v8, some v9, some v10, none] ∧ Gr F'' H'' F2 H2 ∧ PlnL K (((liftL W x y C).map fun x : Nat => (x : Int)).map PyData.int) v10 F2 H2) g14.fh
        (evt_test (evd_neB (K := K) (evd_inO (neg := false) (n := (x : Int)) ph (evd_vari rfl) (evv_var rfl)) (evd_eqI (cell gL.f hxn hyn rfl (evd_vari (i := (x : Nat)) rfl) (evd_vari (i := (y : Nat)) rfl)) (evd_unI (g := fun a => -a) evd_i)))) (fun hb F15 H15 N' g15 hN' => ?_) (fun hb F15 H15 N' g15 hN' => ?_) ?_)
      · refine st_asg g15.fh (evp_cat (K := K) (ds := ((C.map (kp y)).map fun x : Nat => (x : Int)).map PyData.int) (es := [.int (y : Nat)]) (evp_var rfl fun F1 H1 f1 h1 z1 => ⟨pp, _, rfl, h1 _ _ (g15.h _ _ ph), DpAll.ints _⟩) ((evp_lst (eva_one (evd_vari rfl)) (by simp)).imp fun _ _ _ h => h.pln) (by simp; omega)) fun v F16 H16 g16 p16 => ?_
        refine hN' _ F16 H16 ⟨v, rfl, (g14.trans g15).trans g16, ?_⟩
        have e : liftL W x y C = C.map (kp y) ++ [y] := by
          unfold liftL
          rw [if_pos (hxk.trans hb)]
        rw [e, List.map_append, List.map_append]
        exact p16.1
      · refine hN' _ F15 H15 ⟨_, rfl, g14.trans g15, ?_⟩
        have e : liftL W x y C = C.map (kp y) := by
          unfold liftL
          rw [if_neg (fun h => by rw [hxk.trans hb] at h; cases h), List.append_nil]
        rw [e]
        exact ⟨pp, _, rfl, g15.h _ _ ph, DpAll.ints _⟩
      rintro σ2 F15 H15 ⟨v10, rfl, g15, pl10⟩
      have gM := gK.trans g15
      have hlen : (liftL W x y C).length ≤ n := nodup_len lift.1 lift.2.1
      refine st_if g15.fh (b := false) (evt_eq (evt_test (evd_notB (K := K) (evd_call (d := .bool true) (eva_cons (evd_var rfl (h1.up gM.f)) (eva_one (evd_tupL (evd_sorted (n := n) lift.1 lift.2.1 (evp_sortI (K := K) (ns := (liftL W x y C).map fun x : Nat => (x : Int)) (evp_var rfl fun F1 H1 f1 h1 z1 => ?_) (by rw [List.length_map]; omega)))))) ⟨n, W, canon n (liftL W x y C), rfl, ww, lot_filter n _, camp_canon lift.2.2, rfl⟩) evd_b)) rfl) (fun hb => by cases hb) fun _ F16 H16 g16 => ?_
      · obtain ⟨a, xs, e, e1, e2⟩ := pl10
        exact ⟨a, xs, e, h1 _ _ e1, e2.up f1⟩
      · exact hN _ F16 H16 (g15.f.trans g16.f) g16.fh ⟨_, _, rfl, gM.trans g16⟩
    · rintro σ' F' H' f' z' ⟨u9, u10, rfl, gg⟩
      exact st_ret (D := { nx := fun _ H' => Q .non H', rt := Q }) (σ := [some va, some vb, some (.bl c), some (.int (x : Nat)), some (.int (y : Nat)), some v5, some .non, some v7, some v8, u9, u10, none]) z' (evd_b (K := K)) fun v F14 H14 g14 p14 => q v F14 H14 (gg.trans g14) p14
  · -- refused
    obtain ⟨z0, hz0⟩ : ∃ z0, z0 ∈ badL n W x y := List.exists_mem_of_ne_nil _ hbad
    obtain ⟨hz0n, hz0B⟩ := mem_bad.mp hz0
    obtain ⟨ad, dx, vr, ms, zz, rfl, e1, e2, e3, e4, e5, hzn, hzB⟩ := caught_bad ww hxy hyn h0 hz0n hz0B p6
    refine st_seq (st_if g5.fh (hb5 (Same.refl _) rfl) (fun _ F6 H6 g6 => ?_) fun hb => by
      cases h : badL n W x y with
      | nil => exact (hbad h).elim
      | cons a l => rw [h] at hb; cases hb)
    have gC := gB.trans g6
    have e1C := g6.h _ _ e1
    have e2C := g6.h _ _ e2
    have e3C := e3.up g6.f
    have hs : Ex4.StE ad NB (some dx) H6 := ⟨e1C, fun dd hd => by cases hd; exact ⟨_, e2C⟩⟩
    have hms : ms.length = 3 := e4.length_eq
    refine st_seq (st_if g6.fh (b := false) (evt_eq (evt_or (evt_not (evt_B (evd_just (K := K) (k := 2) rfl hs Er.nb1 (by decide)))) fun _ => evt_or (evt_not (evt_B (evd_isTup (evd_ring rfl e1C e2C Er.nbf hring e3C) e3C))) fun _ => evt_test (evd_neD (K := K) (evd_eq (e := .list []) (evd_lcI (K := K) (s := 11) (vs := [11]) (g := fun k => ms.getD k 0) (n := ms.length) (fun _ => false) (fun k => .int (ms.getD k 0)) (iwd_ints (evd_ring rfl e1C e2C Er.nbf hring e3C)) (by omega) (fun k F5 H5 hk f5 hh5 z5 => evt_eq (evt_not (evt_B (evd_call (d := .bool true) (eva_one (evd_vari rfl)) ⟨_, rfl, rfl⟩))) rfl) fun k F5 H5 hk h5 => by cases h5) (by simp [picks])) (evd_lst (ds := []) eva_nil (by simp)) (Shp.ok Shp.nil1) (Shp.ok Shp.nil1))) (by rw [eqv_nil]; rfl)) (fun hb => by cases hb) fun _ F7 H7 g7 => ?_)
    have gD := gC.trans g7
    have ib : IwD K (iList K (tVar 5)) [some va, some vb, some (.bl c), some (.int (x : Nat)), some (.int (y : Nat)), some v5, some (.ref ad), none, none, none, none, none] F7 H7 (badL n W x y).length fun k => .int (((badL n W x y).getD k 0 : Nat) : Int) := by
      have h := iwd_intsL (K := K) (te := tVar 5) (σ := [some va, some vb, some (.bl c), some (.int (x : Nat)), some (.int (y : Nat)), some v5, some (.ref ad), none, none, none, none, none]) (F := F7) (H := H7) (ns := (badL n W x y).map fun z : Nat => (z : Int)) (evd_var rfl (by rw [← natsD_eq]; exact p5B.up (g6.trans g7).f))
      rw [List.length_map] at h
      exact h.congr fun k hk => by rw [natD_at hk]
    have hbl : (badL n W x y).length ≤ n := by
      have := List.length_filter_le (fun z => decide (W x z * W z y * W x y = -1)) (List.range n)
      rw [List.length_range] at this
      exact this
    have hcan : ms = (canon n [x, y, zz]).map fun x : Nat => (x : Int) := canon_eq (bad_three ww hxy hyn hzn hzB).1 (bad_three ww hxy hyn hzn hzB).2 e4 e5
    refine st_ret g7.fh (evd_eq (e := .bool true) (evd_inD (K := K) (evd_ring rfl (g7.h _ _ e1C) (g7.h _ _ e2C) Er.nbf hring (e3C.up g7.f)) (evd_lcI0 (K := K) (s := 11) (vs := [11]) (g := fun k => (((badL n W x y).getD k 0 : Nat) : Int)) (n := (badL n W x y).length) (fun k => natD (canon n [x, y, (badL n W x y).getD k 0])) ib (by omega) fun k F8 H8 hk f8 hh8 z8 => ?_) (by rw [hcan]; exact Shp.ok Shp.nat) (Shp.ok (k := 2) (Shp.lst fun d hd => ?_))) ?_) fun v F8 H8 g8 p8 => q v F8 H8 (gD.trans g8) p8
    · obtain ⟨b1, b2⟩ := mem_bad.mp (at_mem hk)
      obtain ⟨t1, t2⟩ := bad_three ww hxy hyn b1 b2
      exact evd_tupL (evd_sorted t1 t2 (evp_sortI (K := K) (ns := [x, y, (badL n W x y).getD k 0].map fun x : Nat => (x : Int)) ((evp_lst (eva_cons (evd_vari rfl) (eva_cons (evd_vari rfl) (eva_one (evd_vari rfl)))) (by simp)).imp fun _ _ _ h => h.pln) (by simp)))
    · obtain ⟨k, _, rfl⟩ := List.mem_map.mp hd
      exact Shp.nat
    · congr 1
      obtain ⟨k, hk, ek⟩ := List.getElem_of_mem (mem_bad.mpr ⟨hzn, hzB⟩)
      rw [List.any_eq_true]
      refine ⟨_, List.mem_map.mpr ⟨k, List.mem_range.mpr hk, rfl⟩, ?_⟩
      rw [getD_at hk, ek, hcan]
      exact SeqAt.eqv_refl _ Shp.nat.1
end
end Sg
set_option maxRecDepth 100000
set_option maxHeartbeats 4000000
/-! GE: tests whose answer is known, where the well is written; facts for law. -/
namespace Dv
open PySem PySem.Spec L2
/-- a test that may dip, its answer known -/
def EvTB (p : Addr) (tt : TT) (σ : St) (F H : Hp) (b : Bool) : Prop := ∀ F1 H1, GrW p F H F1 H1 → WS p F1 H1 → ∀ Q : Bool → Hp → Prop, (∀ F2 H2, GrW p F1 H1 F2 H2 → Q b H2) → tt σ H1 Q
section
variable {K : PySem.W.Frag} {σ : St} {F F' H H' H0 F0 : Hp} {te ta tb tx : TE} {tt tu : TT} {tr : TA} {i j : Int} {p q : Addr} {d e : PyData} {ds es : List PyData} {D : Ends} {b c : Bool} {B B1 B2 : PyData → Prop}
theorem evtb_B (h : EvW p te σ F H fun v _ _ => v = .bl b) : EvTB p (tB te) σ F H b := fun F1 H1 g ws Q q => h F1 H1 g ws _ fun v F2 H2 g2 e => ⟨b, e, q F2 H2 g2⟩
theorem evtb_test (h : EvW p te σ F H fun v _ _ => v = .bl b) : EvTB p (tTest te) σ F H b := fun F1 H1 g ws Q q => h F1 H1 g ws _ fun v F2 H2 g2 e => ⟨b, e, q F2 H2 g2⟩
theorem evtb_not (h : EvTB p tt σ F H b) : EvTB p (tNot tt) σ F H (!b) := fun F1 H1 g ws Q q => h F1 H1 g ws _ fun F2 H2 g2 => q F2 H2 g2
theorem evtb_of (h : ∀ F1 H1, GrW p F H F1 H1 → EvT tt σ F1 H1 b) : EvTB p tt σ F H b := fun F1 H1 g ws Q q => h F1 H1 g F1 H1 (Same.refl _) (Same.refl _) ws.z _ fun F2 H2 g2 => q F2 H2 (.of ws g2)
theorem evtb_and (h : EvTB p tt σ F H b) (hb : b = true → EvTB p tu σ F H c) : EvTB p (tAnd tt tu) σ F H (b && c) := fun F1 H1 g ws Q q => h F1 H1 g ws _ fun F2 H2 g2 => by
  cases b with
  | true => exact hb rfl F2 H2 (g.trans g2) (ws.up g2) Q fun F3 H3 g3 => q F3 H3 (g2.trans g3)
  | false => exact q F2 H2 g2
theorem stw_ifB {ts tu : TS} (ws : WS p F H) (h : EvTB p tt σ F H b) (h1 : b = true → ∀ F1 H1, GrW p F H F1 H1 → ts D σ H1) (h2 : b = false → ∀ F1 H1, GrW p F H F1 H1 → tu D σ H1) : tIfS tt ts tu D σ H :=
  h F H ws.refl ws _ fun F1 H1 g => by
    cases b with
    | true => exact h1 rfl F1 H1 g
    | false => exact h2 rfl F1 H1 g
theorem evaw_1 (h : EvWD K p te σ F H B) : EvAW K p (tCons te tNil) σ F H (fun ds => ∃ d, ds = [d] ∧ B d) := (evaw_cons h evaw_nil).imp fun ds ⟨d, es, e, hd, e2⟩ => ⟨d, by rw [e, e2], hd⟩
theorem evaw_2 (h : EvWD K p te σ F H B) (h1 : EvWD K p ta σ F H B1) : EvAW K p (tCons te (tCons ta tNil)) σ F H (fun ds => ∃ d d1, ds = [d, d1] ∧ B d ∧ B1 d1) := (evaw_cons h (evaw_1 h1)).imp fun ds ⟨d, es, e, hd, d1, e2, hd1⟩ => ⟨d, d1, by rw [e, e2], hd, hd1⟩
theorem evaw_3 (h : EvWD K p te σ F H B) (h1 : EvWD K p ta σ F H B1) (h2 : EvWD K p tb σ F H B2) : EvAW K p (tCons te (tCons ta (tCons tb tNil))) σ F H (fun ds => ∃ d d1 d2, ds = [d, d1, d2] ∧ B d ∧ B1 d1 ∧ B2 d2) := (evaw_cons h (evaw_2 h1 h2)).imp fun ds ⟨d, es, e, hd, d1, d2, e2, hd1, hd2⟩ => ⟨d, d1, d2, by rw [e, e2], hd, hd1, hd2⟩
/-- a comprehension whose test always says no -/
theorem evw_lcF {wi : TI} {g : TG} {n : Nat} {item : Nat → PyData} {vs : List Nat} {P : Nat → St → Hp → Prop} (hi : ∀ F1 H1, GrW p F H F1 H1 → IwD K wi σ F1 H1 n item)
    (hg : ∀ i F1 H1, i < n → GrW p F H F1 H1 → TgD K g (wipe σ vs) F1 H1 (item i) (P i)) (hw : ∀ i σ2 F1, P i σ2 F1 → wipe σ2 vs = wipe σ vs)
    (ht : ∀ i σ2 F1 H1, i < n → GrW p F H F1 H1 → WS p F1 H1 → P i σ2 F1 → EvTB p tt σ2 F1 H1 false) : EvWD K p (tLc wi g tt te vs) σ F H fun d => d = .list [] :=
  fun F1 H1 x ws Q q => hi F1 H1 x F1 H1 (Same.refl _) (Same.refl _) ws.z _ fun J F2 H2 g2 go stop yld D hD => by
    have x2 : GrW p F H F2 H2 := x.trans (.of ws g2)
    have ws2 : WS p F2 H2 := ws.up (.of ws g2)
    have hDp : D ≠ p := GrW.ne ws2.wl hD
    have wlu : ∀ {o : HO} {H' : Hp}, Wl p H' → Wl p (upd H' D o) := fun ⟨a, b, e⟩ => ⟨a, b, by rw [upd_ne (fun z => hDp z.symm)]; exact e⟩
    refine ⟨fun i m Hc => m = n - i ∧ i ≤ n ∧ ∃ Fc, GrW p F2 H2 Fc Hc ∧ Fc D = none ∧ Hc D = some (.lst []), ⟨n, rfl, Nat.zero_le _, F2, ⟨Same.refl _, fun b o _ e => by rw [upd_ne (ne_of_none e hD)]; exact e, same_mut g2.fh (g2.fh.free hD), fun _ _ e => .inl e, wlu ws2.wl⟩, g2.fh.free hD, upd_same⟩, ?_⟩
    rintro i m Hc ⟨rfl, hin, Fc, gc, nD, eD⟩
    have wsc := ws2.up gc
    by_cases hlt : i < n
    · refine .inr ⟨go i Fc Hc gc.f gc.fh hlt, fun H' => i + 1 ≤ n ∧ ∃ Fc, GrW p F2 H2 Fc H' ∧ Fc D = none ∧ H' D = some (.lst []), fun H' h => ⟨n - (i + 1), by omega, rfl, h.1, h.2⟩, fun u H' hy => ?_⟩
      obtain ⟨F3, g3, hu⟩ := yld i Fc Hc u H' gc.f gc.fh hlt hy
      have w3 := wsc.up (.of wsc g3)
      have s3 : GrW p F H F3 H' := x2.trans (gc.trans (.of wsc g3))
      refine hg i F3 H' hlt s3 F3 H' u (Same.refl _) (Same.refl _) g3.fh hu _ fun σ2 hPi => ⟨hw i σ2 F3 hPi, ?_⟩
      have e3 : H' D = some (.lst []) := g3.h _ _ eD
      have n3 : F3 D = none := g3.out eD nD
      refine ht i σ2 F3 H' hlt s3 w3 hPi F3 H' w3.refl w3 _ fun F4 H4 g4 => ?_
      have e4 : H4 D = some (.lst []) := g4.h _ _ hDp e3
      have n4 : F4 D = none := by
        cases e : F4 D with
        | none => rfl
        | some o =>
          rcases g4.nw D o e with z | z
          · rw [n3] at z; cases z
          · rw [e3] at z; cases z
      exact ⟨hlt, F4, gc.trans ((GrW.of wsc g3).trans g4), n4, e4⟩
    · have e : i = n := by omega
      subst e
      refine .inl ⟨stop Fc Hc gc.f gc.fh, q _ (upd Fc D (.lst [])) Hc ?_ ⟨_, rfl, .lst (SqL.of upd_same) .nil⟩⟩
      have G := (GrW.of ws g2).trans gc
      refine ⟨G.f.trans (same_upd nD), G.h, fun b o hb => ?_, fun b o hb => ?_, G.wl⟩
      · by_cases hbd : b = D
        · subst hbd
          rw [upd_same] at hb
          cases hb
          exact eD
        · rw [upd_ne hbd] at hb
          exact gc.fh _ _ hb
      · by_cases hbd : b = D
        · exact .inr (by rw [hbd]; exact g2.h.free hD)
        · rw [upd_ne hbd] at hb
          exact G.nw b o hb
end
end Dv
namespace Sg
open PySem PySem.Spec L2 Dv
section
variable {P : Program} {w : World} {K : PySem.W.Frag} {mg : Str → Option Value} {base : Heap} {SE IW IT NB TM fI : Addr} {fd : FuncData} {σ : L2.St} {F H : Hp} {te tc : TE} {tr : TA} {p : Addr} {E : XK}
/-- an exception of the kind k -/
def IsErr (K : PySem.W.Frag) (SE IW IT NB TM : Addr) (k : Nat) : V → Hp → Hp → Prop := fun v _ H => ∃ ad D d, v = .ref ad ∧ Ex4.StE ad D d H ∧ Err1 K SE IW IT NB TM D (decide (k = 0)) (decide (k = 1)) (decide (k = 2))
theorem evw_just {k : Nat} (hk : k < 3) (h : EvW p tc σ F H (IsErr K SE IW IT NB TM k)) : EvW p (tCall (sp_just K SE IW IT NB TM) [] E (tCons tc (tCons (tC (.int (k : Nat))) tNil))) σ F H fun v _ _ => v = .bl true :=
  fun F1 H1 g ws Q q => h F1 H1 g ws _ fun v F2 H2 g2 ⟨ad, D, d, e, hs, C⟩ => by
    subst e
    exact ⟨F2, ad, D, d, k, g2.fh, rfl, hs, C, hk, fun F' H' g3 => q _ F' H' (g2.trans (.of (ws.up g2) g3)) rfl⟩
/-- _law_caught of what is refused as a tie -/
theorem evw_badTie (Er : Errs P K mg SE IW IT NB TM fI fd) (h : EvAW K p tr σ F H fun ds => ∃ n W b c, ds = [matD n W, b, .bool c] ∧ Web n W ∧ ¬ IsTie n W b) : EvW p (tCall (sp_caught K IW IT NB) [] E tr) σ F H (IsErr K SE IW IT NB TM 1) :=
  fun F1 H1 g ws Q q => h F1 H1 g ws _ fun vs F2 H2 g2 ⟨ds, ⟨n, W, b, c, e, ww, nt⟩, hd⟩ => by
    subst e
    obtain ⟨v1, v2, v3, rfl, h1, h2, h3⟩ := DpAll.three_inv hd
    obtain rfl := h3.bl_inv
    refine ⟨F2, matD n W, b, v1, v2, c, g2.fh, rfl, h1, h2, fun d F' H' hR g3 => ?_, fun ad cls d F' H' hX g3 he => ?_⟩
    · obtain ⟨m, U, x, y, e, wu, hxy, hyn, h0, _⟩ := hR
      injection e with e1 e2
      injection e2 with e2 _
      obtain ⟨rfl, hU⟩ := mat_inj e1
      exact (nt ⟨x, y, e2, hxy, hyn, by rw [hU x y (by omega) hyn]; exact h0⟩).elim
    · obtain ⟨a', b', e, hX⟩ := hX
      injection e with e1 e2
      injection e2 with e2 _
      subst e1 e2
      rcases hX with ⟨hh, _⟩ | ⟨m, U, e1, wu, hX⟩
      · exact (hh (isWeb_mat.mpr ww)).elim
      · obtain ⟨rfl, hU⟩ := mat_inj e1
        rcases hX with ⟨_, rfl, rfl⟩ | ⟨x, y, z, e2, hxy, hyn, hz, h0, _⟩
        · exact q _ F' H' (g2.trans (.of (ws.up g2) g3)) ⟨ad, IT, none, rfl, ⟨he, fun dd hd => by cases hd⟩, Er.it1⟩
        · exact (nt ⟨x, y, e2, hxy, hyn, by rw [hU x y (by omega) hyn]; exact h0⟩).elim
/-- .. as a web -/
theorem evw_badWeb (Er : Errs P K mg SE IW IT NB TM fI fd) (h : EvAW K p tr σ F H fun ds => ∃ a b c, ds = [a, b, .bool c] ∧ ¬ IsWeb a) : EvW p (tCall (sp_caught K IW IT NB) [] E tr) σ F H (IsErr K SE IW IT NB TM 0) :=
  fun F1 H1 g ws Q q => h F1 H1 g ws _ fun vs F2 H2 g2 ⟨ds, ⟨a, b, c, e, nw⟩, hd⟩ => by
    subst e
    obtain ⟨v1, v2, v3, rfl, h1, h2, h3⟩ := DpAll.three_inv hd
    obtain rfl := h3.bl_inv
    refine ⟨F2, a, b, v1, v2, c, g2.fh, rfl, h1, h2, fun d F' H' hR g3 => ?_, fun ad cls d F' H' hX g3 he => ?_⟩
    · obtain ⟨m, U, x, y, e, wu, hxy, hyn, h0, _⟩ := hR
      injection e with e1 e2
      exact (nw (by rw [e1]; exact isWeb_mat.mpr wu)).elim
    · obtain ⟨a', b', e, hX⟩ := hX
      injection e with e1 e2
      injection e2 with e2 _
      subst e1 e2
      rcases hX with ⟨_, rfl, rfl⟩ | ⟨m, U, e1, wu, hX⟩
      · exact q _ F' H' (g2.trans (.of (ws.up g2) g3)) ⟨ad, IW, none, rfl, ⟨he, fun dd hd => by cases hd⟩, Er.iw1⟩
      · exact (nw (by rw [e1]; exact isWeb_mat.mpr wu)).elim
end
theorem abs_web {n : Nat} {W : Nat → Nat → Int} (w : Web n W) : Web n fun x y => ((W x y).natAbs : Int) := by
  refine ⟨w.lo, w.hi, fun x y hx hy => ?_, fun x y hx hy => ?_, fun x hx => ?_⟩
  · rcases w.sgn x y hx hy with e | e | e <;> rw [e] <;> decide
  · rw [w.sym x y hx hy]
  · rw [w.dia x hx]; rfl
theorem turn_web {n : Nat} {W : Nat → Nat → Int} {L : List Nat} (w : Web n W) : Web n (turnW W L) := by
  refine ⟨w.lo, w.hi, fun x y hx hy => ?_, fun x y hx hy => ?_, fun x hx => ?_⟩
  · unfold turnW
    split
    · exact w.sgn x y hx hy
    · rcases w.sgn x y hx hy with e | e | e <;> rw [e] <;> decide
  · unfold turnW
    by_cases e : decide (x ∈ L) = decide (y ∈ L)
    · rw [if_pos e, if_pos e.symm, w.sym x y hx hy]
    · rw [if_neg e, if_neg (fun z => e z.symm), w.sym x y hx hy]
  · unfold turnW
    rw [if_pos rfl]
    exact w.dia x hx
end Sg
set_option maxRecDepth 100000
set_option maxHeartbeats 8000000
/-! G29: law. -/
namespace Sg
open PySem PySem.Spec L2 Dv
section
variable {P : Program} {w : World} {K : PySem.W.Frag} {mg : Str → Option Value} {base : Heap} {SE IW IT NB TM fI : Addr} {fd : FuncData}
def sp_law (K : PySem.W.Frag) : Sp := fun vs H Q _ => ∃ (a : Addr) (ns : List Int), vs = [.ref a] ∧ ns.length ≤ 63 ∧ (∀ z ∈ ns, Builtin.Int.intBits z ≤ 1048576) ∧ SqL K H a (ns.map V.int) ∧ ∀ H', Q (.bl true) H'
theorem sc_law : FnScope ["_law_script", "_law_well_here", "_law_web_here", "_law_ties_here", "_law_turn", "_law_broken", "_law_some", "_law_many_here", "_law_longer", "_law_tie", "_law_line", "_law_sign"] ["_law_script"] (defScope (topS 67)) := ⟨rfl, rfl, rfl, by decide +kernel, rfl, by decide +kernel, by decide +kernel⟩
theorem ok_law {fl : Addr} {fdl : FuncData} (T : Txt K mg) (Er : Errs P K mg SE IW IT NB TM fI fd) (FL : Fun K "law" "law" (topS 67) fl fdl) : Ex7.FnOkG P w K mg base CX0 9 fl fdl ["_law_script"] (sp_law K) := by
  have hring : PySem.W.findIn K (.ref NB) "ring" = some none := Er.nb.noF
  have c__law_well := c_law_well (P := P) (w := w) (base := base) T
  have c__law_web := c__law_web (P := P) (w := w) (base := base) T
  have c__law_many := c__law_many (P := P) (w := w) (base := base) T
  have c__law_dip := c__law_dip (P := P) (w := w) (base := base) T
  have c__law_turned := c__law_turned (P := P) (w := w) (base := base) T
  have c__law_lot := c__law_lot (P := P) (w := w) (base := base) T
  have c__law_ties := c__law_ties (P := P) (w := w) (base := base) T
  have c__law_just := c__law_just (P := P) (w := w) (base := base) T Er
  have c__law_caught := c__law_caught (P := P) (w := w) (base := base) T Er
  have c__law_bad_tie := c__law_bad_tie (P := P) (w := w) (base := base) T
  have c__law_bad_web := c__law_bad_web (P := P) (w := w) (base := base) T
  have c__law_tie_right := c__law_tie_right (P := P) (w := w) (base := base) T Er hring
  have c_parted_tie := c_parted_tie (P := P) (w := w) (base := base) T Er
  have c_drawn := (c_drawn (P := P) (w := w) (base := base) T Er).noX
  have c_are_alike := c_are_alike (P := P) (w := w) (base := base) T Er
  refine okG0 FL sc_law (fun vs H Q E ⟨a, ns, e, _⟩ => by rw [e]; rfl) (fun cdv A outer s H vs Q E hG hr ⟨a, ns, e, hl, hbits, hS, q⟩ => ?_)
  have nd := sc_law.nd
  subst e
  refine ⟨_, (pss_cons (ps_set (i := 1) nd rfl (Or.inr rfl) (pe_cal c__law_well hr (by decide) pass0 (pa_cons (pv 0) pa_nil)))
      (pss_cons (ps_set (i := 2) nd rfl (Or.inr rfl) (pe_cal c__law_web hr (by decide) pass0 (pa_cons (pv 1) (pa_cons (pe_cal c__law_many hr (by decide) pass0 (pa_cons (pv 1) (pa_cons pe_int pa_nil))) pa_nil))))
      (pss_cons (ps_if (pt_cmpR op_eq (pe_cal c__law_dip hr (by decide) pass0 (pa_cons (pv 1) (pa_cons pe_int pa_nil))) pe_int (nomark _)) (pss_one (ps_set (i := 2) nd rfl (Or.inr rfl) (pe_cal c__law_turned hr (by decide) pass0 (pa_cons (q_tuple K T.tuple_n (pe_lc (own := [("_law_line", 10)]) rfl nd (kTup K (pv 2)) (blkOk_by (by kernel_rfl)) (fun _ _ _ _ _ => (pg_name (i := 10) nd rfl (Or.inl rfl))) (fun _ _ _ _ _ => pts_nil) (fun _ _ _ _ _ => (q_tuple K T.tuple_n (pe_lc (own := [("_law_sign", 11)]) rfl nd (kTup K (pv 10)) (blkOk_by (by kernel_rfl)) (fun _ _ _ _ _ => (pg_name (i := 11) nd rfl (Or.inl rfl))) (fun _ _ _ _ _ => pts_nil) (fun _ _ _ _ _ => (pe_callB call_abs rfl T.abs_n bt_abs (pa_cons (pv 11) pa_nil)))))))) (pa_cons (pe_cal c__law_lot hr (by decide) pass0 (pa_cons (pv 1) (pa_cons (q_len K T.len_n (pv 2)) pa_nil))) pa_nil))))) pss_nil)
      (pss_cons (ps_set (i := 3) nd rfl (Or.inr rfl) (pe_cal c__law_ties hr (by decide) pass0 (pa_cons (pv 2) pa_nil)))
      (pss_cons (ps_for PassesOwn.never rfl (pi_range1 rfl T.range_n (pa_cons pe_int pa_nil)) (pg_name (i := 4) nd rfl (Or.inl rfl)) (pss_cons (ps_if (pt_not (pt_val (pe_cal c__law_just hr (by decide) pass0 (pa_cons (pe_cal c__law_caught hr (by decide) pass0 (pa_cons (pv 2) (pa_cons (pe_cal c__law_bad_tie hr (by decide) pass0 (pa_cons (pv 1) (pa_cons (pv 2) pa_nil))) (pa_cons (pe_cmpR op_eq (pv 4) pe_int (nomark _)) pa_nil)))) (pa_cons pe_int pa_nil))))) (pss_one (ps_ret pe_bl)) pss_nil)
        (pss_cons (ps_set (i := 5) nd rfl (Or.inl rfl) (pe_cal c__law_bad_web hr (by decide) pass0 (pa_cons (pv 1) (pa_cons (pv 2) pa_nil))))
        (pss_cons (ps_if (pt_not (pt_val (pe_cal c__law_just hr (by decide) pass0 (pa_cons (pe_cal c__law_caught hr (by decide) pass0 (pa_cons (pv 5) (pa_cons (pe_cal c__law_bad_tie hr (by decide) pass0 (pa_cons (pv 1) (pa_cons (pv 2) pa_nil))) (pa_cons (pe_cmpR op_eq (pv 4) pe_int (nomark _)) pa_nil)))) (pa_cons pe_int pa_nil))))) (pss_one (ps_ret pe_bl)) pss_nil)
        (pss_one (ps_if (PW.pt (pw_and (pt_cmpR (kNeD K hr.units) (pv 3) (pe_lst pa_nil) (nomark _)) (pw_and1 (pt_not (pt_val (pe_cal c__law_just hr (by decide) pass0 (pa_cons (pe_cal c__law_caught hr (by decide) pass0 (pa_cons (pv 5) (pa_cons (pe_ix (kIxL K) (pv 3) pe_int (fun _ _ => rfl)) (pa_cons (pe_cmpR op_eq (pv 4) pe_int (nomark _)) pa_nil)))) (pa_cons pe_int pa_nil)))))))) (pss_one (ps_ret pe_bl)) pss_nil))))))
      (pss_cons (ps_if (pt_cmpR (kEqD K hr.units) (pv 3) (pe_lst pa_nil) (nomark _)) (pss_one (ps_ret pe_bl)) pss_nil)
      (pss_cons (ps_setLc (i := 6) (own := [("_law_turn", 4)]) rfl nd rfl rfl (sw_true rfl rfl rfl (by decide +kernel)) (pi_range1 rfl T.range_n (pa_cons pe_int pa_nil)) (blkOk_by (by kernel_rfl)) (fun _ _ _ _ _ => (pg_name (i := 4) nd rfl (Or.inl rfl))) (fun _ _ _ _ _ => pts_nil) (fun _ _ _ _ _ => (pe_ix (kIxL K) (pv 3) (pe_cal c__law_dip hr (by decide) pass0 (pa_cons (pv 1) (pa_cons (q_len K T.len_n (pv 3)) pa_nil))) (fun _ _ => rfl))))
      (pss_cons (ps_if (pt_cmpR (kNeD K hr.units) (pe_lc (own := [("_law_tie", 9)]) rfl nd (kLst K (pv 6)) (blkOk_by (by kernel_rfl)) (fun _ _ _ _ _ => (pg_name (i := 9) nd rfl (Or.inl rfl))) (fun _ _ _ _ _ => (pts_one (pt_not (pt_val (pe_calG c__law_tie_right hr hG (by decide) pass0 (pa_cons (pv 2) (pa_cons (pv 9) (pa_cons (pe_cmpR op_eq (pe_cal c__law_dip hr (by decide) pass0 (pa_cons (pv 1) (pa_cons pe_int pa_nil))) pe_int (nomark _)) pa_nil)))))))) (fun _ _ _ _ _ => (pv 9))) (pe_lst pa_nil) (nomark _)) (pss_one (ps_ret pe_bl)) pss_nil)
      (pss_cons (ps_if (pt_cmpR op_eq (q_len K T.len_n (pv 2)) pe_int (nomark _)) (pss_one (ps_ret pe_bl)) pss_nil)
      (pss_cons (ps_set (i := 7) nd rfl (Or.inl rfl) (q_len K T.len_n (pv 2)))
      (pss_cons (ps_set (i := 8) nd rfl (Or.inl rfl) (pe_cal c_parted_tie hr (by decide) pass0 (pa_cons (pv 2) (pa_cons (pe_ix (kIxL K) (pv 6) pe_int (fun _ _ => rfl)) pa_nil))))
      (pss_cons (ps_if (pt_cmpR (kNeD K hr.units) (pe_cal c_drawn hr (by decide) pass0 (pa_cons (pv 8) (pa_cons (pe_tup (pa_cons (pe_ix (kIxT K) (pe_ix (kIxL K) (pv 6) pe_int (fun _ _ => rfl)) pe_int (fun _ _ => rfl)) (pa_cons (pv 7) pa_nil))) pa_nil))) (pv 2) (nomark _)) (pss_one (ps_ret pe_bl)) pss_nil)
      (pss_one (ps_ret (pe_cmpR op_isBl (pe_cal c_are_alike hr (by decide) pass0 (pa_cons (pe_cal c_drawn hr (by decide) pass0 (pa_cons (pv 8) (pa_cons (pe_tup (pa_cons (pe_ix (kIxT K) (pe_ix (kIxL K) (pv 6) pe_int (fun _ _ => rfl)) pe_int (fun _ _ => rfl)) (pa_cons (pv 7) pa_nil))) pa_nil))) (pa_cons (pv 2) pa_nil))) pe_bl (nomark _)))))))))))))))), ?_⟩
  refine st_seq (st_asg (Same.refl H) (evp_callL (K := K) (eva_one (evd_var (d := .list (ns.map PyData.int)) rfl (.lst hS (DpAll.ints ns)))) ⟨ns, rfl, hl, hbits⟩) fun v F1 H1 g1 ⟨es, ⟨gr, s0, ee⟩, p, ep, hp⟩ => ?_)
  subst ee ep
  have ws : WS p F1 H1 := by
    refine ⟨g1.fh, ?_, hp.out⟩
    obtain ⟨xs, hx, hd⟩ := hp.at_
    obtain ⟨x1, x2, rfl, e1, e2⟩ := DpAll.two_inv hd
    obtain rfl := e1.int_inv
    obtain rfl := e2.int_inv
    exact ⟨gr, s0, hx⟩
  clear hp g1
  dsimp only
  refine st_seq (stw_asg ws (evw_callW (n := 1) (A := fun ds => ∃ m : Nat, ds = [.int (m : Nat)] ∧ 1 ≤ m ∧ m ≤ 10) (B := fun d => ∃ n W, d = matD n W ∧ Web n W) rfl ((evaw_1 (evw_callW (n := 1) (A := fun ds => ds = [.int 10]) (B := fun d => ∃ m : Nat, d = .int (m : Nat) ∧ 1 ≤ m ∧ m ≤ 10) rfl ((evaw_1 (evw_d (B := fun d => d = .int 10) rfl fun _ _ _ => evd_i)).imp fun ds ⟨d, e, e2⟩ => by rw [e, e2]) (fun ds h => h) fun ds d _ h => h)).imp fun ds ⟨d, e, m, em, hm⟩ => ⟨m, by rw [e, em], hm⟩) (fun ds h => h) fun ds d _ ⟨n, W, _, hw, hd⟩ => ⟨n, W, hd, hw⟩) fun v2 F2 H2 g2 ⟨dw, ⟨n, W0, ew, ww0⟩, hw0⟩ => ?_)
  subst ew
  have ws2 := ws.up g2
  have hn10 := ww0.hi
  clear ws
  dsimp only
  refine st_seq (stw_ifC (fun σ2 F3 H3 => ∃ v2 W, σ2 = [some (.ref a), some (.ref p), some v2, none, none, none, none, none, none, none, none, none] ∧ WS p F3 H3 ∧ Web n W ∧ Dp K F3 v2 (matD n W)) ws2
    (evtw_test (evw_eqI (K := K) (evw_dip (m := 3) rfl (evw_i rfl) (by decide) (by decide)) (evw_i (A := fun _ => True) trivial))) (fun F3 H3 N g3 hN => ?_) (fun F3 H3 N g3 hN => ?_) ?_)
  · have ws3 := ws2.up g3
    have hw3 := hw0.up g3.f
    refine stw_asg ws3 (evw_callD (K := K) (A := fun ds => ∃ L, ds = [matD n fun x y => ((W0 x y).natAbs : Int), natD L]) (B := fun d => ∃ U, d = matD n U ∧ Web n U) ((evaw_2 (evw_d (B := fun d => d = matD n fun x y => ((W0 x y).natAbs : Int)) rfl fun F4 H4 g4 => ?_)
      (evw_callW (n := 1) (A := fun ds => ds = [.int (n : Nat)]) (B := fun d => ∃ L, d = natD L) rfl ((evaw_1 (evw_d (B := fun d => d = .int (n : Nat)) rfl fun F4 H4 g4 => evd_lenR (evd_var rfl (hw3.up g4.f)))).imp fun ds ⟨d, e, e2⟩ => by rw [e, e2]) (fun ds h => ⟨n, h, hn10⟩) fun ds d _ ⟨m, L, _, _, hd⟩ => ⟨L, hd⟩)).imp fun ds ⟨d, d1, e, e2, L, e3⟩ => ⟨L, by rw [e, e2, e3]⟩) fun ds ⟨L, e⟩ => ⟨_, ⟨n, _, L, e, hn10, rfl⟩, _, rfl, turn_web (abs_web ww0)⟩) fun v F5 H5 g5 ⟨d, ⟨U, ed, hU⟩, pd⟩ => ?_
    · refine evd_tupL (evd_lcD0 (K := K) (s := 10) (vs := [10]) (g := fun i => rowD n W0 i) (n := n) (fun i => rowD n (fun x y => ((W0 x y).natAbs : Int)) i) (iwd_tupR (evd_var rfl (hw3.up g4.f))) (by omega) fun i v F6 H6 hi f6 hh6 z6 hv => ?_)
      exact evd_tupL (evd_lcI0 (K := K) (s := 11) (vs := [11]) (g := fun j => W0 i j) (n := n) (fun j => .int ((W0 i j).natAbs : Nat)) (iwd_tupR (f := fun j => .int (W0 i j)) (evd_var rfl hv)) (by omega) fun j F7 H7 hj f7 hh7 z7 => evd_abs (evd_vari rfl))
    · subst ed
      exact hN _ F5 H5 ⟨v, U, rfl, ws3.up g5, hU, pd⟩
  · exact hN _ F3 H3 ⟨v2, W0, rfl, ws2.up g3, ww0, hw0.up g3.f⟩
  clear ww0 hw0 ws2 g2
  rintro σ2 F3 H3 ⟨v2, W, rfl, ws3, ww, hw⟩
  refine st_seq (stw_asg ws3 (evw_d (K := K) (B := fun d => d = .list ((tiesL n W).map tieD)) rfl fun F4 H4 g4 => evd_call (eva_one (evd_var rfl (hw.up g4.f))) ⟨n, W, rfl, hn10, rfl⟩) fun v3 F4 H4 g4 ⟨d, ed, ht⟩ => ?_)
  subst ed
  have ws4 := ws3.up g4
  have hw4 := hw.up g4.f
  clear ws3 hw g4
  have htl := ties_len n W
  have htl2 : (tiesL n W).length ≤ 100 := Nat.le_trans htl (Nat.mul_le_mul hn10 hn10)
  have tmem : ∀ {t : Nat × Nat}, t ∈ tiesL n W → t.1 < t.2 ∧ t.2 < n ∧ W t.1 t.2 ≠ 0 := fun {t} h => mem_ties.mp h
  have hemp : ∀ {F5 H5 : Hp} {σ : L2.St}, Same F4 F5 → σ[3]? = some (some v3) → EvT (tTest (tOp (rNeD K) (tVar 3) (tLst tNil))) σ F5 H5 (!(tiesL n W).isEmpty) := fun f e => evt_eq (evt_test (evd_neD (K := K) (evd_var e (ht.up f)) (evd_lst (ds := []) eva_nil (by simp)) (Shp.ok Shp.ties) (Shp.ok Shp.nil1))) (by rw [eqv_nil, List.isEmpty_map])
  have hemq : ∀ {F5 H5 : Hp} {σ : L2.St}, Same F4 F5 → σ[3]? = some (some v3) → EvT (tTest (tOp (rEqD K) (tVar 3) (tLst tNil))) σ F5 H5 (tiesL n W).isEmpty := fun f e => evt_eq (evt_test (evd_eqD (K := K) (evd_var e (ht.up f)) (evd_lst (ds := []) eva_nil (by simp)) (Shp.ok Shp.ties) (Shp.ok Shp.nil1))) (by rw [eqv_nil, List.isEmpty_map])
  dsimp only
  refine st_seq (st_forI (K := K) (g := fun i => (i : Nat)) (n := (3 : Int).toNat) (fun i σ' F' H' => ∃ u4 u5, σ' = [some (.ref a), some (.ref p), some v2, some v3, u4, u5, none, none, none, none, none, none] ∧ WS p F' H' ∧ Same F4 F') ws4.z (iwd_range1 (n := 3) evd_i (by decide) (by decide)) (fun F5 H5 g5 => ⟨_, _, rfl, ws4.up (.of ws4 g5), g5.f⟩) ?_ ?_)
  · rintro i σ' F' H' F'' H'' N hi f' z' ⟨u4, u5, rfl, wsI, fI4⟩ g' hN
    have ws5 := wsI.up (.of wsI g')
    have f5 := fI4.trans g'.f
    clear wsI fI4
    refine st_seq (stw_ifB ws5 (evtb_not (evtb_B (evw_just (K := K) (k := 1) (by decide) (evw_badTie Er ((evaw_3 (evw_d (B := fun d => d = matD n W) rfl fun F6 H6 g6 => evd_var rfl (hw4.up (f5.trans g6.f)))
      (evw_callW (n := 1) (A := fun ds => ds = [matD n W]) (B := fun d => ¬ IsTie n W d) rfl ((evaw_1 (evw_d (B := fun d => d = matD n W) rfl fun F6 H6 g6 => evd_var rfl (hw4.up (f5.trans g6.f)))).imp fun ds ⟨d, e, e2⟩ => by rw [e, e2]) (fun ds h => ⟨n, W, h, ww⟩) fun ds d hds ⟨m, U, e, hno⟩ => ?_)
      (evw_d (B := fun d => ∃ c, d = .bool c) ⟨_, rfl⟩ fun F6 H6 g6 => evd_eqI (evd_vari (i := (i : Nat)) rfl) evd_i)).imp fun ds ⟨d, d1, d2, e, e1, e2, c, e3⟩ => ⟨n, W, d1, c, by rw [e, e1, e3], ww, e2⟩))))) (fun hb => by cases hb) fun _ F6 H6 g6 => ?_)
    · rw [hds] at e
      injection e with e _
      obtain ⟨rfl, hU⟩ := mat_inj e
      rintro ⟨x, y, e1, hxy, hyn, h0⟩
      exact hno ⟨x, y, e1, hxy, hyn, by rw [← hU x y (by omega) hyn]; exact h0⟩
    have ws6 := ws5.up g6
    have f6 := f5.trans g6.f
    dsimp only
    refine st_seq (stw_asg ws6 (evw_callW (n := 1) (A := fun ds => ds = [matD n W]) (B := fun d => ¬ IsWeb d) rfl ((evaw_1 (evw_d (B := fun d => d = matD n W) rfl fun F7 H7 g7 => evd_var rfl (hw4.up (f6.trans g7.f)))).imp fun ds ⟨d, e, e2⟩ => by rw [e, e2]) (fun ds h => ⟨n, W, h, ww⟩) fun ds d _ hno => hno) fun v5 F7 H7 g7 ⟨db, hdb, pb⟩ => ?_)
    have ws7 := ws6.up g7
    have f7 := f6.trans g7.f
    dsimp only
    refine st_seq (stw_ifB ws7 (evtb_not (evtb_B (evw_just (K := K) (k := 0) (by decide) (evw_badWeb Er ((evaw_3 (evw_d (B := fun d => d = db) rfl fun F8 H8 g8 => evd_var rfl (pb.up g8.f))
      (evw_callW (n := 1) (A := fun ds => ds = [matD n W]) (B := fun _ => True) rfl ((evaw_1 (evw_d (B := fun d => d = matD n W) rfl fun F8 H8 g8 => evd_var rfl (hw4.up (f7.trans g8.f)))).imp fun ds ⟨d, e, e2⟩ => by rw [e, e2]) (fun ds h => ⟨n, W, h, ww⟩) fun ds d hds _ => trivial)
      (evw_d (B := fun d => ∃ c, d = .bool c) ⟨_, rfl⟩ fun F8 H8 g8 => evd_eqI (evd_vari (i := (i : Nat)) rfl) evd_i)).imp fun ds ⟨d, d1, d2, e, e1, _, c, e3⟩ => ⟨db, d1, c, by rw [e, e1, e3], hdb⟩))))) (fun hb => by cases hb) fun _ F8 H8 g8 => ?_)
    have ws8 := ws7.up g8
    have f8 := f7.trans g8.f
    have pb8 := pb.up g8.f
    by_cases hte : tiesL n W = []
    · refine stw_ifB ws8 (b := false) (fun F9 H9 g9 ws9 Q' q' => (evtb_and (b := !(tiesL n W).isEmpty) (c := false) (evtb_of fun F9 H9 g9 => hemp (f8.trans g9.f) rfl) fun hb => by rw [hte] at hb; cases hb) F9 H9 g9 ws9 Q' fun F10 H10 g10 => ?_) (fun hb => by cases hb) fun _ F9 H9 g9 => ?_
      · rw [Bool.and_false]; exact q' F10 H10 g10
      · exact hN _ F9 H9 (g6.f.trans (g7.f.trans (g8.f.trans g9.f))) (ws8.up g9).z ⟨_, _, rfl, ws8.up g9, f8.trans g9.f⟩
    · obtain ⟨t0, tr0, et0⟩ : ∃ t0 r, tiesL n W = t0 :: r := by
        cases h : tiesL n W with
        | nil => exact (hte h).elim
        | cons t r => exact ⟨t, r, rfl⟩
      refine stw_ifB ws8 (b := (!(tiesL n W).isEmpty) && false) (evtb_and (evtb_of fun F9 H9 g9 => hemp (f8.trans g9.f) rfl) fun hb => evtb_not (b := true) (evtb_B (evw_just (K := K) (k := 0) (by decide) (evw_badWeb Er ((evaw_3 (evw_d (B := fun d => d = db) rfl fun F9 H9 g9 => evd_var rfl (pb8.up g9.f))
        (evw_d (B := fun _ => True) trivial fun F9 H9 g9 => evd_ixL (n := 0) (d := tieD t0) (evd_var rfl (ht.up (f8.trans g9.f))) evd_i (by rw [et0]; rfl))
        (evw_d (B := fun d => ∃ c, d = .bool c) ⟨_, rfl⟩ fun F9 H9 g9 => evd_eqI (evd_vari (i := (i : Nat)) rfl) evd_i)).imp fun ds ⟨d, d1, d2, e, e1, _, c, e3⟩ => ⟨db, d1, c, by rw [e, e1, e3], hdb⟩))))) (fun hb => by rw [Bool.and_false] at hb; cases hb) fun _ F9 H9 g9 => ?_
      exact hN _ F9 H9 (g6.f.trans (g7.f.trans (g8.f.trans g9.f))) (ws8.up g9).z ⟨_, _, rfl, ws8.up g9, f8.trans g9.f⟩
  rintro σ' F5 H5 f5' z5 ⟨u4, u5, rfl, ws5, f5⟩
  clear f5' z5 ws4
  refine st_seq (st_if ws5.z (hemq f5 rfl) (fun hb F6 H6 g6 => ?_) fun hb F6 H6 g6 => ?_)
  · exact st_ret g6.fh (evv_c (v := .bl true)) fun v F7 H7 g7 e => by subst e; exact q H7
  have ws6 := ws5.up (.of ws5 g6)
  have f6 := f5.trans g6.f
  have hpos : 0 < (tiesL n W).length := by
    cases h : tiesL n W with
    | nil => rw [h] at hb; cases hb
    | cons t r => simp
  clear ws5 f5
  dsimp only
  refine st_seq (stw_asg ws6 (evw_lc (K := K) (tt := tYes) (vs := [4]) (n := (4 : Int).toNat) (P := fun i σ2 _ => σ2 = (wipe [some (.ref a), some (.ref p), some v2, some v3, u4, u5, none, none, none, none, none, none] [4]).set 4 (some (.int (i : Nat)))) (fun i ds => ds.length = i ∧ ∀ d ∈ ds, ∃ t ∈ tiesL n W, d = tieD t) ⟨rfl, fun d hd => by cases hd⟩ (fun F7 H7 g7 => iwd_range1 (n := 4) evd_i (by decide) (by decide)) (by decide) (fun i ds h => Nat.le_of_eq h.1)
    (fun i F7 H7 hi g7 => tgd_int) (fun i σ2 F7 h => by rw [h]; exact wipe_set (by simp)) (fun i σ2 F7 F8 h _ => h) (fun i σ2 F7 H7 ds hi g7 ws7 h hI Q' q' => q' true F7 H7 ws7.refl fun h => by cases h) fun i σ2 F7 H7 ds hi g7 h hI => ?_) fun v6 F7 H7 g7 ⟨d6, ⟨ds, ed6, hlen, hds⟩, p6⟩ => ?_)
  · subst h
    refine EvW.imp (evw_pick (K := K) (n := 1) (k := 3) rfl rfl (ht.up (f6.trans g7.f)) (by rw [List.length_map]; exact hpos) (by rw [List.length_map]; omega)) fun v F8 H8 ⟨d, hd, pd⟩ => ⟨d, ⟨by rw [List.length_append, hI.1]; rfl, fun e he => ?_⟩, pd⟩
    rcases List.mem_append.mp he with h | h
    · exact hI.2 e h
    · rw [List.mem_singleton] at h
      subst h
      obtain ⟨t, ht, rfl⟩ := List.mem_map.mp hd
      exact ⟨t, ht, rfl⟩
  subst ed6
  have ws7 := ws6.up g7
  have f7 := f6.trans g7.f
  clear ws6
  have hlen4 : ds.length = 4 := hlen
  dsimp only
  refine st_seq (stw_ifB ws7 (b := false) (evtb_test (EvW.imp (evw_op (K := K) (B3 := fun d => d = .bool false) (evw_lcF (K := K) (vs := [9]) (P := fun i σ2 F' => ∃ x, σ2 = (wipe [some (.ref a), some (.ref p), some v2, some v3, u4, u5, some v6, none, none, none, none, none] [9]).set 9 (some x) ∧ Dp K F' x (ds.getD i .none)) (fun F8 H8 g8 => iwd_lst (evd_var rfl (p6.up g8.f))) (fun i F8 H8 hi g8 => tgd_name) (fun i σ2 F8 ⟨x, h, _⟩ => by rw [h]; exact wipe_set (by simp)) fun i σ2 F8 H8 hi g8 ws8 ⟨x, h, px⟩ => ?_) (evw_d (B := fun d => d = .list []) rfl fun _ _ _ => evd_lst (ds := []) eva_nil (by simp)) fun d e u v F8 H8 f8 hd he pu pv => ?_) fun v F8 H8 ⟨d, hd, pd⟩ => by subst hd; exact pd.bl_inv)) (fun hb => by cases hb) fun _ F8 H8 g8 => ?_)
  · subst h
    obtain ⟨t, htm, et⟩ := hds (ds.getD i .none) (getD_mem hi)
    rw [et] at px
    obtain ⟨t1, t2, t3⟩ := tmem htm
    refine evtb_not (b := true) (evtb_B (EvW.imp (evw_callD (K := K) (A := fun ds => ∃ c, ds = [matD n W, tieD t, .bool c]) (B := fun d => d = .bool true) ((evaw_3 (evw_d (B := fun d => d = matD n W) rfl fun F9 H9 g9 => evd_var rfl (hw4.up ((f7.trans g8.f).trans g9.f))) (evw_d (B := fun d => d = tieD t) rfl fun F9 H9 g9 => evd_var rfl (px.up g9.f)) (evw_eqI (K := K) (evw_dip (m := 2) rfl (evw_i rfl) (by decide) (by decide)) (evw_i (A := fun _ => True) trivial))).imp fun ds ⟨d, d1, d2, e, e1, e2, c, e3⟩ => ⟨c, by rw [e, e1, e2, e3]⟩) fun ds ⟨c, e⟩ => ⟨_, ⟨n, W, t.1, t.2, c, e, ww, t1, t2, t3, rfl⟩, rfl⟩) fun v F9 H9 ⟨d, hd, pd⟩ => by subst hd; exact pd.bl_inv))
  · subst hd he
    refine ⟨_, rfl, evd_eq (evd_neD (K := K) (evd_c pu) (evd_c pv) (Shp.ok Shp.nil1) (Shp.ok Shp.nil1)) ?_⟩
    rw [eqv_nil]; rfl
  have ws8 := ws7.up g8
  have f8 := f7.trans g8.f
  have p68 := p6.up g8.f
  have hw8 := hw4.up f8
  have z8 := ws8.z
  clear ws7 p6 ws8
  refine st_seq (st_if z8 (evt_test (evd_eqI (K := K) (evd_lenR (evd_var rfl hw8)) evd_i)) (fun hb F9 H9 g9 => ?_) fun hb F9 H9 g9 => ?_)
  · exact st_ret g9.fh (evv_c (v := .bl true)) fun v F7 H7 g7 e => by subst e; exact q H7
  have hn9 : n ≤ 9 := by have := of_decide_eq_false hb; omega
  obtain ⟨t, hds0, htm⟩ : ∃ t, ds[0]? = some (tieD t) ∧ t ∈ tiesL n W := by
    obtain ⟨t, ht, e⟩ := hds ds[0] (List.getElem_mem _)
    exact ⟨t, by rw [List.getElem?_eq_getElem (by omega), e], ht⟩
  obtain ⟨x, y⟩ := t
  obtain ⟨t1, t2, t3⟩ := tmem htm
  dsimp only at t1 t2 t3
  have hxn : x < n := by omega
  have hw9 := hw8.up g9.f
  have p69 := p68.up g9.f
  refine st_seq (st_asg g9.fh (evd_lenR (K := K) (evd_var rfl hw9)) fun v7 F10 H10 g10 p7 => ?_)
  obtain rfl := p7.int_inv
  have hw10 := hw9.up g10.f
  have p610 := p69.up g10.f
  dsimp only
  have s0 : ∀ {F11 H11 : Hp} {σ : L2.St}, Same F10 F11 → σ[6]? = some (some v6) → EvD K (tOp (rIxL K) (tVar 6) (tC (.int 0))) σ F11 H11 (tieD (x, y)) := fun f e => evd_ixL (n := 0) (evd_var e (p610.up f)) evd_i hds0
  refine st_seq (st_asg g10.fh (evd_call (K := K) (d := matD (n + 1) (prtU n W x y)) (eva_cons (evd_var rfl hw10) (eva_one (s0 (Same.refl _) rfl))) ⟨n, W, x, y, rfl, ww, hn9, t1, t2, t3, rfl⟩) fun v8 F11 H11 g11 p8 => ?_)
  have wp := prt_web ww hn9 t1 t2
  have noX : ∀ {t : Nat}, (t = x ∨ t = y) → ∀ cls d F' H', ¬ X_drawn K IW IT NB [matD (n + 1) (prtU n W x y), tieD (t, n)] cls d F' H' := fun {t} ht cls d F' H' hX => by
    obtain ⟨_, d2, d3⟩ := drawn_prt ww hn9 t1 t2 t3 ht
    obtain ⟨z, hz, hB, _⟩ := X_bad wp (by omega) (by omega) d2 hX
    exact d3 z hz hB
  have only : ∀ {t : Nat}, (t = x ∨ t = y) → ∀ e, R_drawn [matD (n + 1) (prtU n W x y), tieD (t, n)] e → e = matD n W := fun {t} ht e h => by
    rw [drawn_only h, (drawn_prt ww hn9 t1 t2 t3 ht).1]
  dsimp only
  have dr : ∀ {F12 H12 : Hp} {σ : L2.St} {k : Nat} {t : Nat}, (t = x ∨ t = y) → (k = 0 ∧ t = x ∨ k = 1 ∧ t = y) → Same F11 F12 → σ[6]? = some (some v6) → σ[7]? = some (some (.int (n : Nat))) → σ[8]? = some (some v8) →
      EvD K (tCall (spE0 (spE K Pre2 R_drawn (X_drawn K IW IT NB))) [] E0 (tCons (tVar 8) (tCons (tTup (tCons (tOp (rIxT K) (tOp (rIxL K) (tVar 6) (tC (.int 0))) (tC (.int (k : Nat)))) (tCons (tVar 7) tNil))) tNil))) σ F12 H12 (matD n W) := fun {F12 H12 σ k t} ht hk f e6 e7 e8 =>
    evd_callE0 (eva_cons (evd_var e8 (p8.up f)) (eva_one (evd_tup (ds := [.int (t : Nat), .int (n : Nat)]) (eva_cons (evd_ixT (n := k) (s0 (g11.f.trans f) e6) evd_i (by rcases hk with ⟨rfl, rfl⟩ | ⟨rfl, rfl⟩ <;> rfl)) (eva_one (evd_vari e7))) (by simp)))) ⟨_, _, rfl⟩ (noX ht) (only ht)
  refine st_seq (st_if g11.fh (b := false) (evt_eq (evt_test (evd_neD (K := K) (dr (k := 0) (t := x) (.inl rfl) (.inl ⟨rfl, rfl⟩) (Same.refl _) rfl rfl rfl) (evd_var rfl (hw10.up g11.f)) (Shp.ok Shp.mat) (Shp.ok Shp.mat))) (by rw [SeqAt.eqv_refl _ Shp.mat.1]; rfl)) (fun hb => by cases hb) fun _ F12 H12 g12 => ?_)
  exact st_ret g12.fh (evv_of_bl (K := K) (b := true) (evd_eq (evd_isB (K := K) (b := true) (c := true) (evd_call (eva_cons (dr (k := 1) (t := y) (.inr rfl) (.inr ⟨rfl, rfl⟩) g12.f rfl rfl rfl) (eva_one (evd_var rfl (hw10.up (g11.trans g12).f)))) ⟨n, W, rfl, ww, rfl⟩) evd_b) rfl)) fun v F13 H13 g13 e => by subst e; exact q H13
end
end Sg
set_option maxRecDepth 100000
set_option maxHeartbeats 4000000
/-! J1: how the parts of the text are gathered. -/
namespace Sg
open PySem PySem.Spec L2 Dv
open PyProof.Rows
def BindOk (x : Str) (st : Stmt) (ps : List Str) : Prop := ∀ (kV doc pm : Value) (an : Option Addr) (cdv ct : Value) (us : List Value), us.length = ps.length → bindArgs (PySem.W.fnOf x x (defArgs st) (defBody st) (defScope st) .none kV doc pm an cdv ct) ⟨us, []⟩ = pure (ps.zip us)
section
variable {K : PySem.W.Frag} {h : Heap} {mg : Str → Option Value} {x : Str} {st : Stmt} {ps : List Str} {f : Addr} {oc kV doc pm cdv ct : Value} {od an : Option Addr} {osl : Array (Option Value)}
theorem def1_mk (X : K.In h) (G : h.Ns mainGlobals mg) (hb : BindOk x st ps) (hd : (x == "drawn") = false) (a : PySem.W.nsIn K mainGlobals x = some (some (.ref f)))
    (l : K.lookup f = some ⟨oc, od, .func (PySem.W.fnOf x x (defArgs st) (defBody st) (defScope st) .none kV doc pm an cdv ct), osl⟩) (c : PySem.W.codeIn K cdv x = true) (k : PySem.W.keepIn K (.ref f) = true) : Def1 K mg x st ps :=
  ⟨f, _, fun_mk l c k, PySem.W.mg_of X G a, (fun_mk l c k).binds hb, fun e => by rw [e] at hd; cases hd⟩
end
theorem bo_is_integer : BindOk "is_integer" (topS 9) ["value"] := fun _ _ _ _ _ _ us hl => match us, hl with | [_], _ => rfl
theorem bo_is_between : BindOk "is_between" (topS 10) ["low", "value", "high"] := fun _ _ _ _ _ _ us hl => match us, hl with | [_, _, _], _ => rfl
theorem bo_is_tuple_of : BindOk "is_tuple_of" (topS 11) ["many", "value"] := fun _ _ _ _ _ _ us hl => match us, hl with | [_, _], _ => rfl
theorem bo_is_lot_of : BindOk "is_lot_of" (topS 12) ["many", "value"] := fun _ _ _ _ _ _ us hl => match us, hl with | [_, _], _ => rfl
theorem bo_check_lot : BindOk "check_lot" (topS 13) ["many", "value"] := fun _ _ _ _ _ _ us hl => match us, hl with | [_, _], _ => rfl
theorem bo_others_of : BindOk "others_of" (topS 14) ["many", "lot"] := fun _ _ _ _ _ _ us hl => match us, hl with | [_, _], _ => rfl
theorem bo_is_web : BindOk "is_web" (topS 16) ["value"] := fun _ _ _ _ _ _ us hl => match us, hl with | [_], _ => rfl
theorem bo_check_web : BindOk "check_web" (topS 17) ["value"] := fun _ _ _ _ _ _ us hl => match us, hl with | [_], _ => rfl
theorem bo_tie_between : BindOk "tie_between" (topS 18) ["x", "y"] := fun _ _ _ _ _ _ us hl => match us, hl with | [_, _], _ => rfl
theorem bo_ties_of : BindOk "ties_of" (topS 19) ["web"] := fun _ _ _ _ _ _ us hl => match us, hl with | [_], _ => rfl
theorem bo_signs_of : BindOk "signs_of" (topS 20) ["web"] := fun _ _ _ _ _ _ us hl => match us, hl with | [_], _ => rfl
theorem bo_web_by : BindOk "web_by" (topS 21) ["many", "signs"] := fun _ _ _ _ _ _ us hl => match us, hl with | [_, _], _ => rfl
theorem bo_is_tie : BindOk "is_tie" (topS 22) ["web", "value"] := fun _ _ _ _ _ _ us hl => match us, hl with | [_, _], _ => rfl
theorem bo_check_tie : BindOk "check_tie" (topS 23) ["web", "value"] := fun _ _ _ _ _ _ us hl => match us, hl with | [_, _], _ => rfl
theorem bo_turned_web : BindOk "turned_web" (topS 24) ["web", "lot"] := fun _ _ _ _ _ _ us hl => match us, hl with | [_, _], _ => rfl
theorem bo_piece_with : BindOk "piece_with" (topS 25) ["web", "places", "place"] := fun _ _ _ _ _ _ us hl => match us, hl with | [_, _, _], _ => rfl
theorem bo_pieces_among : BindOk "pieces_among" (topS 26) ["web", "places"] := fun _ _ _ _ _ _ us hl => match us, hl with | [_, _], _ => rfl
theorem bo_pieces_of : BindOk "pieces_of" (topS 27) ["web"] := fun _ _ _ _ _ _ us hl => match us, hl with | [_], _ => rfl
theorem bo_inner_web : BindOk "inner_web" (topS 28) ["web", "lot"] := fun _ _ _ _ _ _ us hl => match us, hl with | [_, _], _ => rfl
theorem bo_ring_by : BindOk "ring_by" (topS 29) ["row"] := fun _ _ _ _ _ _ us hl => match us, hl with | [_], _ => rfl
theorem bo_check_room : BindOk "check_room" (topS 31) ["many"] := fun _ _ _ _ _ _ us hl => match us, hl with | [_], _ => rfl
theorem bo_parted_tie : BindOk "parted_tie" (topS 32) ["web", "tie"] := fun _ _ _ _ _ _ us hl => match us, hl with | [_, _], _ => rfl
theorem bo_drawn : BindOk "drawn" (topS 33) ["web", "tie"] := fun _ _ _ _ _ _ us hl => match us, hl with | [_, _], _ => rfl
theorem bo_way_up : BindOk "way_up" (topS 35) ["parents", "place"] := fun _ _ _ _ _ _ us hl => match us, hl with | [_, _], _ => rfl
theorem bo_ring_through : BindOk "ring_through" (topS 36) ["parents", "x", "y"] := fun _ _ _ _ _ _ us hl => match us, hl with | [_, _, _], _ => rfl
theorem bo_walked : BindOk "walked" (topS 37) ["web"] := fun _ _ _ _ _ _ us hl => match us, hl with | [_], _ => rfl
theorem bo_balance_of : BindOk "balance_of" (topS 38) ["web"] := fun _ _ _ _ _ _ us hl => match us, hl with | [_], _ => rfl
theorem bo_some_bad_ring : BindOk "some_bad_ring" (topS 39) ["web"] := fun _ _ _ _ _ _ us hl => match us, hl with | [_], _ => rfl
theorem bo_camp_of : BindOk "camp_of" (topS 40) ["web"] := fun _ _ _ _ _ _ us hl => match us, hl with | [_], _ => rfl
theorem bo_is_balanced : BindOk "is_balanced" (topS 41) ["web"] := fun _ _ _ _ _ _ us hl => match us, hl with | [_], _ => rfl
theorem bo_is_camp_of : BindOk "is_camp_of" (topS 42) ["web", "lot"] := fun _ _ _ _ _ _ us hl => match us, hl with | [_, _], _ => rfl
theorem bo_is_camp : BindOk "is_camp" (topS 43) ["web", "lot"] := fun _ _ _ _ _ _ us hl => match us, hl with | [_, _], _ => rfl
theorem bo_camps_of : BindOk "camps_of" (topS 44) ["web"] := fun _ _ _ _ _ _ us hl => match us, hl with | [_], _ => rfl
theorem bo_camps : BindOk "camps" (topS 45) ["web"] := fun _ _ _ _ _ _ us hl => match us, hl with | [_], _ => rfl
theorem bo_has_same_ties : BindOk "has_same_ties" (topS 47) ["web", "other_web"] := fun _ _ _ _ _ _ us hl => match us, hl with | [_, _], _ => rfl
theorem bo_product_of : BindOk "product_of" (topS 48) ["web", "other_web"] := fun _ _ _ _ _ _ us hl => match us, hl with | [_, _], _ => rfl
theorem bo_alike_of : BindOk "alike_of" (topS 49) ["web", "other_web"] := fun _ _ _ _ _ _ us hl => match us, hl with | [_, _], _ => rfl
theorem bo_are_alike : BindOk "are_alike" (topS 50) ["web", "other_web"] := fun _ _ _ _ _ _ us hl => match us, hl with | [_, _], _ => rfl
theorem bo_law_well : BindOk "_law_well" (topS 52) ["_law_script"] := fun _ _ _ _ _ _ us hl => match us, hl with | [_], _ => rfl
theorem bo_law_dip : BindOk "_law_dip" (topS 53) ["_law_well_here", "_law_many_here"] := fun _ _ _ _ _ _ us hl => match us, hl with | [_, _], _ => rfl
theorem bo_law_many : BindOk "_law_many" (topS 54) ["_law_well_here", "_law_most"] := fun _ _ _ _ _ _ us hl => match us, hl with | [_, _], _ => rfl
theorem bo_law_web : BindOk "_law_web" (topS 55) ["_law_well_here", "_law_many_here"] := fun _ _ _ _ _ _ us hl => match us, hl with | [_, _], _ => rfl
theorem bo_law_number : BindOk "_law_number" (topS 56) ["_law_value"] := fun _ _ _ _ _ _ us hl => match us, hl with | [_], _ => rfl
theorem bo_law_lot : BindOk "_law_lot" (topS 57) ["_law_well_here", "_law_many_here"] := fun _ _ _ _ _ _ us hl => match us, hl with | [_, _], _ => rfl
theorem bo_law_turned : BindOk "_law_turned" (topS 58) ["_law_web_here", "_law_lot_here"] := fun _ _ _ _ _ _ us hl => match us, hl with | [_, _], _ => rfl
theorem bo_law_ties : BindOk "_law_ties" (topS 59) ["_law_web_here"] := fun _ _ _ _ _ _ us hl => match us, hl with | [_], _ => rfl
theorem bo_law_sides : BindOk "_law_sides" (topS 60) ["_law_web_here"] := fun _ _ _ _ _ _ us hl => match us, hl with | [_], _ => rfl
theorem bo_law_bad_web : BindOk "_law_bad_web" (topS 61) ["_law_well_here", "_law_web_here"] := fun _ _ _ _ _ _ us hl => match us, hl with | [_, _], _ => rfl
theorem bo_law_just : BindOk "_law_just" (topS 62) ["_law_caught_here", "_law_kind"] := fun _ _ _ _ _ _ us hl => match us, hl with | [_, _], _ => rfl
theorem bo_law_caught : BindOk "_law_caught" (topS 63) ["_law_web_here", "_law_tie", "_law_named"] := fun _ _ _ _ _ _ us hl => match us, hl with | [_, _, _], _ => rfl
theorem bo_law_due : BindOk "_law_due" (topS 64) ["_law_web_here", "_law_tie"] := fun _ _ _ _ _ _ us hl => match us, hl with | [_, _], _ => rfl
theorem bo_law_tie_right : BindOk "_law_tie_right" (topS 65) ["_law_web_here", "_law_tie", "_law_named"] := fun _ _ _ _ _ _ us hl => match us, hl with | [_, _, _], _ => rfl
theorem bo_law_bad_tie : BindOk "_law_bad_tie" (topS 66) ["_law_well_here", "_law_web_here"] := fun _ _ _ _ _ _ us hl => match us, hl with | [_, _], _ => rfl
theorem bo_law : BindOk "law" (topS 67) ["_law_script"] := fun _ _ _ _ _ _ us hl => match us, hl with | [_], _ => rfl
section
variable {K : PySem.W.Frag} {h : Heap} {mg : Str → Option Value} {f : Addr} {oc kV doc pm cdv ct : Value} {od an : Option Addr} {osl : Array (Option Value)}
theorem kb_drawn : KBinds K (PySem.W.fnOf "drawn" "drawn" (defArgs (topS 33)) (defBody (topS 33)) (defScope (topS 33)) .none kV doc pm an cdv ct) ["web", "tie"] (["web", "tie"] : List Str).reverse (fun us ws => us ++ ws.reverse) fun vs zs => vs ++ zs.reverse where
  to s us ws hK hl := by
    match us, ws, hl with
    | [_, _], [], _ => exact .of_eq rfl
    | [_], [_], _ => exact .of_eq rfl
    | [], [_, _], _ => exact .of_eq rfl
    | [], [_], hl => simp at hl
    | [], [], hl => simp at hl
    | [_], [], hl => simp at hl
    | [], _ :: _ :: _ :: _, hl => simp at hl
    | [_], _ :: _ :: _, hl => simp at hl
    | [_, _], _ :: _, hl => simp at hl
    | _ :: _ :: _ :: _, _, hl => simp at hl
  rel h1 h2 := h1.append h2.reverse
theorem def1_drawn (X : K.In h) (G : h.Ns mainGlobals mg) (a : PySem.W.nsIn K mainGlobals "drawn" = some (some (.ref f)))
    (l : K.lookup f = some ⟨oc, od, .func (PySem.W.fnOf "drawn" "drawn" (defArgs (topS 33)) (defBody (topS 33)) (defScope (topS 33)) .none kV doc pm an cdv ct), osl⟩) (c : PySem.W.codeIn K cdv "drawn" = true) (k : PySem.W.keepIn K (.ref f) = true) : Def1 K mg "drawn" (topS 33) ["web", "tie"] :=
  ⟨f, _, fun_mk l c k, PySem.W.mg_of X G a, (fun_mk l c k).binds bo_drawn, fun _ => kb_drawn⟩
end
section
variable {P : Program} {K : PySem.W.Frag} {h : Heap} {mg : Str → Option Value} {SE IW IT NB TM fI C : Addr} {x : Str}
/-- what is the same for all classes -/
structure KxA (K : PySem.W.Frag) : Prop where
  hn : PySem.W.specialIn K (.builtin "object.__class__") "__get__" = some (some (.builtin "getset_descriptor.__get__"))
  ht : PySem.W.takesIn K (.builtin "object.__class__") = some true
theorem kx_mk (A : KxA K) (hc : (PySem.W.clsIn K C).isSome = true) (hg : PySem.W.findIn K (.ref C) "__getattribute__" = some (some (.builtin "BaseException.__getattribute__"))) (hk : PySem.W.findIn K (.ref C) "__getattr__" = some none)
    (hs : PySem.W.subIn K (.ref C) (.type "BaseException") = some true) (ha : PySem.W.findIn K (.ref C) "__class__" = some (some (.builtin "object.__class__"))) (hm : PySem.W.mroIn K C (.type "object") = some true) : Ex4.KxC K C := ⟨hc, hg, hk, hs, ha, A.hn, A.ht, hm⟩
theorem em_mk (X : K.In h) (G : h.Ns mainGlobals mg) (a : PySem.W.nsIn K mainGlobals x = some (some (.ref C))) (q : PySem.W.excIn K C veL "ValueError.__new__" = true) (kp : PySem.W.keepIn K (.ref C) = true) (r1 : PySem.W.subIn K (.ref C) (.type "BaseException") = some true) (r2 : PySem.W.typeIn K (.ref C) = some (.type "type")) : ErrM K mg x C := ⟨PySem.W.mg_of X G a, q, kp, r1, r2⟩
theorem nb_mk {nm q : Str} {N : Addr} {bs bm : List Value} {sn : List Str} {sub : List Value} {ab : Bool} {col : Option Bool} {dd : Option Addr} {k0 k1 k2 k3 k5 : Option Value} {qual : Str} {params : Arguments} {a1 a2 : Arg} {dV kV doc pm ct oc : Value} {an od : Option Addr} {osl : Array (Option Value)} {cda cc : Addr}
    {ccl : Value} {cdd : Option Addr} {vs : Array Value} {ccs : Array (Option Value)} {file : Str} {tf : Tok} {cl : Value} {cld : Option Addr} {csl : Array (Option Value)}
    (xL : K.lookup NB = some (excClassObj nm q NB N bs bm true sn sub ab col dd k0 k1 k2 k3 k5 "ValueError.__new__")) (bmE : PySem.HandSPX.refsVE bm = true) (sa : PySem.W.findIn K (.ref NB) "__setattr__" = some (some (.builtin "object.__setattr__"))) (exC : PySem.W.subIn K (.ref NB) (.type "BaseException") = some true) (tyC : PySem.W.typeIn K (.ref NB) = some (.type "type")) (kC : PySem.W.keepIn K (.ref NB) = true)
    (iC : PySem.W.findIn K (.ref NB) "__init__" = some (some (.ref fI))) (tI : PySem.W.typeIn K (.ref fI) = some (.type "function"))
    (lI : K.lookup fI = some ⟨oc, od, .func (PySem.W.ksFn "__init__" qual params Ex3.nbBody Ex3.nbScope dV kV doc pm an (.ref cda) ct cc), osl⟩) (cI : PySem.W.codeIn K (.ref cda) qual = true) (hpar : params.posonlyargs ++ params.args = [a1, a2]) (ha1 : a1.arg = "self")
    (hcda : K.lookup cda = some ⟨ccl, cdd, .fields vs, ccs⟩) (hvs : vs[2]? = some (.str file tf)) (hfile : ((P.main.file : Str) == file) = true) (hcc : K.lookup cc = some ⟨cl, cld, .cell (some (.ref NB)), csl⟩)
    (hb : ∀ us : List Value, us.length = (["self", "ring"] : List Str).length → bindArgs (PySem.W.ksFn "__init__" qual params Ex3.nbBody Ex3.nbScope dV kV doc pm an (.ref cda) ct cc) ⟨us, []⟩ = pure ((["self", "ring"] : List Str).zip us))
    (self : PySem.W.mroIn K NB (.ref NB) = some true) (sup : PySem.W.ks_superIn K NB NB "__init__" = some (some (.builtin "ValueError.__init__"))) (isV : PySem.W.subIn K (.ref NB) (.type "ValueError") = some true) (opq : PySem.W.nsIn K PySem.cStatics "thirdparty.any" = some none) (noF : PySem.W.findIn K (.ref NB) "ring" = some none)
    (top : (P.main.scope.names.lookup ("super" : Str)).isSome = false) : ∃ fd, Ex3.NbC K P NB fI fd :=
  ⟨_, ⟨⟨nm, q, N, bs, bm, sn, sub, ab, col, dd, k0, k1, k2, k3, k5, xL, bmE⟩, sa, exC, tyC, kC⟩, iC, tI, ⟨qual, params, a1, a2, dV, kV, doc, pm, ct, oc, an, od, osl, cda, cc, rfl, lI, cI, hpar, ha1, ⟨ccl, cdd, vs, ccs, file, tf, hcda, hvs, hfile⟩, cl, cld, csl, hcc⟩, .all hb, self, sup, isV, opq, noF, top⟩
theorem most_mk {t : Tok} (X : K.In h) (G : h.Ns mainGlobals mg) (a : PySem.W.nsIn K mainGlobals "MOST_PLACES" = some (some (.int 10 t))) : ∃ t, mg "MOST_PLACES" = some (.int 10 t) := ⟨t, PySem.W.mg_of X G a⟩
theorem xf_mk (k : Ex4.KxC K C) (hd : PySem.W.hasDictIn K C = true) : XfC K C := ⟨k.hg, k.hk, k.hs, hd⟩
/-- the parts of the text lead to the law -/
theorem fin_mk {l : PySem.W.OpenLaw} {w : World} {fa fl : Addr} (X : K.In h) (G : h.Ns mainGlobals mg) (hfa : mg "law" = some (.ref fa))
    {oc kV doc pm cdv ct : Value} {od an : Option Addr} {osl : Array (Option Value)}
    (aL : PySem.W.nsIn K mainGlobals "law" = some (some (.ref fl))) (lL : K.lookup fl = some ⟨oc, od, .func (PySem.W.fnOf "law" "law" (defArgs (topS 67)) (defBody (topS 67)) (defScope (topS 67)) .none kV doc pm an cdv ct), osl⟩) (cL : PySem.W.codeIn K cdv "law" = true) (kL : PySem.W.keepIn K (.ref fl) = true)
    (T : Txt K mg) (iw : ErrM K mg "InvalidWeb" IW) (it : ErrM K mg "InvalidTie" IT) (nb : ∃ fd, Ex3.NbC K l.prog NB fI fd) (anb : PySem.W.nsIn K mainGlobals "NotBalanced" = some (some (.ref NB))) (ase : PySem.W.nsIn K mainGlobals "SignError" = some (some (.ref SE))) (atm : PySem.W.nsIn K mainGlobals "TooMany" = some (some (.ref TM)))
    (iw1 : Err1 K SE IW IT NB TM IW true false false) (it1 : Err1 K SE IW IT NB TM IT false true false) (nb1 : Err1 K SE IW IT NB TM NB false false true) (hdn : PySem.W.hasDictIn K NB = true) :
    ∃ fd : FuncData, (∀ (s : Shared) (v : Value), BindsTo s fd ⟨[v], []⟩ [("_law_script", v)]) ∧ ∀ base : Heap, K.In base → base.Ns mainGlobals mg → Ex7.FnOkG l.prog w K mg base CX0 9 fa fd ["_law_script"] (sp_law K) := by
  have e := hfa.symm.trans (PySem.W.mg_of X G aL)
  cases e
  obtain ⟨fd, nb⟩ := nb
  have Er : Errs l.prog K mg SE IW IT NB TM fI fd := ⟨iw, it, nb, PySem.W.mg_of X G anb, PySem.W.mg_of X G ase, PySem.W.mg_of X G atm, iw1, it1, nb1, xf_mk nb1.kx hdn⟩
  have F := fun_mk (st := topS 67) lL cL kL
  refine ⟨PySem.W.fnOf "law" "law" (defArgs (topS 67)) (defBody (topS 67)) (defScope (topS 67)) .none kV doc pm an cdv ct, fun s v => .of_eq rfl, fun base _ _ => ?_⟩
  exact ok_law T Er F
end
end Sg
open PySem PySem.W PyProof.Rows
set_option maxRecDepth 100000 in
set_option maxHeartbeats 0 in
theorem PySem.Challenge.cw_signrounds_k78_whole_drawn_together_holds : PySem.Challenge.rw_signrounds_k78_whole_drawn_together.Holds := by
  w_on; o_law; k_head; (case hw => w_witness2)
  k_fill
  refine Ex7.walk_ofBG (l := PySem.Challenge.rw_signrounds_k78_whole_drawn_together) (n := 63) (k := 9) (x := "_law_script") (CX := fun _ => L2.CX0) (sp := fun w => Sg.sp_law _) rfl (by decide) rfl ⟨rfl, by decide, by decide⟩ (fun w h Y => PySem.W.kIn_of Y) ?F (fun _ _ a ns hl hb _ hS => ⟨a, ns, rfl, hl, hb, hS, fun _ => rfl⟩) (fun _ _ _ _ _ h => h)
  case F =>
    intro w mg fa h KX G hmg
    refine' Sg.fin_mk KX G hmg ?v_aL ?v_lL ?v_cL ?v_kL ?v_T ?v_iw ?v_it ?v_nb ?v_anb ?v_ase ?v_atm ?v_iw1 ?v_it1 ?v_nb1 ?v_hdn
    (case v_aL => (k_is)); (case v_lL => (k_is)); (case v_cL => (k_is)); (case v_kL => (k_is)); (case v_anb => (k_is)); (case v_ase => (k_is)); (case v_atm => (k_is))
    (case v_iw => refine' Sg.em_mk KX G ?v_a ?v_q ?v_kp ?v_r1 ?v_r2; (case v_a => (k_is)); (case v_q => (kernel_rfl)); (case v_kp => (k_is)); (case v_r1 => (k_is)); (case v_r2 => (k_is)))
    (case v_it => refine' Sg.em_mk KX G ?v_a ?v_q ?v_kp ?v_r1 ?v_r2; (case v_a => (k_is)); (case v_q => (kernel_rfl)); (case v_kp => (k_is)); (case v_r1 => (k_is)); (case v_r2 => (k_is)))
    (case v_nb => refine' Sg.nb_mk ?v_xL ?v_bmE ?v_sa ?v_exC ?v_tyC ?v_kC ?v_iC ?v_tI ?v_lI ?v_cI ?v_hpar ?v_ha1 ?v_hcda ?v_hvs ?v_hfile ?v_hcc ?v_hb ?v_self ?v_sup ?v_isV ?v_opq ?v_noF ?v_top; (case v_xL => (k_is)); (case v_bmE => first | (kernel_rfl) | (decide +kernel)); (case v_sa => (k_is)); (case v_exC => (k_is)); (case v_tyC => (k_is)); (case v_kC => (k_is)); (case v_iC => (k_is)); (case v_tI => (k_is)); (case v_lI => (k_is)); (case v_cI => (k_is)); (case v_hpar => (rfl)); (case v_ha1 => (rfl)); (case v_hcda => (k_is)); (case v_hvs => (rfl)); (case v_hfile => (kernel_rfl)); (case v_hcc => (k_is)); (case v_hb => (exact fun us hl => match us, hl with | [_, _], _ => rfl)); (case v_self => (k_is)); (case v_sup => (ks_is)); (case v_isV => (k_is)); (case v_opq => (k_is)); (case v_noF => (k_is)); (case v_top => (kernel_rfl)))
    (case v_hdn => (k_is))
    (case v_iw1 => refine' ⟨Sg.kx_mk ⟨?v_hn, ?v_ht⟩ ?v_hc ?v_hg ?v_hk ?v_hs ?v_ha ?v_hm, ?v_ex, ?v_k1, ?v_k2, ?v_k3, ?v_k4, ?v_k5, ?v_k6⟩; (case v_hn => (k_is)); (case v_ht => (k_is)); (case v_hc => (kernel_rfl)); (case v_hg => (k_is)); (case v_hk => (k_is)); (case v_hs => (k_is)); (case v_ha => (k_is)); (case v_hm => (k_is)); (case v_ex => (kernel_rfl)); (case v_k1 => first | (kit_is) | (kernel_rfl)); (case v_k2 => first | (kit_is) | (kernel_rfl)); (case v_k3 => first | (kit_is) | (kernel_rfl)); (case v_k4 => first | (kit_is) | (kernel_rfl)); (case v_k5 => first | (kit_is) | (kernel_rfl)); (case v_k6 => first | (kit_is) | (kernel_rfl)))
    (case v_it1 => refine' ⟨Sg.kx_mk ⟨?v_hn, ?v_ht⟩ ?v_hc ?v_hg ?v_hk ?v_hs ?v_ha ?v_hm, ?v_ex, ?v_k1, ?v_k2, ?v_k3, ?v_k4, ?v_k5, ?v_k6⟩; (case v_hn => (k_is)); (case v_ht => (k_is)); (case v_hc => (kernel_rfl)); (case v_hg => (k_is)); (case v_hk => (k_is)); (case v_hs => (k_is)); (case v_ha => (k_is)); (case v_hm => (k_is)); (case v_ex => (kernel_rfl)); (case v_k1 => first | (kit_is) | (kernel_rfl)); (case v_k2 => first | (kit_is) | (kernel_rfl)); (case v_k3 => first | (kit_is) | (kernel_rfl)); (case v_k4 => first | (kit_is) | (kernel_rfl)); (case v_k5 => first | (kit_is) | (kernel_rfl)); (case v_k6 => first | (kit_is) | (kernel_rfl)))
    (case v_nb1 => refine' ⟨Sg.kx_mk ⟨?v_hn, ?v_ht⟩ ?v_hc ?v_hg ?v_hk ?v_hs ?v_ha ?v_hm, ?v_ex, ?v_k1, ?v_k2, ?v_k3, ?v_k4, ?v_k5, ?v_k6⟩; (case v_hn => (k_is)); (case v_ht => (k_is)); (case v_hc => (kernel_rfl)); (case v_hg => (k_is)); (case v_hk => (k_is)); (case v_hs => (k_is)); (case v_ha => (k_is)); (case v_hm => (k_is)); (case v_ex => (kernel_rfl)); (case v_k1 => first | (kit_is) | (kernel_rfl)); (case v_k2 => first | (kit_is) | (kernel_rfl)); (case v_k3 => first | (kit_is) | (kernel_rfl)); (case v_k4 => first | (kit_is) | (kernel_rfl)); (case v_k5 => first | (kit_is) | (kernel_rfl)); (case v_k6 => first | (kit_is) | (kernel_rfl)))
    case v_T =>
      refine' { most := Sg.most_mk KX G ?v_most, len_n := PySem.W.mg_none_of KX G ?v_n_len, range_n := PySem.W.mg_none_of KX G ?v_n_range, tuple_n := PySem.W.mg_none_of KX G ?v_n_tuple, list_n := PySem.W.mg_none_of KX G ?v_n_list, int_n := PySem.W.mg_none_of KX G ?v_n_int, bool_n := PySem.W.mg_none_of KX G ?v_n_bool, isinstance_n := PySem.W.mg_none_of KX G ?v_n_isinstance, all_n := PySem.W.mg_none_of KX G ?v_n_all, any_n := PySem.W.mg_none_of KX G ?v_n_any, sorted_n := PySem.W.mg_none_of KX G ?v_n_sorted, min_n := PySem.W.mg_none_of KX G ?v_n_min, abs_n := PySem.W.mg_none_of KX G ?v_n_abs, enumerate_n := PySem.W.mg_none_of KX G ?v_n_enumerate, repr_n := PySem.W.mg_none_of KX G ?v_n_repr, ValueError_n := PySem.W.mg_none_of KX G ?v_n_ValueError, super_n := PySem.W.mg_none_of KX G ?v_n_super, d_is_integer := Sg.def1_mk KX G Sg.bo_is_integer rfl ?v_a_is_integer ?v_l_is_integer ?v_c_is_integer ?v_k_is_integer, d_is_between := Sg.def1_mk KX G Sg.bo_is_between rfl ?v_a_is_between ?v_l_is_between ?v_c_is_between ?v_k_is_between, d_is_tuple_of := Sg.def1_mk KX G Sg.bo_is_tuple_of rfl ?v_a_is_tuple_of ?v_l_is_tuple_of ?v_c_is_tuple_of ?v_k_is_tuple_of, d_is_lot_of := Sg.def1_mk KX G Sg.bo_is_lot_of rfl ?v_a_is_lot_of ?v_l_is_lot_of ?v_c_is_lot_of ?v_k_is_lot_of, d_check_lot := Sg.def1_mk KX G Sg.bo_check_lot rfl ?v_a_check_lot ?v_l_check_lot ?v_c_check_lot ?v_k_check_lot, d_others_of := Sg.def1_mk KX G Sg.bo_others_of rfl ?v_a_others_of ?v_l_others_of ?v_c_others_of ?v_k_others_of, d_is_web := Sg.def1_mk KX G Sg.bo_is_web rfl ?v_a_is_web ?v_l_is_web ?v_c_is_web ?v_k_is_web, d_check_web := Sg.def1_mk KX G Sg.bo_check_web rfl ?v_a_check_web ?v_l_check_web ?v_c_check_web ?v_k_check_web, d_tie_between := Sg.def1_mk KX G Sg.bo_tie_between rfl ?v_a_tie_between ?v_l_tie_between ?v_c_tie_between ?v_k_tie_between, d_ties_of := Sg.def1_mk KX G Sg.bo_ties_of rfl ?v_a_ties_of ?v_l_ties_of ?v_c_ties_of ?v_k_ties_of, d_signs_of := Sg.def1_mk KX G Sg.bo_signs_of rfl ?v_a_signs_of ?v_l_signs_of ?v_c_signs_of ?v_k_signs_of, d_web_by := Sg.def1_mk KX G Sg.bo_web_by rfl ?v_a_web_by ?v_l_web_by ?v_c_web_by ?v_k_web_by, d_is_tie := Sg.def1_mk KX G Sg.bo_is_tie rfl ?v_a_is_tie ?v_l_is_tie ?v_c_is_tie ?v_k_is_tie, d_check_tie := Sg.def1_mk KX G Sg.bo_check_tie rfl ?v_a_check_tie ?v_l_check_tie ?v_c_check_tie ?v_k_check_tie, d_turned_web := Sg.def1_mk KX G Sg.bo_turned_web rfl ?v_a_turned_web ?v_l_turned_web ?v_c_turned_web ?v_k_turned_web, d_piece_with := Sg.def1_mk KX G Sg.bo_piece_with rfl ?v_a_piece_with ?v_l_piece_with ?v_c_piece_with ?v_k_piece_with, d_pieces_among := Sg.def1_mk KX G Sg.bo_pieces_among rfl ?v_a_pieces_among ?v_l_pieces_among ?v_c_pieces_among ?v_k_pieces_among, d_pieces_of := Sg.def1_mk KX G Sg.bo_pieces_of rfl ?v_a_pieces_of ?v_l_pieces_of ?v_c_pieces_of ?v_k_pieces_of, d_inner_web := Sg.def1_mk KX G Sg.bo_inner_web rfl ?v_a_inner_web ?v_l_inner_web ?v_c_inner_web ?v_k_inner_web, d_ring_by := Sg.def1_mk KX G Sg.bo_ring_by rfl ?v_a_ring_by ?v_l_ring_by ?v_c_ring_by ?v_k_ring_by, d_check_room := Sg.def1_mk KX G Sg.bo_check_room rfl ?v_a_check_room ?v_l_check_room ?v_c_check_room ?v_k_check_room, d_parted_tie := Sg.def1_mk KX G Sg.bo_parted_tie rfl ?v_a_parted_tie ?v_l_parted_tie ?v_c_parted_tie ?v_k_parted_tie, d_drawn := Sg.def1_drawn KX G ?v_a_drawn ?v_l_drawn ?v_c_drawn ?v_k_drawn, d_way_up := Sg.def1_mk KX G Sg.bo_way_up rfl ?v_a_way_up ?v_l_way_up ?v_c_way_up ?v_k_way_up, d_ring_through := Sg.def1_mk KX G Sg.bo_ring_through rfl ?v_a_ring_through ?v_l_ring_through ?v_c_ring_through ?v_k_ring_through, d_walked := Sg.def1_mk KX G Sg.bo_walked rfl ?v_a_walked ?v_l_walked ?v_c_walked ?v_k_walked, d_balance_of := Sg.def1_mk KX G Sg.bo_balance_of rfl ?v_a_balance_of ?v_l_balance_of ?v_c_balance_of ?v_k_balance_of, d_some_bad_ring := Sg.def1_mk KX G Sg.bo_some_bad_ring rfl ?v_a_some_bad_ring ?v_l_some_bad_ring ?v_c_some_bad_ring ?v_k_some_bad_ring, d_camp_of := Sg.def1_mk KX G Sg.bo_camp_of rfl ?v_a_camp_of ?v_l_camp_of ?v_c_camp_of ?v_k_camp_of, d_is_balanced := Sg.def1_mk KX G Sg.bo_is_balanced rfl ?v_a_is_balanced ?v_l_is_balanced ?v_c_is_balanced ?v_k_is_balanced, d_is_camp_of := Sg.def1_mk KX G Sg.bo_is_camp_of rfl ?v_a_is_camp_of ?v_l_is_camp_of ?v_c_is_camp_of ?v_k_is_camp_of, d_is_camp := Sg.def1_mk KX G Sg.bo_is_camp rfl ?v_a_is_camp ?v_l_is_camp ?v_c_is_camp ?v_k_is_camp, d_camps_of := Sg.def1_mk KX G Sg.bo_camps_of rfl ?v_a_camps_of ?v_l_camps_of ?v_c_camps_of ?v_k_camps_of, d_camps := Sg.def1_mk KX G Sg.bo_camps rfl ?v_a_camps ?v_l_camps ?v_c_camps ?v_k_camps, d_has_same_ties := Sg.def1_mk KX G Sg.bo_has_same_ties rfl ?v_a_has_same_ties ?v_l_has_same_ties ?v_c_has_same_ties ?v_k_has_same_ties, d_product_of := Sg.def1_mk KX G Sg.bo_product_of rfl ?v_a_product_of ?v_l_product_of ?v_c_product_of ?v_k_product_of, d_alike_of := Sg.def1_mk KX G Sg.bo_alike_of rfl ?v_a_alike_of ?v_l_alike_of ?v_c_alike_of ?v_k_alike_of, d_are_alike := Sg.def1_mk KX G Sg.bo_are_alike rfl ?v_a_are_alike ?v_l_are_alike ?v_c_are_alike ?v_k_are_alike, d_law_well := Sg.def1_mk KX G Sg.bo_law_well rfl ?v_a_law_well ?v_l_law_well ?v_c_law_well ?v_k_law_well, d_law_dip := Sg.def1_mk KX G Sg.bo_law_dip rfl ?v_a_law_dip ?v_l_law_dip ?v_c_law_dip ?v_k_law_dip, d_law_many := Sg.def1_mk KX G Sg.bo_law_many rfl ?v_a_law_many ?v_l_law_many ?v_c_law_many ?v_k_law_many, d_law_web := Sg.def1_mk KX G Sg.bo_law_web rfl ?v_a_law_web ?v_l_law_web ?v_c_law_web ?v_k_law_web, d_law_number := Sg.def1_mk KX G Sg.bo_law_number rfl ?v_a_law_number ?v_l_law_number ?v_c_law_number ?v_k_law_number, d_law_lot := Sg.def1_mk KX G Sg.bo_law_lot rfl ?v_a_law_lot ?v_l_law_lot ?v_c_law_lot ?v_k_law_lot, d_law_turned := Sg.def1_mk KX G Sg.bo_law_turned rfl ?v_a_law_turned ?v_l_law_turned ?v_c_law_turned ?v_k_law_turned, d_law_ties := Sg.def1_mk KX G Sg.bo_law_ties rfl ?v_a_law_ties ?v_l_law_ties ?v_c_law_ties ?v_k_law_ties, d_law_sides := Sg.def1_mk KX G Sg.bo_law_sides rfl ?v_a_law_sides ?v_l_law_sides ?v_c_law_sides ?v_k_law_sides, d_law_bad_web := Sg.def1_mk KX G Sg.bo_law_bad_web rfl ?v_a_law_bad_web ?v_l_law_bad_web ?v_c_law_bad_web ?v_k_law_bad_web, d_law_just := Sg.def1_mk KX G Sg.bo_law_just rfl ?v_a_law_just ?v_l_law_just ?v_c_law_just ?v_k_law_just, d_law_caught := Sg.def1_mk KX G Sg.bo_law_caught rfl ?v_a_law_caught ?v_l_law_caught ?v_c_law_caught ?v_k_law_caught, d_law_due := Sg.def1_mk KX G Sg.bo_law_due rfl ?v_a_law_due ?v_l_law_due ?v_c_law_due ?v_k_law_due, d_law_tie_right := Sg.def1_mk KX G Sg.bo_law_tie_right rfl ?v_a_law_tie_right ?v_l_law_tie_right ?v_c_law_tie_right ?v_k_law_tie_right, d_law_bad_tie := Sg.def1_mk KX G Sg.bo_law_bad_tie rfl ?v_a_law_bad_tie ?v_l_law_bad_tie ?v_c_law_bad_tie ?v_k_law_bad_tie, d_law := Sg.def1_mk KX G Sg.bo_law rfl ?v_a_law ?v_l_law ?v_c_law ?v_k_law }
      (case v_most => (k_is)); (case v_n_len => (k_is)); (case v_n_range => (k_is)); (case v_n_tuple => (k_is)); (case v_n_list => (k_is)); (case v_n_int => (k_is)); (case v_n_bool => (k_is)); (case v_n_isinstance => (k_is)); (case v_n_all => (k_is)); (case v_n_any => (k_is)); (case v_n_sorted => (k_is)); (case v_n_min => (k_is)); (case v_n_abs => (k_is)); (case v_n_enumerate => (k_is)); (case v_n_repr => (k_is)); (case v_n_ValueError => (k_is)); (case v_n_super => (k_is))
      (case v_a_is_integer => (k_is)); (case v_l_is_integer => (k_is)); (case v_c_is_integer => (k_is)); (case v_k_is_integer => (k_is))
      (case v_a_is_between => (k_is)); (case v_l_is_between => (k_is)); (case v_c_is_between => (k_is)); (case v_k_is_between => (k_is))
      (case v_a_is_tuple_of => (k_is)); (case v_l_is_tuple_of => (k_is)); (case v_c_is_tuple_of => (k_is)); (case v_k_is_tuple_of => (k_is))
      (case v_a_is_lot_of => (k_is)); (case v_l_is_lot_of => (k_is)); (case v_c_is_lot_of => (k_is)); (case v_k_is_lot_of => (k_is))
      (case v_a_check_lot => (k_is)); (case v_l_check_lot => (k_is)); (case v_c_check_lot => (k_is)); (case v_k_check_lot => (k_is))
      (case v_a_others_of => (k_is)); (case v_l_others_of => (k_is)); (case v_c_others_of => (k_is)); (case v_k_others_of => (k_is))
      (case v_a_is_web => (k_is)); (case v_l_is_web => (k_is)); (case v_c_is_web => (k_is)); (case v_k_is_web => (k_is))
      (case v_a_check_web => (k_is)); (case v_l_check_web => (k_is)); (case v_c_check_web => (k_is)); (case v_k_check_web => (k_is))
      (case v_a_tie_between => (k_is)); (case v_l_tie_between => (k_is)); (case v_c_tie_between => (k_is)); (case v_k_tie_between => (k_is))
      (case v_a_ties_of => (k_is)); (case v_l_ties_of => (k_is)); (case v_c_ties_of => (k_is)); (case v_k_ties_of => (k_is))
      (case v_a_signs_of => (k_is)); (case v_l_signs_of => (k_is)); (case v_c_signs_of => (k_is)); (case v_k_signs_of => (k_is))
      (case v_a_web_by => (k_is)); (case v_l_web_by => (k_is)); (case v_c_web_by => (k_is)); (case v_k_web_by => (k_is))
      (case v_a_is_tie => (k_is)); (case v_l_is_tie => (k_is)); (case v_c_is_tie => (k_is)); (case v_k_is_tie => (k_is))
      (case v_a_check_tie => (k_is)); (case v_l_check_tie => (k_is)); (case v_c_check_tie => (k_is)); (case v_k_check_tie => (k_is))
      (case v_a_turned_web => (k_is)); (case v_l_turned_web => (k_is)); (case v_c_turned_web => (k_is)); (case v_k_turned_web => (k_is))
      (case v_a_piece_with => (k_is)); (case v_l_piece_with => (k_is)); (case v_c_piece_with => (k_is)); (case v_k_piece_with => (k_is))
      (case v_a_pieces_among => (k_is)); (case v_l_pieces_among => (k_is)); (case v_c_pieces_among => (k_is)); (case v_k_pieces_among => (k_is))
      (case v_a_pieces_of => (k_is)); (case v_l_pieces_of => (k_is)); (case v_c_pieces_of => (k_is)); (case v_k_pieces_of => (k_is))
      (case v_a_inner_web => (k_is)); (case v_l_inner_web => (k_is)); (case v_c_inner_web => (k_is)); (case v_k_inner_web => (k_is))
      (case v_a_ring_by => (k_is)); (case v_l_ring_by => (k_is)); (case v_c_ring_by => (k_is)); (case v_k_ring_by => (k_is))
      (case v_a_check_room => (k_is)); (case v_l_check_room => (k_is)); (case v_c_check_room => (k_is)); (case v_k_check_room => (k_is))
      (case v_a_parted_tie => (k_is)); (case v_l_parted_tie => (k_is)); (case v_c_parted_tie => (k_is)); (case v_k_parted_tie => (k_is))
      (case v_a_drawn => (k_is)); (case v_l_drawn => (k_is)); (case v_c_drawn => (k_is)); (case v_k_drawn => (k_is))
      (case v_a_way_up => (k_is)); (case v_l_way_up => (k_is)); (case v_c_way_up => (k_is)); (case v_k_way_up => (k_is))
      (case v_a_ring_through => (k_is)); (case v_l_ring_through => (k_is)); (case v_c_ring_through => (k_is)); (case v_k_ring_through => (k_is))
      (case v_a_walked => (k_is)); (case v_l_walked => (k_is)); (case v_c_walked => (k_is)); (case v_k_walked => (k_is))
      (case v_a_balance_of => (k_is)); (case v_l_balance_of => (k_is)); (case v_c_balance_of => (k_is)); (case v_k_balance_of => (k_is))
      (case v_a_some_bad_ring => (k_is)); (case v_l_some_bad_ring => (k_is)); (case v_c_some_bad_ring => (k_is)); (case v_k_some_bad_ring => (k_is))
      (case v_a_camp_of => (k_is)); (case v_l_camp_of => (k_is)); (case v_c_camp_of => (k_is)); (case v_k_camp_of => (k_is))
      (case v_a_is_balanced => (k_is)); (case v_l_is_balanced => (k_is)); (case v_c_is_balanced => (k_is)); (case v_k_is_balanced => (k_is))
      (case v_a_is_camp_of => (k_is)); (case v_l_is_camp_of => (k_is)); (case v_c_is_camp_of => (k_is)); (case v_k_is_camp_of => (k_is))
      (case v_a_is_camp => (k_is)); (case v_l_is_camp => (k_is)); (case v_c_is_camp => (k_is)); (case v_k_is_camp => (k_is))
      (case v_a_camps_of => (k_is)); (case v_l_camps_of => (k_is)); (case v_c_camps_of => (k_is)); (case v_k_camps_of => (k_is))
      (case v_a_camps => (k_is)); (case v_l_camps => (k_is)); (case v_c_camps => (k_is)); (case v_k_camps => (k_is))
      (case v_a_has_same_ties => (k_is)); (case v_l_has_same_ties => (k_is)); (case v_c_has_same_ties => (k_is)); (case v_k_has_same_ties => (k_is))
      (case v_a_product_of => (k_is)); (case v_l_product_of => (k_is)); (case v_c_product_of => (k_is)); (case v_k_product_of => (k_is))
      (case v_a_alike_of => (k_is)); (case v_l_alike_of => (k_is)); (case v_c_alike_of => (k_is)); (case v_k_alike_of => (k_is))
      (case v_a_are_alike => (k_is)); (case v_l_are_alike => (k_is)); (case v_c_are_alike => (k_is)); (case v_k_are_alike => (k_is))
      (case v_a_law_well => (k_is)); (case v_l_law_well => (k_is)); (case v_c_law_well => (k_is)); (case v_k_law_well => (k_is))
      (case v_a_law_dip => (k_is)); (case v_l_law_dip => (k_is)); (case v_c_law_dip => (k_is)); (case v_k_law_dip => (k_is))
      (case v_a_law_many => (k_is)); (case v_l_law_many => (k_is)); (case v_c_law_many => (k_is)); (case v_k_law_many => (k_is))
      (case v_a_law_web => (k_is)); (case v_l_law_web => (k_is)); (case v_c_law_web => (k_is)); (case v_k_law_web => (k_is))
      (case v_a_law_number => (k_is)); (case v_l_law_number => (k_is)); (case v_c_law_number => (k_is)); (case v_k_law_number => (k_is))
      (case v_a_law_lot => (k_is)); (case v_l_law_lot => (k_is)); (case v_c_law_lot => (k_is)); (case v_k_law_lot => (k_is))
      (case v_a_law_turned => (k_is)); (case v_l_law_turned => (k_is)); (case v_c_law_turned => (k_is)); (case v_k_law_turned => (k_is))
      (case v_a_law_ties => (k_is)); (case v_l_law_ties => (k_is)); (case v_c_law_ties => (k_is)); (case v_k_law_ties => (k_is))
      (case v_a_law_sides => (k_is)); (case v_l_law_sides => (k_is)); (case v_c_law_sides => (k_is)); (case v_k_law_sides => (k_is))
      (case v_a_law_bad_web => (k_is)); (case v_l_law_bad_web => (k_is)); (case v_c_law_bad_web => (k_is)); (case v_k_law_bad_web => (k_is))
      (case v_a_law_just => (k_is)); (case v_l_law_just => (k_is)); (case v_c_law_just => (k_is)); (case v_k_law_just => (k_is))
      (case v_a_law_caught => (k_is)); (case v_l_law_caught => (k_is)); (case v_c_law_caught => (k_is)); (case v_k_law_caught => (k_is))
      (case v_a_law_due => (k_is)); (case v_l_law_due => (k_is)); (case v_c_law_due => (k_is)); (case v_k_law_due => (k_is))
      (case v_a_law_tie_right => (k_is)); (case v_l_law_tie_right => (k_is)); (case v_c_law_tie_right => (k_is)); (case v_k_law_tie_right => (k_is))
      (case v_a_law_bad_tie => (k_is)); (case v_l_law_bad_tie => (k_is)); (case v_c_law_bad_tie => (k_is)); (case v_k_law_bad_tie => (k_is))
      (case v_a_law => (k_is)); (case v_l_law => (k_is)); (case v_c_law => (k_is)); (case v_k_law => (k_is))
