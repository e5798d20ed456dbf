import PyProof.Rows.All
import Wide.All
import OpenK.AllK
import Wide.FinOn
import HandS.ForMost
import HandS.Exc
import HandS.ExcInit
import HandS.TupAny
import HandS.TupMul
import HandS.Conv
import HandS.Style
import HandS.Rev
import HandS.Wide
import HandS.IsInst
import HandS.More
import KE.GoesMore
import PyProof.ListMulRoad
import PyProof.FactsAll.tuple_2
import KE.SortData
import HandS.TupLe
import KE.KDictKeyed
import KE.KDictItemsList
import KE.KDictSum
import HandS.DictTup
import HandS.RevRange
import PyProof.ListRange
import PyProof.CollectIter
import PyProof.FactsAll.range_iterator_1
import PySem.Challenge.RW_hookmats_k38_whole_any_question_of_sums
import HandS.ExcOwn
import HandS.WordsExc
set_option Elab.async false
set_option linter.all false
set_option maxRecDepth 100000
set_option maxHeartbeats 4000000
namespace Hk
open PySem PySem.Spec PyProof.Rows L2

/-! ### heaps that grow -/
def Ex (H H' : Hp) : Prop := ∀ a o, H a = some o → H' a = some o
theorem Ex.refl (H : Hp) : Ex H H := fun _ _ e => e
theorem Ex.trans {H H1 H2 : Hp} (a : Ex H H1) (b : Ex H1 H2) : Ex H H2 := fun x o e => b x o (a x o e)
theorem Ex.new {H : Hp} {p : Addr} {o : HO} (h : H p = none) : Ex H (upd H p o) := fun b u e => by
  rw [upd_ne (ne_of_none e h)]; exact e
theorem Ex.mut {H H' : Hp} {p : Addr} {o : HO} (e : Ex H H') (h : H p = none) : Ex H (upd H' p o) := fun b u q => by
  rw [upd_ne (ne_of_none q h)]; exact e b u q
theorem Ex.back {H H' : Hp} {p : Addr} (e : Ex H H') (h : H' p = none) : H p = none := by
  cases q : H p with
  | none => rfl
  | some o => rw [e p o q] at h; cases h
/-- the tuples stay, and what is known to the object -/
def TK (H H' : Hp) : Prop := (∀ a xs, H a = some (.tup xs) → H' a = some (.tup xs)) ∧ ∀ a o u, H a = some (.frz o u) → H' a = some (.frz o u)
theorem Ex.tk {H H' : Hp} (e : Ex H H') : TK H H' := ⟨fun a xs h => e a _ h, fun a o u h => e a _ h⟩
theorem TK.refl (H : Hp) : TK H H := ⟨fun _ _ e => e, fun _ _ _ e => e⟩
theorem TK.trans {H H1 H2 : Hp} (a : TK H H1) (b : TK H1 H2) : TK H H2 := ⟨fun x o e => b.1 x o (a.1 x o e), fun x o u e => b.2 x o u (a.2 x o u e)⟩
theorem TK.rd {H H' : Hp} (k : TK H H') {a : Addr} {xs : List V} (h : Rd H a (.tup xs)) : Rd H' a (.tup xs) := h.elim (fun h => .inl (k.1 _ _ h)) fun ⟨o, h⟩ => .inr ⟨o, k.2 _ _ _ h⟩
/-- what stood stays but at l -/
def ExB (l : Addr) (H H' : Hp) : Prop := ∀ a o, a ≠ l → H a = some o → H' a = some o
theorem ExB.refl (l : Addr) (H : Hp) : ExB l H H := fun _ _ _ e => e
theorem ExB.trans {l : Addr} {H H1 H2 : Hp} (a : ExB l H H1) (b : ExB l H1 H2) : ExB l H H2 := fun x o n e => b x o n (a x o n e)
theorem Ex.b {H H' : Hp} (e : Ex H H') (l : Addr) : ExB l H H' := fun a o _ h => e a o h
theorem ExB.upd (l : Addr) (H : Hp) (o : HO) : ExB l H (upd H l o) := fun a u n e => by rw [upd_ne n]; exact e
theorem ExB.ex {l : Addr} {H0 H H' : Hp} (b : ExB l H H') (e : Ex H0 H) (n : H0 l = none) : Ex H0 H' := fun a o h => b a o (ne_of_none h n) (e a o h)
/-- what l holds is no tuple -/
def NoTup (H : Hp) (l : Addr) : Prop := (∀ xs, H l ≠ some (.tup xs)) ∧ ∀ o u, H l ≠ some (.frz o u)
theorem ExB.tk {l : Addr} {H H' : Hp} (b : ExB l H H') (n : NoTup H l) : TK H H' := ⟨fun a xs h => b a _ (fun q => n.1 xs (q ▸ h)) h, fun a o u h => b a _ (fun q => n.2 o u (q ▸ h)) h⟩
theorem NoTup.lst {H : Hp} {l : Addr} {xs : List V} (h : H l = some (.lst xs)) : NoTup H l := ⟨(fun ys q => by rw [h] at q; cases q), (fun o u q => by rw [h] at q; cases q)⟩
theorem TK.updL {H : Hp} {l : Addr} {xs : List V} {o : HO} (h : H l = some (.lst xs)) : TK H (upd H l o) := (ExB.upd l H o).tk (.lst h)

theorem _root_.L2.Rd.inj {H : Hp} {a : Addr} {xs ys : List V} (h : Rd H a (.tup xs)) (q : Rd H a (.tup ys)) : xs = ys := by
  rcases h with h | ⟨o, h⟩ <;> rcases q with q | ⟨o', q⟩ <;> rw [h] at q <;> cases q <;> rfl
/-! ### data in tuples -/
mutual
inductive Tp (H : Hp) : V → PyData → Prop
  | non : Tp H .non .none
  | bl (b : Bool) : Tp H (.bl b) (.bool b)
  | int (i : Int) : Tp H (.int i) (.int i)
  | tup {a : Addr} {xs : List V} {ds : List PyData} : Rd H a (.tup xs) → TpAll H xs ds → Tp H (.ref a) (.tuple ds)
inductive TpAll (H : Hp) : List V → List PyData → Prop
  | nil : TpAll H [] []
  | cons {v : V} {vs : List V} {d : PyData} {ds : List PyData} : Tp H v d → TpAll H vs ds → TpAll H (v :: vs) (d :: ds)
end
section
variable {H H' : Hp} {K : PySem.W.Frag}
mutual
theorem Tp.mono (k : TK H H') : ∀ {v : V} {d : PyData}, Tp H v d → Tp H' v d
  | _, _, .non => .non
  | _, _, .bl b => .bl b
  | _, _, .int i => .int i
  | _, _, .tup h r => .tup (k.rd h) (TpAll.mono k r)
theorem TpAll.mono (k : TK H H') : ∀ {vs : List V} {ds : List PyData}, TpAll H vs ds → TpAll H' vs ds
  | _, _, .nil => .nil
  | _, _, .cons h r => .cons (Tp.mono k h) (TpAll.mono k r)
end
mutual
theorem Tp.dp : ∀ {v : V} {d : PyData}, Tp H v d → Dp K H v d
  | _, _, .non => .non
  | _, _, .bl b => .bl b
  | _, _, .int i => .int i
  | _, _, .tup h r => .tup (.inl h) (TpAll.dp r)
theorem TpAll.dp : ∀ {vs : List V} {ds : List PyData}, TpAll H vs ds → DpAll K H vs ds
  | _, _, .nil => .nil
  | _, _, .cons h r => .cons (Tp.dp h) (TpAll.dp r)
end
mutual
theorem Tp.inj : ∀ {v : V} {d e : PyData}, Tp H v d → Tp H v e → d = e
  | _, _, _, .non, h => by cases h; rfl
  | _, _, _, .bl b, h => by cases h; rfl
  | _, _, _, .int i, h => by cases h; rfl
  | _, _, _, .tup h r, h' => by
    cases h' with
    | tup q r' =>
      have z := h.inj q
      subst z
      rw [TpAll.inj r r']
theorem TpAll.inj : ∀ {vs : List V} {ds es : List PyData}, TpAll H vs ds → TpAll H vs es → ds = es
  | _, _, _, .nil, h => by cases h; rfl
  | _, _, _, .cons h r, h' => by
    cases h' with
    | cons q r' => rw [Tp.inj h q, TpAll.inj r r']
end
theorem Tp.ex (e : Ex H H') {v : V} {d : PyData} (h : Tp H v d) : Tp H' v d := h.mono e.tk
theorem TpAll.ex (e : Ex H H') {vs : List V} {ds : List PyData} (h : TpAll H vs ds) : TpAll H' vs ds := h.mono e.tk
theorem Tp.int_inv {v : V} {i : Int} (h : Tp H v (.int i)) : v = .int i := by cases h; rfl
theorem Tp.bl_inv {v : V} {b : Bool} (h : Tp H v (.bool b)) : v = .bl b := by cases h; rfl
theorem Tp.non_inv {v : V} (h : Tp H v .none) : v = .non := by cases h; rfl
theorem Tp.tup_inv {v : V} {ds : List PyData} (h : Tp H v (.tuple ds)) : ∃ a xs, v = .ref a ∧ Rd H a (.tup xs) ∧ TpAll H xs ds := by
  cases h with
  | tup h r => exact ⟨_, _, rfl, h, r⟩
theorem TpAll.length {vs : List V} {ds : List PyData} : TpAll H vs ds → vs.length = ds.length := by
  induction vs generalizing ds with
  | nil => intro h; cases h; rfl
  | cons v vs ih => intro h; cases h with | cons _ r => simp only [List.length_cons]; rw [ih r]
theorem TpAll.get {vs : List V} {ds : List PyData} {i : Nat} {d : PyData} (h : TpAll H vs ds) (q : ds[i]? = some d) : ∃ v, vs[i]? = some v ∧ Tp H v d := by
  induction vs generalizing ds i with
  | nil => cases h; simp at q
  | cons v vs ih =>
    cases h with
    | cons hv r =>
      cases i with
      | zero => exact ⟨v, rfl, by simp at q; rw [← q]; exact hv⟩
      | succ i => exact ih (i := i) r (by simpa using q)
theorem TpAll.get' {vs : List V} {ds : List PyData} {i : Nat} {v : V} (h : TpAll H vs ds) (q : vs[i]? = some v) : ∃ d, ds[i]? = some d ∧ Tp H v d := by
  induction vs generalizing ds i with
  | nil => cases h; simp at q
  | cons w vs ih =>
    cases h with
    | cons hv r =>
      cases i with
      | zero => exact ⟨_, rfl, by simp at q; rw [← q]; exact hv⟩
      | succ i => exact ih (i := i) r (by simpa using q)
theorem TpAll.append {vs ws : List V} {ds es : List PyData} (h : TpAll H vs ds) (q : TpAll H ws es) : TpAll H (vs ++ ws) (ds ++ es) := by
  induction vs generalizing ds with
  | nil => cases h; exact q
  | cons v vs ih => cases h with | cons a r => exact .cons a (ih r)
theorem TpAll.take {vs : List V} {ds : List PyData} (n : Nat) (h : TpAll H vs ds) : TpAll H (vs.take n) (ds.take n) := by
  induction vs generalizing ds n with
  | nil => cases h; simpa using TpAll.nil
  | cons v vs ih => cases h with
    | cons a r => cases n with
      | zero => exact .nil
      | succ n => exact .cons a (ih n r)
theorem TpAll.drop {vs : List V} {ds : List PyData} (n : Nat) (h : TpAll H vs ds) : TpAll H (vs.drop n) (ds.drop n) := by
  induction vs generalizing ds n with
  | nil => cases h; simpa using TpAll.nil
  | cons v vs ih => cases h with
    | cons a r => cases n with
      | zero => exact .cons a r
      | succ n => exact ih n r
theorem TpAll.set {vs : List V} {ds : List PyData} (n : Nat) {v : V} {d : PyData} (q : Tp H v d) (h : TpAll H vs ds) : TpAll H (vs.set n v) (ds.set n d) := by
  induction vs generalizing ds n with
  | nil => cases h; simpa using TpAll.nil
  | cons w vs ih => cases h with
    | cons a r => cases n with
      | zero => exact .cons q r
      | succ n => exact .cons a (ih n r)
theorem TpAll.reverse {vs : List V} {ds : List PyData} (h : TpAll H vs ds) : TpAll H vs.reverse ds.reverse := by
  induction vs generalizing ds with
  | nil => cases h; exact .nil
  | cons v vs ih => cases h with
    | cons a r =>
      rw [List.reverse_cons, List.reverse_cons]
      exact (ih r).append (.cons a .nil)
theorem TpAll.ints : ∀ ns : List Int, TpAll H (ns.map V.int) (ns.map PyData.int)
  | [] => .nil
  | n :: ns => .cons (.int n) (TpAll.ints ns)
theorem TpAll.ints_inv : ∀ {vs : List V} {ns : List Int}, TpAll H vs (ns.map PyData.int) → vs = ns.map V.int
  | [], [], _ => rfl
  | [], _ :: _, h => by cases h
  | _ :: _, [], h => by cases h
  | v :: vs, n :: ns, h => by
    cases h with
    | cons a r => rw [a.int_inv, TpAll.ints_inv r]; rfl
theorem TpAll.bools : ∀ ns : List Bool, TpAll H (ns.map V.bl) (ns.map PyData.bool)
  | [] => .nil
  | n :: ns => .cons (.bl n) (TpAll.bools ns)
theorem TpAll.bools_inv : ∀ {vs : List V} {ns : List Bool}, TpAll H vs (ns.map PyData.bool) → vs = ns.map V.bl
  | [], [], _ => rfl
  | [], _ :: _, h => by cases h
  | _ :: _, [], h => by cases h
  | v :: vs, n :: ns, h => by
    cases h with
    | cons a r => rw [a.bl_inv, TpAll.bools_inv r]; rfl
theorem TpAll.rep {v : V} {d : PyData} (h : Tp H v d) : ∀ n : Nat, TpAll H (List.replicate n v) (List.replicate n d)
  | 0 => .nil
  | n + 1 => .cons h (TpAll.rep h n)
end
/-- at l stands a list of data -/
def Ls (H : Hp) (l : Addr) (ds : List PyData) : Prop := ∃ xs, H l = some (.lst xs) ∧ TpAll H xs ds
theorem Ls.noTup {H : Hp} {l : Addr} {ds : List PyData} (h : Ls H l ds) : NoTup H l := let ⟨_, h, _⟩ := h; .lst h
theorem Ls.ex {H H' : Hp} {l : Addr} {ds : List PyData} (h : Ls H l ds) (e : Ex H H') : Ls H' l ds := let ⟨xs, h, r⟩ := h; ⟨xs, e _ _ h, r.ex e⟩
theorem Ls.keep {H H' : Hp} {l : Addr} {ds : List PyData} (h : Ls H l ds) (k : TK H H') (e : ∀ o, H l = some o → H' l = some o) : Ls H' l ds := let ⟨xs, h, r⟩ := h; ⟨xs, e _ h, r.mono k⟩
theorem Ls.there {H : Hp} {l : Addr} {ds : List PyData} (h : Ls H l ds) : ∃ o, H l = some o := let ⟨_, h, _⟩ := h; ⟨_, h⟩
theorem Ls.ne_none {H : Hp} {l p : Addr} {ds : List PyData} (h : Ls H l ds) (n : H p = none) : l ≠ p := let ⟨_, h, _⟩ := h; ne_of_none h n
theorem Ls.ints {H : Hp} {l : Addr} {ns : List Int} (h : Ls H l (ns.map .int)) : H l = some (.lst (ns.map V.int)) := let ⟨_, h, r⟩ := h; by rw [r.ints_inv] at h; exact h
theorem Ls.bools {H : Hp} {l : Addr} {ns : List Bool} (h : Ls H l (ns.map .bool)) : H l = some (.lst (ns.map V.bl)) := let ⟨_, h, r⟩ := h; by rw [r.bools_inv] at h; exact h
theorem Ls.of_ints {H : Hp} {l : Addr} {ns : List Int} (h : H l = some (.lst (ns.map V.int))) : Ls H l (ns.map .int) := ⟨_, h, .ints _⟩
theorem Ls.of_bools {H : Hp} {l : Addr} {ns : List Bool} (h : H l = some (.lst (ns.map V.bl))) : Ls H l (ns.map .bool) := ⟨_, h, .bools _⟩
end Hk


namespace Hk
open PySem PySem.Spec PyProof.Rows L2
/-! ### what evaluates to what -/
def EvD (te : TE) (σ : L2.St) (H : Hp) (d : PyData) : Prop := ∀ H1, Ex H H1 → ∀ Q : VK, (∀ v H2, Ex H1 H2 → Tp H2 v d → Q v H2) → te σ H1 Q
def EvV (te : TE) (σ : L2.St) (H : Hp) (v : V) : Prop := ∀ H1, Ex H H1 → ∀ Q : VK, (∀ H2, Ex H1 H2 → Q v H2) → te σ H1 Q
/-- a new list -/
def EvN (te : TE) (σ : L2.St) (H : Hp) (ds : List PyData) : Prop := ∀ H1, Ex H H1 → ∀ Q : VK, (∀ p H2, H1 p = none → Ex H1 H2 → Ls H2 p ds → Q (.ref p) H2) → te σ H1 Q
def EvT (tt : TT) (σ : L2.St) (H : Hp) (b : Bool) : Prop := ∀ H1, Ex H H1 → ∀ Q : Bool → Hp → Prop, (∀ H2, Ex H1 H2 → Q b H2) → tt σ H1 Q
def EvA (ta : TA) (σ : L2.St) (H : Hp) (ds : List PyData) : Prop := ∀ H1, Ex H H1 → ∀ Q : List V → Hp → Prop, (∀ vs H2, Ex H1 H2 → TpAll H2 vs ds → Q vs H2) → ta σ H1 Q
def EvO (to : TO) (σ : L2.St) (H : Hp) (o : Option Int) : Prop := ∀ H1, Ex H H1 → ∀ Q : Option Int → Hp → Prop, (∀ H2, Ex H1 H2 → Q o H2) → to σ H1 Q
/-- arguments: data, or a value as it is -/
inductive AK where
  | dat (d : PyData) | val (v : V) | lst (ds : List PyData)
def AkOk (H : Hp) (v : V) : AK → Prop
  | .dat d => Tp H v d
  | .val w => v = w
  | .lst ds => ∃ l, v = .ref l ∧ Ls H l ds
theorem AkOk.ex {H H' : Hp} (e : Ex H H') {v : V} : ∀ {a : AK}, AkOk H v a → AkOk H' v a
  | .dat _, h => Tp.ex e h
  | .val _, h => h
  | .lst _, ⟨l, a, b⟩ => ⟨l, a, b.ex e⟩
def AkAll (H : Hp) : List V → List AK → Prop
  | [], [] => True
  | v :: vs, a :: as => AkOk H v a ∧ AkAll H vs as
  | _, _ => False
theorem AkAll.ex {H H' : Hp} (e : Ex H H') : ∀ {vs : List V} {as : List AK}, AkAll H vs as → AkAll H' vs as
  | [], [], _ => trivial
  | _ :: _, _ :: _, ⟨a, r⟩ => ⟨a.ex e, AkAll.ex e r⟩
def EvM (ta : TA) (σ : L2.St) (H : Hp) (as : List AK) : Prop := ∀ H1, Ex H H1 → ∀ Q : List V → Hp → Prop, (∀ vs H2, Ex H1 H2 → AkAll H2 vs as → Q vs H2) → ta σ H1 Q
section
variable {K : PySem.W.Frag} {σ : L2.St} {H H' : Hp} {ta tb tc te tx : TE} {t u : TT} {x y z v : V} {d d' : PyData} {ds es : List PyData}
theorem EvD.mono (e : Ex H H') (h : EvD te σ H d) : EvD te σ H' d := fun H1 e1 Q q => h H1 (e.trans e1) Q q
theorem EvV.mono (e : Ex H H') (h : EvV te σ H v) : EvV te σ H' v := fun H1 e1 Q q => h H1 (e.trans e1) Q q
theorem EvN.mono (e : Ex H H') (h : EvN te σ H ds) : EvN te σ H' ds := fun H1 e1 Q q => h H1 (e.trans e1) Q q
theorem EvT.mono {b : Bool} (e : Ex H H') (h : EvT t σ H b) : EvT t σ H' b := fun H1 e1 Q q => h H1 (e.trans e1) Q q
theorem EvD.is (h : EvD te σ H d) (e : d = d') : EvD te σ H d' := e ▸ h
theorem EvT.is {b c : Bool} (h : EvT t σ H b) (e : b = c) : EvT t σ H c := e ▸ h
/-! values -/
theorem evv_var {i : Nat} (h : σ[i]? = some (some v)) : EvV (tVar i) σ H v := fun H1 _ Q q => ⟨v, h, q H1 (Ex.refl _)⟩
theorem evd_var {i : Nat} (h : σ[i]? = some (some v)) (t : Tp H v d) : EvD (tVar i) σ H d := fun H1 e Q q => ⟨v, h, q v H1 (Ex.refl _) (t.ex e)⟩
theorem evd_int {i : Int} : EvD (tC (.int i)) σ H (.int i) := fun H1 _ Q q => q _ H1 (Ex.refl _) (.int i)
theorem evd_bl {b : Bool} : EvD (tC (.bl b)) σ H (.bool b) := fun H1 _ Q q => q _ H1 (Ex.refl _) (.bl b)
theorem evd_non : EvD (tC .non) σ H .none := fun H1 _ Q q => q _ H1 (Ex.refl _) .non
theorem EvD.int {i : Int} (h : EvD te σ H (.int i)) : EvV te σ H (.int i) := fun H1 e Q q => h H1 e _ fun v H2 e2 t => by rw [t.int_inv]; exact q H2 e2
theorem EvD.bl {b : Bool} (h : EvD te σ H (.bool b)) : EvV te σ H (.bl b) := fun H1 e Q q => h H1 e _ fun v H2 e2 t => by rw [t.bl_inv]; exact q H2 e2
theorem EvV.int {i : Int} (h : EvV te σ H (.int i)) : EvD te σ H (.int i) := fun H1 e Q q => h H1 e _ fun H2 e2 => q _ H2 e2 (.int i)
theorem EvV.bl {b : Bool} (h : EvV te σ H (.bl b)) : EvD te σ H (.bool b) := fun H1 e Q q => h H1 e _ fun H2 e2 => q _ H2 e2 (.bl b)
/-! two-place operations -/
theorem evd_op {r : R2} {a b : PyData} (ha : EvD ta σ H a) (hb : EvD tb σ H b)
    (hr : ∀ x y H1, Ex H H1 → Tp H1 x a → Tp H1 y b → ∀ Q : VK, (∀ v H2, Ex H1 H2 → Tp H2 v d → Q v H2) → r x y H1 Q) : EvD (tOp r ta tb) σ H d :=
  fun H1 e1 Q q => ha H1 e1 _ fun x H2 e2 tx => hb H2 (e1.trans e2) _ fun y H3 e3 ty => hr x y H3 ((e1.trans e2).trans e3) (tx.ex e3) ty Q fun v H4 e4 tv => q v H4 ((e2.trans e3).trans e4) tv
theorem evd_II {f : Int → Int → Int} {i j : Int} (ha : EvD ta σ H (.int i)) (hb : EvD tb σ H (.int j)) : EvD (tOp (rI0 fun i j => .int (f i j)) ta tb) σ H (.int (f i j)) :=
  evd_op ha hb fun x y H1 _ tx ty Q q => ⟨i, j, tx.int_inv, ty.int_inv, q _ H1 (Ex.refl _) (.int _)⟩
theorem evd_IB {f : Int → Int → Bool} {i j : Int} (ha : EvD ta σ H (.int i)) (hb : EvD tb σ H (.int j)) : EvD (tOp (rI0 fun i j => .bl (f i j)) ta tb) σ H (.bool (f i j)) :=
  evd_op ha hb fun x y H1 _ tx ty Q q => ⟨i, j, tx.int_inv, ty.int_inv, q _ H1 (Ex.refl _) (.bl _)⟩
theorem evd_IC {C : Int → Int → Prop} {f : Int → Int → Int} {i j : Int} (ha : EvD ta σ H (.int i)) (hb : EvD tb σ H (.int j)) (hc : C i j) : EvD (tOp (rI C fun i j => .int (f i j)) ta tb) σ H (.int (f i j)) :=
  evd_op ha hb fun x y H1 _ tx ty Q q => ⟨i, j, tx.int_inv, ty.int_inv, hc, q _ H1 (Ex.refl _) (.int _)⟩
theorem evd_eqI {i j : Int} (ha : EvD ta σ H (.int i)) (hb : EvD tb σ H (.int j)) : EvD (tOp rEq ta tb) σ H (.bool (decide (i = j))) :=
  evd_op ha hb fun x y H1 _ tx ty Q q => by
    rw [tx.int_inv, ty.int_inv]
    refine ⟨rfl, ?_⟩
    have e : decide (V.int i = V.int j) = decide (i = j) := by rw [dec_int]; exact (Bool.beq_eq_decide_eq i j)
    rw [e]; exact q _ H1 (Ex.refl _) (.bl _)
theorem evd_neI {i j : Int} (ha : EvD ta σ H (.int i)) (hb : EvD tb σ H (.int j)) : EvD (tOp rNe ta tb) σ H (.bool (!decide (i = j))) :=
  evd_op ha hb fun x y H1 _ tx ty Q q => by
    rw [tx.int_inv, ty.int_inv]
    refine ⟨rfl, ?_⟩
    have e : decide (V.int i = V.int j) = decide (i = j) := by rw [dec_int]; exact (Bool.beq_eq_decide_eq i j)
    rw [e]; exact q _ H1 (Ex.refl _) (.bl _)
theorem evd_neB {i j : Bool} (ha : EvD ta σ H (.bool i)) (hb : EvD tb σ H (.bool j)) : EvD (tOp rNe ta tb) σ H (.bool (!decide (i = j))) :=
  evd_op ha hb fun x y H1 _ tx ty Q q => by
    rw [tx.bl_inv, ty.bl_inv]
    refine ⟨rfl, ?_⟩
    have e : decide (V.bl i = V.bl j) = decide (i = j) := by rw [dec_bl]; exact (Bool.beq_eq_decide_eq i j)
    rw [e]; exact q _ H1 (Ex.refl _) (.bl _)
theorem evd_eqD {a b : PyData} {k : Bool} (ha : EvD ta σ H a) (hb : EvD tb σ H b) (sa : SeqAt.shaped a = true) (sb : SeqAt.shaped b = true) (e : PyData.eqv a b = k) : EvD (tOp (rEqD K) ta tb) σ H (.bool k) :=
  evd_op ha hb fun x y H1 _ tx ty Q q => ⟨a, b, tx.dp, ty.dp, sa, sb, by rw [e]; exact q _ H1 (Ex.refl _) (.bl _)⟩
theorem evd_neD {a b : PyData} {k : Bool} (ha : EvD ta σ H a) (hb : EvD tb σ H b) (sa : SeqAt.shaped a = true) (sb : SeqAt.shaped b = true) (e : PyData.eqv a b = k) : EvD (tOp (rNeD K) ta tb) σ H (.bool (!k)) :=
  evd_op ha hb fun x y H1 _ tx ty Q q => ⟨a, b, tx.dp, ty.dp, sa, sb, by rw [e]; exact q _ H1 (Ex.refl _) (.bl _)⟩
/-! items -/
theorem atI_tp {H : Hp} {xs : List V} {ds : List PyData} {i : Int} {d : PyData} (r : TpAll H xs ds) (h : atI ds i = some d) : ∃ v, atI xs i = some v ∧ Tp H v d := by
  unfold atI at h ⊢
  rw [r.length]
  cases e : ixN ds.length i with
  | none => rw [e] at h; cases h
  | some j =>
    rw [e] at h
    obtain ⟨v, hv, tv⟩ := r.get h
    exact ⟨v, by rw [Option.bind_some]; exact hv, tv⟩
theorem evd_ixT {i : Int} (ha : EvD ta σ H (.tuple ds)) (hb : EvD tb σ H (.int i)) (h : atI ds i = some d) : EvD (tOp (rIxT K) ta tb) σ H d :=
  evd_op ha hb fun x y H1 _ tx ty Q q => by
    obtain ⟨a, xs, rfl, ha, r⟩ := tx.tup_inv
    obtain ⟨v, hv, tv⟩ := atI_tp r h
    exact ⟨a, xs, i, v, rfl, ty.int_inv, (.inl ha), hv, q v H1 (Ex.refl _) tv⟩
theorem evd_ixL {i : Int} {l : Addr} (ha : EvV ta σ H (.ref l)) (hl : Ls H l ds) (hb : EvD tb σ H (.int i)) (h : atI ds i = some d) : EvD (tOp (rIxL K) ta tb) σ H d :=
  fun H1 e1 Q q => ha H1 e1 _ fun H2 e2 => hb H2 (e1.trans e2) _ fun y H3 e3 ty => by
    obtain ⟨xs, hx, r⟩ := hl.ex ((e1.trans e2).trans e3)
    obtain ⟨v, hv, tv⟩ := atI_tp r h
    exact ⟨l, xs, i, v, rfl, ty.int_inv, SqL.of hx, hv, q v H3 (e2.trans e3) tv⟩
/-- an item of a list that has just been made -/
theorem evd_ixN {i : Int} (ha : EvN ta σ H ds) (hb : EvD tb σ H (.int i)) (h : atI ds i = some d) : EvD (tOp (rIxL K) ta tb) σ H d :=
  fun H1 e1 Q q => ha H1 e1 _ fun p H2 np e2 hl => hb H2 (e1.trans e2) _ fun y H3 e3 ty => by
    obtain ⟨xs, hx, r⟩ := hl.ex e3
    obtain ⟨v, hv, tv⟩ := atI_tp r h
    exact ⟨p, xs, i, v, rfl, ty.int_inv, SqL.of hx, hv, q v H3 (e2.trans e3) tv⟩
/-! len -/
def rLenA (K : PySem.W.Frag) : List V → Hp → VK → Prop := fun xs H Q => ∃ x n, xs = [x] ∧ LenV K x H n ∧ Q (.int n) H
theorem call_lenA {X : Cx} : CallR X (.builtin "len") (rLenA X.K) := call_len
theorem evd_lenT (ha : EvD ta σ H (.tuple ds)) : EvD (tCB (rLenA K) (tCons ta tNil)) σ H (.int (ds.length : Int)) :=
  fun H1 e1 Q q => ha H1 e1 _ fun x H2 e2 tx => by
    obtain ⟨a, xs, rfl, ha, r⟩ := tx.tup_inv
    exact ⟨.ref a, xs.length, rfl, .inr ⟨xs, (.inl ha), rfl⟩, q _ H2 e2 (by rw [r.length]; exact .int _)⟩
theorem evd_lenL {l : Addr} (ha : EvV ta σ H (.ref l)) (hl : Ls H l ds) : EvD (tCB (rLenA K) (tCons ta tNil)) σ H (.int (ds.length : Int)) :=
  fun H1 e1 Q q => ha H1 e1 _ fun H2 e2 => by
    obtain ⟨xs, hx, r⟩ := hl.ex (e1.trans e2)
    exact ⟨.ref l, xs.length, rfl, .inl ⟨xs, SqL.of hx, rfl⟩, q _ H2 e2 (by rw [r.length]; exact .int _)⟩
/-! arguments, displays -/
theorem eva_nil : EvA tNil σ H [] := fun H1 _ Q q => q [] H1 (Ex.refl _) .nil
theorem eva_cons {tr : TA} (h : EvD ta σ H d) (hr : EvA tr σ H ds) : EvA (tCons ta tr) σ H (d :: ds) :=
  fun H1 e1 Q q => h H1 e1 _ fun x H2 e2 tx => hr H2 (e1.trans e2) _ fun xs H3 e3 txs => q _ H3 (e2.trans e3) (.cons (tx.ex e3) txs)
theorem evm_nil : EvM tNil σ H [] := fun H1 _ Q q => q [] H1 (Ex.refl _) trivial
theorem evm_dat {tr : TA} {as : List AK} (h : EvD ta σ H d) (hr : EvM tr σ H as) : EvM (tCons ta tr) σ H (.dat d :: as) :=
  fun H1 e1 Q q => h H1 e1 _ fun x H2 e2 tx => hr H2 (e1.trans e2) _ fun xs H3 e3 txs => q _ H3 (e2.trans e3) ⟨tx.ex e3, txs⟩
theorem evm_val {tr : TA} {as : List AK} (h : EvV ta σ H v) (hr : EvM tr σ H as) : EvM (tCons ta tr) σ H (.val v :: as) :=
  fun H1 e1 Q q => h H1 e1 _ fun H2 e2 => hr H2 (e1.trans e2) _ fun xs H3 e3 txs => q _ H3 (e2.trans e3) ⟨rfl, txs⟩
theorem evm_lst {tr : TA} {as : List AK} (h : EvN ta σ H ds) (hr : EvM tr σ H as) : EvM (tCons ta tr) σ H (.lst ds :: as) :=
  fun H1 e1 Q q => h H1 e1 _ fun p H2 np e2 l2 => hr H2 (e1.trans e2) _ fun xs H3 e3 txs => q _ H3 (e2.trans e3) ⟨⟨p, rfl, l2.ex e3⟩, txs⟩
theorem small_le {n : Nat} (h : n ≤ 100000) : n ≤ sizeLine := by rw [sizeLine_eq]; omega
theorem small_lt {n : Nat} (h : n < 100000) : n < sizeLine := by rw [sizeLine_eq]; omega
theorem evd_tup {ta : TA} (h : EvA ta σ H ds) (hl : ds.length ≤ 100000 := by exact Nat.le_of_ble_eq_true rfl) : EvD (tTup ta) σ H (.tuple ds) :=
  fun H1 e1 Q q => h H1 e1 _ fun xs H2 e2 txs => ⟨small_le (by rw [txs.length]; exact hl), fun p hp => q _ _ (e2.trans (Ex.new hp)) (.tup (.inl upd_same) (txs.ex (Ex.new hp)))⟩
theorem evn_lst {ta : TA} (h : EvA ta σ H ds) (hl : ds.length ≤ 100000 := by exact Nat.le_of_ble_eq_true rfl) : EvN (tLst ta) σ H ds :=
  fun H1 e1 Q q => h H1 e1 _ fun xs H2 e2 txs => ⟨small_le (by rw [txs.length]; exact hl), fun p hp => q p _ (e2.back hp) (e2.trans (Ex.new hp)) ⟨xs, upd_same, txs.ex (Ex.new hp)⟩⟩
/-! and, or, not, if as values -/
theorem evt_test {b : Bool} (h : EvD te σ H (.bool b)) : EvT (tTest te) σ H b := fun H1 e1 Q q => h H1 e1 _ fun v H2 e2 tv => ⟨b, tv.bl_inv, q H2 e2⟩
theorem evt_B {b : Bool} (h : EvD te σ H (.bool b)) : EvT (tB te) σ H b := fun H1 e1 Q q => h H1 e1 _ fun v H2 e2 tv => ⟨b, tv.bl_inv, q H2 e2⟩
theorem evt_and {a b : Bool} (h1 : EvT t σ H a) (h2 : a = true → EvT u σ H b) : EvT (tAnd t u) σ H (a && b) :=
  fun H1 e1 Q q => h1 H1 e1 _ fun H2 e2 => by
    cases a with
    | true => exact iteT (h2 rfl H2 (e1.trans e2) Q fun H3 e3 => q H3 (e2.trans e3))
    | false => exact iteF (q H2 e2)
theorem evt_or {a b : Bool} (h1 : EvT t σ H a) (h2 : a = false → EvT u σ H b) : EvT (tOr t u) σ H (a || b) :=
  fun H1 e1 Q q => h1 H1 e1 _ fun H2 e2 => by
    cases a with
    | true => exact iteT (q H2 e2)
    | false => exact iteF (h2 rfl H2 (e1.trans e2) Q fun H3 e3 => q H3 (e2.trans e3))
theorem evt_not {a : Bool} (h1 : EvT t σ H a) : EvT (tNot t) σ H (!a) := fun H1 e1 Q q => h1 H1 e1 _ fun H2 e2 => q H2 e2
theorem evd_and {a b : Bool} (h1 : EvD ta σ H (.bool a)) (h2 : a = true → EvD tb σ H (.bool b)) : EvD (tAndV ta tb) σ H (.bool (a && b)) :=
  fun H1 e1 Q q => h1 H1 e1 _ fun v H2 e2 tv => ⟨a, tv.bl_inv, by
    cases a with
    | true => exact iteT (h2 rfl H2 (e1.trans e2) Q fun w H3 e3 tw => q w H3 (e2.trans e3) tw)
    | false => exact iteF (q _ H2 e2 (.bl _))⟩
theorem evd_or {a b : Bool} (h1 : EvD ta σ H (.bool a)) (h2 : a = false → EvD tb σ H (.bool b)) : EvD (tOrV ta tb) σ H (.bool (a || b)) :=
  fun H1 e1 Q q => h1 H1 e1 _ fun v H2 e2 tv => ⟨a, tv.bl_inv, by
    cases a with
    | true => exact iteT (q _ H2 e2 (.bl _))
    | false => exact iteF (h2 rfl H2 (e1.trans e2) Q fun w H3 e3 tw => q w H3 (e2.trans e3) tw)⟩
theorem evd_not {a : Bool} (h1 : EvD ta σ H (.bool a)) : EvD (tNotV ta) σ H (.bool (!a)) := fun H1 e1 Q q => h1 H1 e1 _ fun v H2 e2 tv => ⟨a, tv.bl_inv, q _ H2 e2 (.bl _)⟩
theorem evd_if {b : Bool} (h : EvT t σ H b) (h1 : b = true → EvD ta σ H d) (h2 : b = false → EvD tb σ H d) : EvD (tIf t ta tb) σ H d :=
  fun H1 e1 Q q => h H1 e1 _ fun H2 e2 => by
    cases b with
    | true => exact iteT (h1 rfl H2 (e1.trans e2) Q fun w H3 e3 tw => q w H3 (e2.trans e3) tw)
    | false => exact iteF (h2 rfl H2 (e1.trans e2) Q fun w H3 e3 tw => q w H3 (e2.trans e3) tw)
/-! is None -/
theorem evd_isN {k : Bool} (ha : EvD ta σ H d) (hk : (match d with | .none => true | _ => false) = k) : EvD (tOp (fun x y H Q => y = .non ∧ Q (.bl (decide (x = .non))) H) ta (tC .non)) σ H (.bool k) :=
  fun H1 e1 Q q => ha H1 e1 _ fun x H2 e2 tx => ⟨rfl, by
    have e : decide (x = V.non) = k := by rw [← hk]; cases tx <;> rfl
    rw [e]; exact q _ H2 e2 (.bl _)⟩
theorem evd_notN {k : Bool} (ha : EvD ta σ H d) (hk : (match d with | .none => true | _ => false) = k) : EvD (tOp (fun x y H Q => y = .non ∧ Q (.bl (!decide (x = .non))) H) ta (tC .non)) σ H (.bool (!k)) :=
  fun H1 e1 Q q => ha H1 e1 _ fun x H2 e2 tx => ⟨rfl, by
    have e : decide (x = V.non) = k := by rw [← hk]; cases tx <;> rfl
    rw [e]; exact q _ H2 e2 (.bl _)⟩
/-! slices, + of tuples, tuple(list) -/
theorem evo_none : EvO tNoPart σ H none := fun H1 _ Q q => q H1 (Ex.refl _)
theorem evo_some {i : Int} (h : EvD te σ H (.int i)) : EvO (tPart te) σ H (some i) := fun H1 e1 Q q => h H1 e1 _ fun v H2 e2 tv => ⟨i, tv.int_inv, q H2 e2⟩
/-- the items of a slice -/
def cutD (ds : List PyData) (lo hi : Option Int) : List PyData := (ds.drop (HT.sIx ds.length 0 lo)).take (HT.sIx ds.length ds.length hi - HT.sIx ds.length 0 lo)
theorem cutV_tp {H : Hp} {xs : List V} {ds : List PyData} (r : TpAll H xs ds) (lo hi : Option Int) : TpAll H (cutV xs lo hi) (cutD ds lo hi) := by
  unfold cutV cutD; rw [r.length]; exact (r.drop _).take _
theorem cutD_whole {ds : List PyData} {lo hi : Option Int} (h : HT.sIx ds.length 0 lo = 0 ∧ HT.sIx ds.length ds.length hi = ds.length) : cutD ds lo hi = ds := by
  unfold cutD; rw [h.1, h.2]; simp
theorem evd_slT {tl th : TO} {lo hi : Option Int} (ha : EvD ta σ H (.tuple ds)) (h1 : EvO tl σ H lo) (h2 : EvO th σ H hi) : EvD (tSl (rSlA K) ta tl th) σ H (.tuple (cutD ds lo hi)) :=
  fun H1 e1 Q q => ha H1 e1 _ fun x H2 e2 tx => h1 H2 (e1.trans e2) _ fun H3 e3 => h2 H3 ((e1.trans e2).trans e3) _ fun H4 e4 => by
    obtain ⟨a, xs, rfl, ha, r⟩ := (tx.ex (e3.trans e4)).tup_inv
    refine ⟨a, xs, rfl, (.inl ha), fun w => ?_, fun w p hp => ?_⟩
    · rw [r.length] at w
      exact q _ H4 ((e2.trans e3).trans e4) (by rw [cutD_whole w]; exact .tup ha r)
    · exact q _ _ (((e2.trans e3).trans e4).trans (Ex.new hp)) (.tup (.inl upd_same) ((cutV_tp r lo hi).ex (Ex.new hp)))
theorem evd_catT (ha : EvD ta σ H (.tuple ds)) (hb : EvD tb σ H (.tuple es)) (hl : ds.length + es.length ≤ 100000) : EvD (tOp (rCatA K) ta tb) σ H (.tuple (ds ++ es)) :=
  evd_op ha hb fun x y H1 _ tx ty Q q => by
    obtain ⟨a, xs, rfl, ha, r⟩ := tx.tup_inv
    obtain ⟨b, ys, rfl, hb, r'⟩ := ty.tup_inv
    refine ⟨a, b, xs, ys, rfl, rfl, (.inl ha), (.inl hb), small_le (by rw [r.length, r'.length]; exact hl), fun w => ?_, fun _ w => ?_, fun _ _ p hp => ?_⟩
    · subst w; cases r; exact q _ H1 (Ex.refl _) (.tup hb r')
    · subst w; cases r'; rw [List.append_nil] at q; exact q _ H1 (Ex.refl _) (.tup ha r)
    · exact q _ _ (Ex.new hp) (.tup (.inl upd_same) ((r.append r').ex (Ex.new hp)))
/-- l[lo:hi] of a list: a new list -/
theorem evn_slL {tl th : TO} {lo hi : Option Int} {l : Addr} (ha : EvV ta σ H (.ref l)) (hl : Ls H l ds) (h1 : EvO tl σ H lo) (h2 : EvO th σ H hi) : EvN (tSl (rSlL K) ta tl th) σ H (cutD ds lo hi) :=
  fun H1 e1 Q q => ha H1 e1 _ fun H2 e2 => h1 H2 (e1.trans e2) _ fun H3 e3 => h2 H3 ((e1.trans e2).trans e3) _ fun H4 e4 => by
    obtain ⟨xs, hx, r⟩ := hl.ex (((e1.trans e2).trans e3).trans e4)
    refine ⟨l, xs, rfl, SqL.of hx, fun p hp => ?_⟩
    exact q p _ (((e2.trans e3).trans e4).back hp) (((e2.trans e3).trans e4).trans (Ex.new hp)) ⟨_, upd_same, (cutV_tp r lo hi).ex (Ex.new hp)⟩
/-- tuple(x) of a new list -/
theorem evd_tupN (ha : EvN ta σ H ds) : EvD (tThen ta (kTup K)) σ H (.tuple ds) :=
  fun H1 e1 Q q => ha H1 e1 _ fun p H2 np e2 hl => by
    obtain ⟨xs, hx, r⟩ := hl
    exact .inl ⟨p, xs, rfl, SqL.of hx, fun w hw => q _ _ (e2.trans (Ex.new hw)) (.tup (.inl upd_same) (r.ex (Ex.new hw)))⟩
theorem evd_tupL {l : Addr} (ha : EvV ta σ H (.ref l)) (hl : Ls H l ds) : EvD (tThen ta (kTup K)) σ H (.tuple ds) :=
  fun H1 e1 Q q => ha H1 e1 _ fun H2 e2 => by
    obtain ⟨xs, hx, r⟩ := hl.ex (e1.trans e2)
    exact .inl ⟨l, xs, rfl, SqL.of hx, fun w hw => q _ _ (e2.trans (Ex.new hw)) (.tup (.inl upd_same) (r.ex (Ex.new hw)))⟩
/-- list(x) of a list, of a tuple -/
def rListA (K : PySem.W.Frag) : List V → Hp → VK → Prop := fun xs H Q => ∃ p ys, xs = [.ref p] ∧ (SqL K H p ys ∨ SqT K H p ys) ∧ ∀ l, H l = none → Q (.ref l) (upd H l (.lst ys))
theorem call_listA {X : Cx} : CallR X (.type "list") (rListA X.K) := call_list_of
theorem evn_listT (ha : EvD ta σ H (.tuple ds)) : EvN (tCB (rListA K) (tCons ta tNil)) σ H ds :=
  fun H1 e1 Q q => ha H1 e1 _ fun x H2 e2 tx => by
    obtain ⟨a, xs, rfl, ha, r⟩ := tx.tup_inv
    exact ⟨a, xs, rfl, .inr ((.inl ha)), fun p hp => q p _ (e2.back hp) (e2.trans (Ex.new hp)) ⟨xs, upd_same, r.ex (Ex.new hp)⟩⟩
theorem evn_listL {l : Addr} (ha : EvV ta σ H (.ref l)) (hl : Ls H l ds) : EvN (tCB (rListA K) (tCons ta tNil)) σ H ds :=
  fun H1 e1 Q q => ha H1 e1 _ fun H2 e2 => by
    obtain ⟨xs, hx, r⟩ := hl.ex (e1.trans e2)
    exact ⟨l, xs, rfl, .inl (SqL.of hx), fun p hp => q p _ (e2.back hp) (e2.trans (Ex.new hp)) ⟨xs, upd_same, r.ex (Ex.new hp)⟩⟩
/-! lists: +, * -/
theorem evn_cat (ha : EvN ta σ H ds) (hb : EvN tb σ H es) (hl : ds.length + es.length ≤ 100000) : EvN (tOp rCat ta tb) σ H (ds ++ es) :=
  fun H1 e1 Q q => ha H1 e1 _ fun p H2 np e2 hp => hb H2 (e1.trans e2) _ fun p' H3 np' e3 hp' => by
    obtain ⟨xs, hx, r⟩ := hp.ex e3
    obtain ⟨ys, hy, r'⟩ := hp'
    refine ⟨p, p', xs, ys, rfl, rfl, hx, hy, small_le (by rw [r.length, r'.length]; exact hl), fun w hw => ?_⟩
    exact q w _ ((e2.trans e3).back hw) ((e2.trans e3).trans (Ex.new hw)) ⟨_, upd_same, (r.append r').ex (Ex.new hw)⟩
theorem flat_rep {α : Type} (n : Nat) (x : α) : (List.replicate n [x]).flatten = List.replicate n x := by
  induction n with
  | zero => rfl
  | succ n ih => rw [List.replicate_succ, List.flatten_cons, ih]; rfl
/-- [x] * n -/
theorem evn_rep1 {n : Int} (ha : EvN ta σ H [d]) (hb : EvD tb σ H (.int n)) (hn : n ≤ 100000) (h0 : -100000 ≤ n) : EvN (tOp rRep ta tb) σ H (List.replicate n.toNat d) :=
  fun H1 e1 Q q => ha H1 e1 _ fun p H2 np e2 hp => hb H2 (e1.trans e2) _ fun y H3 e3 ty => by
    obtain ⟨xs, hx, r⟩ := hp.ex e3
    cases r with
    | cons tv rn =>
      cases rn
      refine ⟨p, n, _, rfl, ty.int_inv, hx, by omega, by omega, small_le (by simp; omega), fun w hw => ?_⟩
      refine q w _ ((e2.trans e3).back hw) ((e2.trans e3).trans (Ex.new hw)) ⟨_, upd_same, ?_⟩
      rw [flat_rep]
      exact (TpAll.rep tv n.toNat).ex (Ex.new hw)
end
end Hk


namespace Hk
open PySem PySem.Spec PyProof.Rows L2
/-! ### a def that may be called by its name -/
structure Cal (P : Program) (w : World) (K : PySem.W.Frag) (mg : Str → Option Value) (base : Heap) (CX : CXT) (k : Nat) (x : Str) (ps : List Str) (sp : Sp) : Prop where
  ex : ∃ f fd, FnOk P w K mg base CX k f fd ps sp ∧ mg x = some (.ref f) ∧ PySem.W.keepIn K (.ref f) = true ∧ Binds K fd ps []
/-- a def of the text -/
structure DefIn (K : PySem.W.Frag) (mg : Str → Option Value) (x : Str) (st : Stmt) : Prop where
  ex : ∃ f fd, Fun K x x st f fd ∧ mg x = some (.ref f)
section
variable {X : Cx} {CX : CXT} {k : Nat} {x : Str} {ps : List Str} {sp : Sp} {E : XK} {p pos : Pos} {e : Expr} {es : List Expr} {t : TA}
theorem pe_callC (C : Cal X.prog X.w X.K X.mg X.base CX k x ps sp) (hr : Room k X.A) (hx : Passes CX X E) (ha : PA X (e :: es) t) (hg : Gl X x := by rfl) (hdb : (x == ("__debug__" : Str)) = false := by decide)
    (he : starEach (e :: es) X.env = (false, eval e X.env) :: starEach es X.env := by rfl) (hpl : (backTo pos (starEach es X.env)).any (·.1) = false := by rfl) : PE X (.Call (.Name x p) (e :: es) [] pos) (tCall sp [] E t) := by
  obtain ⟨f, fd, F, m, kp, b⟩ := C.ex
  exact pe_call F hr hg m kp b .nil hx ha hdb he hpl
end
/-! ### promises -/
/-- hands back data, writes nothing -/
def spP (R : Hp → List V → PyData → Prop) : Sp := fun vs H Q _ => ∃ d, R H vs d ∧ ∀ v H', Ex H H' → Tp H' v d → Q v H'
/-- .. of data -/
def spD (R : List PyData → PyData → Prop) : Sp := spP fun H vs d => ∃ ds, TpAll H vs ds ∧ R ds d
/-- hands back a new list of data, writes nothing -/
def spN (R : Hp → List V → List PyData → Prop) : Sp := fun vs H Q _ => ∃ ds, R H vs ds ∧ ∀ p H', H p = none → Ex H H' → Ls H' p ds → Q (.ref p) H'
def spND (R : List PyData → List PyData → Prop) : Sp := spN fun H vs d => ∃ ds, TpAll H vs ds ∧ R ds d
section
variable {K : PySem.W.Frag} {σ : L2.St} {H H' : Hp} {ta tb tc te tx : TE} {tr : TA} {t u : TT} {x y z v : V} {d d' : PyData} {ds es : List PyData} {D : Ends} {tu tw : TS} {g : TG} {E : XK}
theorem evd_callP {R : Hp → List V → PyData → Prop} {as : List AK} (h : EvM tr σ H as) (r : ∀ vs H1, Ex H H1 → AkAll H1 vs as → R H1 vs d) : EvD (tCall (spP R) [] E tr) σ H d :=
  fun H1 e1 Q q => h H1 e1 _ fun vs H2 e2 ok => ⟨d, by rw [List.append_nil]; exact r vs H2 (e1.trans e2) ok, fun v H3 e3 tv => q v H3 (e2.trans e3) tv⟩
theorem evd_callD {R : List PyData → PyData → Prop} (h : EvA tr σ H ds) (r : R ds d) : EvD (tCall (spD R) [] E tr) σ H d :=
  fun H1 e1 Q q => h H1 e1 _ fun vs H2 e2 ok => ⟨d, by rw [List.append_nil]; exact ⟨ds, ok, r⟩, fun v H3 e3 tv => q v H3 (e2.trans e3) tv⟩
theorem evn_callN {R : Hp → List V → List PyData → Prop} {as : List AK} (h : EvM tr σ H as) (r : ∀ vs H1, Ex H H1 → AkAll H1 vs as → R H1 vs ds) : EvN (tCall (spN R) [] E tr) σ H ds :=
  fun H1 e1 Q q => h H1 e1 _ fun vs H2 e2 ok => ⟨ds, by rw [List.append_nil]; exact r vs H2 (e1.trans e2) ok, fun p H3 hp e3 hl => q p H3 (e2.back hp) (e2.trans e3) hl⟩
theorem evn_callND {R : List PyData → List PyData → Prop} (h : EvA tr σ H es) (r : R es ds) : EvN (tCall (spND R) [] E tr) σ H ds :=
  fun H1 e1 Q q => h H1 e1 _ fun vs H2 e2 ok => ⟨ds, by rw [List.append_nil]; exact ⟨es, ok, r⟩, fun p H3 hp e3 hl => q p H3 (e2.back hp) (e2.trans e3) hl⟩
/-! ### statements -/
theorem s_seq (h : tu { D with nx := tw D } σ H) : tSeq tu tw D σ H := h
theorem s_asg {i : Nat} (h : EvD te σ H d) (k : ∀ v H1, Ex H H1 → Tp H1 v d → D.nx (σ.set i (some v)) H1) : tAsg te (gName i) D σ H := h H (Ex.refl _) _ k
theorem s_asgI {i : Nat} {n : Int} (h : EvD te σ H (.int n)) (k : ∀ H1, Ex H H1 → D.nx (σ.set i (some (.int n))) H1) : tAsg te (gName i) D σ H := h H (Ex.refl _) _ fun v H1 e1 t => by
  rw [t.int_inv]; exact k H1 e1
theorem s_asgB {i : Nat} {b : Bool} (h : EvD te σ H (.bool b)) (k : ∀ H1, Ex H H1 → D.nx (σ.set i (some (.bl b))) H1) : tAsg te (gName i) D σ H := h H (Ex.refl _) _ fun v H1 e1 t => by
  rw [t.bl_inv]; exact k H1 e1
theorem s_asgV {i : Nat} (h : EvV te σ H v) (k : ∀ H1, Ex H H1 → D.nx (σ.set i (some v)) H1) : tAsg te (gName i) D σ H := h H (Ex.refl _) _ k
theorem s_asgN {i : Nat} (h : EvN te σ H ds) (k : ∀ p H1, H p = none → Ex H H1 → Ls H1 p ds → D.nx (σ.set i (some (.ref p))) H1) : tAsg te (gName i) D σ H := h H (Ex.refl _) _ k
theorem s_ret (h : EvD te σ H d) (k : ∀ v H1, Ex H H1 → Tp H1 v d → D.rt v H1) : tRet te D σ H := h H (Ex.refl _) _ k
theorem s_retV (h : EvV te σ H v) (k : ∀ H1, Ex H H1 → D.rt v H1) : tRet te D σ H := h H (Ex.refl _) _ k
theorem s_retN (h : EvN te σ H ds) (k : ∀ p H1, H p = none → Ex H H1 → Ls H1 p ds → D.rt (.ref p) H1) : tRet te D σ H := h H (Ex.refl _) _ k
theorem s_drop (h : EvD te σ H d) (k : ∀ H1, Ex H H1 → D.nx σ H1) : tDrop te D σ H := h H (Ex.refl _) _ fun v H1 e _ => k H1 e
theorem s_if {b : Bool} (h : EvT t σ H b) (h1 : b = true → ∀ H1, Ex H H1 → tu D σ H1) (h2 : b = false → ∀ H1, Ex H H1 → tw D σ H1) : tIfS t tu tw D σ H := h H (Ex.refl _) _ fun H1 e1 => by
  cases b with
  | true => exact iteT (h1 rfl H1 e1)
  | false => exact iteF (h2 rfl H1 e1)
theorem s_next (k : D.nx σ H) : tNext D σ H := k
theorem s_augI {i : Nat} {f : Int → Int → Int} {a b : Int} (hx : σ[i]? = some (some (.int a))) (h : EvD te σ H (.int b)) (k : ∀ H1, Ex H H1 → D.nx (σ.set i (some (.int (f a b)))) H1) : tAug i te (ipI f) D σ H :=
  ⟨.int a, hx, h H (Ex.refl _) _ fun v H1 e1 tv => ⟨a, b, rfl, tv.int_inv, k H1 e1⟩⟩
/-- a, b = x, y -/
theorem s_par {i j : Nat} {as : List AK} (h : EvM tr σ H as) (k : ∀ vs H1, Ex H H1 → AkAll H1 vs as → ∃ v w, vs = [v, w] ∧ D.nx ((σ.set i (some v)).set j (some w)) H1) : tPar i j tr D σ H := h H (Ex.refl _) _ k
theorem s_parD {i j : Nat} {d e : PyData} (h : EvA tr σ H [d, e]) (k : ∀ v w H1, Ex H H1 → Tp H1 v d → Tp H1 w e → D.nx ((σ.set i (some v)).set j (some w)) H1) : tPar i j tr D σ H := h H (Ex.refl _) _ fun vs H1 e1 ok => by
  cases ok with | cons a r => cases r with | cons b r => cases r; exact ⟨_, _, rfl, k _ _ H1 e1 a b⟩
/-- targets -/
theorem g_tup2 {i j : Nat} {d e : PyData} {Q : L2.St → Hp → Prop} (h : Tp H v (.tuple [d, e])) (k : ∀ x y, Tp H x d → Tp H y e → Q ((σ.set i (some x)).set j (some y)) H) : gTup K 2 (gCons (gName i) (gCons (gName j) gNil)) v σ H Q := by
  obtain ⟨a, xs, rfl, ha, r⟩ := h.tup_inv
  cases r with | cons a1 r => cases r with | cons a2 r => cases r; exact ⟨a, _, rfl, .inl ha, rfl, _, _, rfl, _, _, rfl, rfl, k _ _ a1 a2⟩
theorem g_tup3 {i j l : Nat} {d e f : PyData} {Q : L2.St → Hp → Prop} (h : Tp H v (.tuple [d, e, f])) (k : ∀ x y z, Tp H x d → Tp H y e → Tp H z f → Q (((σ.set i (some x)).set j (some y)).set l (some z)) H) :
    gTup K 3 (gCons (gName i) (gCons (gName j) (gCons (gName l) gNil))) v σ H Q := by
  obtain ⟨a, xs, rfl, ha, r⟩ := h.tup_inv
  cases r with | cons a1 r => cases r with | cons a2 r => cases r with | cons a3 r => cases r; exact ⟨a, _, rfl, .inl ha, rfl, _, _, rfl, _, _, rfl, _, _, rfl, rfl, k _ _ _ a1 a2 a3⟩
theorem g_tup4 {i j l m : Nat} {d e f f' : PyData} {Q : L2.St → Hp → Prop} (h : Tp H v (.tuple [d, e, f, f'])) (k : ∀ x y z z', Tp H x d → Tp H y e → Tp H z f → Tp H z' f' → Q ((((σ.set i (some x)).set j (some y)).set l (some z)).set m (some z')) H) :
    gTup K 4 (gCons (gName i) (gCons (gName j) (gCons (gName l) (gCons (gName m) gNil)))) v σ H Q := by
  obtain ⟨a, xs, rfl, ha, r⟩ := h.tup_inv
  cases r with | cons a1 r => cases r with | cons a2 r => cases r with | cons a3 r => cases r with | cons a4 r => cases r; exact ⟨a, _, rfl, .inl ha, rfl, _, _, rfl, _, _, rfl, _, _, rfl, _, _, rfl, rfl, k _ _ _ _ a1 a2 a3 a4⟩
theorem s_asgG (h : EvD te σ H d) (k : ∀ v H1, Ex H H1 → Tp H1 v d → g v σ H1 D.nx) : tAsg te g D σ H := h H (Ex.refl _) _ k
/-! lists written -/
theorem ixN_at {α : Type} {xs : List α} {i : Int} {a : α} (h : atI xs i = some a) : ∃ j, ixN xs.length i = some j ∧ xs[j]? = some a ∧ j < xs.length := by
  unfold atI at h
  cases e : ixN xs.length i with
  | none => rw [e] at h; cases h
  | some j => rw [e] at h; exact ⟨j, rfl, h, (List.getElem?_eq_some_iff.mp h).1⟩
theorem ixN_nat {n j : Nat} (h : j < n) : ixN n (j : Int) = some j := by
  unfold ixN; rw [if_pos (by omega), if_pos (by omega)]; simp
/-- l[i] = e -/
theorem s_setL {l : Addr} {j : Nat} {i : Int} (h : EvD te σ H d) (ho : EvV ta σ H (.ref l)) (hi : EvD tb σ H (.int i)) (hl : Ls H l ds) (hj : ixN ds.length i = some j)
    (k : ∀ H1 H2, Ex H H1 → ExB l H1 H2 → Ls H2 l (ds.set j d) → D.nx σ H2) : tAsg te (gSub ta tb rSetL) D σ H :=
  h H (Ex.refl _) _ fun v H1 e1 tv => ho H1 e1 _ fun H2 e2 => hi H2 (e1.trans e2) _ fun y H3 e3 ty => by
    obtain ⟨xs, hx, r⟩ := hl.ex ((e1.trans e2).trans e3)
    refine ⟨l, xs, i, j, rfl, ty.int_inv, hx, by rw [r.length]; exact hj, ?_⟩
    exact k H3 _ ((e1.trans e2).trans e3) (ExB.upd l H3 _) ⟨_, upd_same, ((r.set j (tv.ex (e2.trans e3)))).mono (TK.updL hx)⟩
/-- l.append(e) -/
theorem s_app {l : Addr} (ho : EvV ta σ H (.ref l)) (h : EvD te σ H d) (hl : Ls H l ds) (hz : ds.length < 100000)
    (k : ∀ H1 H2, Ex H H1 → ExB l H1 H2 → Ls H2 l (ds ++ [d]) → D.nx σ H2) : tDrop (tBM K "list" rAppend ta (tCons te tNil)) D σ H :=
  ho H (Ex.refl _) _ fun H1 e1 => by
    obtain ⟨xs0, hx0, _⟩ := hl.ex e1
    refine ⟨.inl ⟨rfl, _, SqL.of hx0⟩, h H1 e1 _ fun v H2 e2 tv => ?_⟩
    obtain ⟨xs, hx, r⟩ := hl.ex (e1.trans e2)
    refine ⟨l, xs, v, rfl, rfl, hx, small_lt (by rw [r.length]; exact hz), ?_⟩
    exact k H2 _ (e1.trans e2) (ExB.upd l H2 _) ⟨_, upd_same, (r.append (.cons tv .nil)).mono (TK.updL hx)⟩
/-- l.pop() as a value -/
theorem v_pop {l : Addr} {Q : VK} (ho : EvV ta σ H (.ref l)) (hl : Ls H l (ds ++ [d]))
    (k : ∀ v H1 H2, Ex H H1 → ExB l H1 H2 → Ls H2 l ds → Tp H2 v d → Q v H2) : tBM K "list" rPop ta tNil σ H Q :=
  ho H (Ex.refl _) _ fun H1 e1 => by
    obtain ⟨xs, hx, r⟩ := hl.ex e1
    refine ⟨.inl ⟨rfl, _, SqL.of hx⟩, ?_⟩
    have hlen : xs.length = ds.length + 1 := by rw [r.length]; simp
    obtain ⟨v, hv, tv⟩ := r.get (i := ds.length) (d := d) (by simp)
    refine ⟨l, xs, v, rfl, rfl, hx, by rw [hlen]; exact hv, ?_⟩
    have r2 : TpAll H1 xs.dropLast ds := by
      have := r.take ds.length
      rw [List.dropLast_eq_take, hlen]
      simpa using this
    exact k v H1 _ e1 (ExB.upd l H1 _) ⟨_, upd_same, r2.mono (TK.updL hx)⟩ (tv.mono (TK.updL hx))
/-! loops -/
theorem s_while (W : Nat → L2.St → Hp → Prop) (m0 : Nat) (h0 : W m0 σ H)
    (hs : ∀ m σ' H', W m σ' H' → ∃ b, EvT t σ' H' b ∧ (b = true → ∀ H1, Ex H' H1 → ∃ N : L2.St → Hp → Prop, (∀ σ2 H2, N σ2 H2 → ∃ m', m' < m ∧ W m' σ2 H2) ∧ tu { D with nx := N, ct := N, bk := D.nx } σ' H1) ∧ (b = false → ∀ H1, Ex H' H1 → D.nx σ' H1)) : tWhile t tu D σ H := by
  refine ⟨W, ⟨m0, h0⟩, fun m σ' H' w => ?_⟩
  obtain ⟨b, ht, h1, h2⟩ := hs m σ' H' w
  refine ht H' (Ex.refl _) _ fun H1 e1 => ?_
  cases b with
  | true => exact iteT (h1 rfl H1 e1)
  | false => exact iteF (h2 rfl H1 e1)
/-- over a tuple of data -/
theorem s_forT {tl : TE} (h : EvD tl σ H (.tuple ds)) (Pv : Hp → Nat → L2.St → Hp → Prop) (h0 : ∀ H1, Ex H H1 → Pv H1 0 σ H1) (hk : ∀ H1 i σ' H', Pv H1 i σ' H' → TK H1 H')
    (hs : ∀ H1 i d v σ' H', Ex H H1 → ds[i]? = some d → Pv H1 i σ' H' → Tp H' v d → g v σ' H' fun σ2 H2 => tu { D with nx := Pv H1 (i + 1), ct := Pv H1 (i + 1), bk := D.nx } σ2 H2)
    (hd : ∀ H1 σ' H', Ex H H1 → Pv H1 ds.length σ' H' → D.nx σ' H') : tFor (iTup K tl) g tu D σ H :=
  h H (Ex.refl _) _ fun v H1 e1 tv => by
    obtain ⟨a, xs, rfl, ha, r⟩ := tv.tup_inv
    refine ⟨a, rfl, ⟨xs, .inl ha⟩, for_tup (K := K) (a := a) (xs := xs) (Pv H1) (h0 H1 e1) (fun i σ' H' _ p => .inl ((hk H1 i σ' H' p).rd ha)) (fun i x σ' H' hi p => ?_) (fun σ' H' p => ?_)⟩
    · obtain ⟨d, hd, td⟩ := r.get' hi
      exact hs H1 i d x σ' H' e1 hd p (td.mono (hk H1 i σ' H' p))
    · rw [r.length] at p
      exact hd H1 σ' H' e1 p
/-- over a list that stays, told by its data at the start -/
theorem s_forL {tl : TE} {l : Addr} (h : EvV tl σ H (.ref l)) (hl : Ls H l ds) (Pv : Nat → L2.St → Hp → Prop) (h0 : ∀ H1, Ex H H1 → Pv 0 σ H1)
    (hk : ∀ i σ' H', Pv i σ' H' → TK H H' ∧ ∀ o, H l = some o → H' l = some o)
    (hs : ∀ i d v σ' H', ds[i]? = some d → Pv i σ' H' → Tp H' v d → g v σ' H' fun σ2 H2 => tu { D with nx := Pv (i + 1), ct := Pv (i + 1), bk := D.nx } σ2 H2)
    (hd : ∀ σ' H', Pv ds.length σ' H' → D.nx σ' H') : tFor (iList K tl) g tu D σ H :=
  h H (Ex.refl _) _ fun H1 e1 => by
    obtain ⟨xs, hx, r⟩ := id hl
    refine ⟨l, rfl, ⟨xs, SqL.of (e1 _ _ hx)⟩, for_list (K := K) (a := l) (xs := xs) Pv (h0 H1 e1) (fun i σ' H' _ p => SqL.of ((hk i σ' H' p).2 _ hx)) (fun i x σ' H' hi p => ?_) (fun σ' H' p => ?_)⟩
    · obtain ⟨d, hd, td⟩ := r.get' hi
      exact hs i d x σ' H' hd p (td.mono (hk i σ' H' p).1)
    · rw [r.length] at p
      exact hd σ' H' p
/-- over a list that has just been made -/
theorem s_forN {tl : TE} (h : EvN tl σ H ds) (Pv : Addr → Hp → Nat → L2.St → Hp → Prop) (h0 : ∀ p H1, H p = none → Ex H H1 → Ls H1 p ds → Pv p H1 0 σ H1)
    (hk : ∀ p H1 i σ' H', Pv p H1 i σ' H' → TK H1 H' ∧ ∀ o, H1 p = some o → H' p = some o)
    (hs : ∀ p H1 i d v σ' H', H p = none → Ex H H1 → ds[i]? = some d → Pv p H1 i σ' H' → Tp H' v d → g v σ' H' fun σ2 H2 => tu { D with nx := Pv p H1 (i + 1), ct := Pv p H1 (i + 1), bk := D.nx } σ2 H2)
    (hd : ∀ p H1 σ' H', H p = none → Ex H H1 → Pv p H1 ds.length σ' H' → D.nx σ' H') : tFor (iList K tl) g tu D σ H :=
  h H (Ex.refl _) _ fun p H1 np e1 hl => by
    obtain ⟨xs, hx, r⟩ := id hl
    refine ⟨p, rfl, ⟨xs, SqL.of hx⟩, for_list (K := K) (a := p) (xs := xs) (Pv p H1) (h0 p H1 np e1 hl) (fun i σ' H' _ q => SqL.of ((hk p H1 i σ' H' q).2 _ hx)) (fun i x σ' H' hi q => ?_) (fun σ' H' q => ?_)⟩
    · obtain ⟨d, hd, td⟩ := r.get' hi
      exact hs p H1 i d x σ' H' np e1 hd q (td.mono (hk p H1 i σ' H' q).1)
    · rw [r.length] at q
      exact hd p H1 σ' H' np e1 q
theorem s_forR1 {j : Nat} {n : Int} (h : EvD te σ H (.int n)) (hn : -100000 ≤ n ∧ n ≤ 100000) (Pv : Nat → L2.St → Hp → Prop) (h0 : ∀ H1, Ex H H1 → Pv 0 σ H1)
    (hs : ∀ (i : Nat) σ' H', (i : Int) < n → Pv i σ' H' → tu { D with nx := Pv (i + 1), ct := Pv (i + 1), bk := D.nx } (σ'.set j (some (.int (i : Int)))) H') (hd : ∀ σ' H', Pv n.toNat σ' H' → D.nx σ' H') : tFor (iRng1 (tCons te tNil)) (gName j) tu D σ H :=
  h H (Ex.refl _) _ fun v H1 e1 tv => by
    refine ⟨n, by rw [tv.int_inv], by omega, by omega, for_range (lo := 0) (n := n.toNat) Pv (h0 H1 e1) (fun i σ' H' hi p => ?_) hd⟩
    have e : (0 : Int) + (i : Int) = (i : Int) := by omega
    show tu _ (σ'.set j (some (.int (0 + (i : Int))))) H'
    rw [e]
    exact hs i σ' H' (by omega) p
theorem s_forR2 {j : Nat} {lo n : Int} (ha : EvD ta σ H (.int lo)) (hb : EvD tb σ H (.int n)) (hn : -100000 ≤ lo ∧ lo ≤ 100000 ∧ -100000 ≤ n ∧ n ≤ 100000) (Pv : Nat → L2.St → Hp → Prop) (h0 : ∀ H1, Ex H H1 → Pv 0 σ H1)
    (hs : ∀ (i : Nat) σ' H', lo + (i : Int) < n → Pv i σ' H' → tu { D with nx := Pv (i + 1), ct := Pv (i + 1), bk := D.nx } (σ'.set j (some (.int (lo + (i : Int))))) H') (hd : ∀ σ' H', Pv (n - lo).toNat σ' H' → D.nx σ' H') : tFor (iRng2 (tCons ta (tCons tb tNil))) (gName j) tu D σ H :=
  ha H (Ex.refl _) _ fun v H1 e1 tv => hb H1 e1 _ fun w H2 e2 tw => by
    refine ⟨lo, n, by rw [tv.int_inv, tw.int_inv], ⟨by omega, by omega, by omega, by omega⟩, for_range (lo := lo) (n := (n - lo).toNat) Pv (h0 H2 (e1.trans e2)) (fun i σ' H' hi p => ?_) hd⟩
    exact hs i σ' H' (by omega) p
end
end Hk


namespace Hk
open PySem PySem.Spec PyProof.Rows L2
section
variable {X : Cx}
/-! ### xs[i] read by values -/
theorem get_list : PGet X (rIxL X.K) := by
  intro pins s σ H x y v u Q I rx ry h
  obtain ⟨p, xs, i, z, rfl, rfl, hq, he, q⟩ := h
  cases rx
  obtain ⟨t, rfl⟩ := ry
  obtain ⟨its, r, pl, hz⟩ := I.list hq
  obtain ⟨j, h1, h2, h3, h4, h5⟩ := atI_get he
  obtain ⟨w, ew, rw'⟩ := r.get h2
  have hl := r.length
  have hn := line63
  have fin : EP X pins σ Q w s := ⟨z, H, I, rw', q⟩
  rcases Int.lt_or_le i 0 with h0 | h0
  · have hj : (i + (its.toArray.size : Int)).toNat = j := by
      rw [seqIndex_neg (by omega) h4] at h1
      rw [List.size_toArray, ← hl]; exact Option.some.inj h1
    exact wpAny_getItem_list_neg pl.isList h0 (by rw [List.size_toArray] <;> omega) (by omega) (by rw [hj]; simpa using ew) fin
  · have hj : i.toNat = j := by
      rw [seqIndex_of h0 h5] at h1; exact Option.some.inj h1
    exact wpAny_getItem_list pl.isList h0 (by omega) (by rw [hj]; simpa using ew) fin
/-! ### is True, is False -/
def rIsA : R2 := fun x y H Q => ∃ b : Bool, y = .bl b ∧ Q (.bl (decide (x = .bl b))) H
def rIsnotA : R2 := fun x y H Q => ∃ b : Bool, y = .bl b ∧ Q (.bl (!decide (x = .bl b))) H
theorem same_bl {x : V} {v : Value} (r : RelV x v) (b : Bool) : plainIs v (.bool b) = true ∧ (v == Value.bool b) = decide (x = .bl b) := by
  cases x with
  | bl a =>
    cases (show v = Value.bool a from r)
    refine ⟨rfl, ?_⟩
    cases a <;> cases b <;> rfl
  | non => cases (show v = Value.none from r); exact ⟨rfl, rfl⟩
  | int i => obtain ⟨t, rfl⟩ := r; exact ⟨rfl, rfl⟩
  | str z => obtain ⟨t, rfl⟩ := r; exact ⟨rfl, rfl⟩
  | byt z => obtain ⟨t, rfl⟩ := r; exact ⟨rfl, rfl⟩
  | flt z => obtain ⟨t, rfl⟩ := r; exact ⟨rfl, rfl⟩
  | ref a => cases (show v = Value.ref a from r); exact ⟨rfl, rfl⟩
  | ty n => cases (show v = Value.type n from r); exact ⟨rfl, rfl⟩
theorem op_isA : OpR X (compareOp .Is) rIsA := by
  intro pins s σ H x y v u Q I rx ry h
  obtain ⟨b, rfl, q⟩ := h
  cases (show u = Value.bool b from ry)
  obtain ⟨h1, h2⟩ := same_bl rx b
  exact wpAny_is_plain h1 ⟨.bl _, H, I, by rw [h2]; rfl, q⟩
theorem op_isnotA : OpR X (compareOp .IsNot) rIsnotA := by
  intro pins s σ H x y v u Q I rx ry h
  obtain ⟨b, rfl, q⟩ := h
  cases (show u = Value.bool b from ry)
  obtain ⟨h1, h2⟩ := same_bl rx b
  exact wpAny_isNot_plain h1 ⟨.bl _, H, I, by rw [h2]; rfl, q⟩
/-! ### t * k, any small k -/
theorem tuple_mul1 (l : Addr) (items : Array Value) (n : Nat) (dd : Option Addr) (sl : Array (Option Value)) (u : Tok) :
    Meets (Builtin.«tuple.__mul__» ⟨[.ref l, .int 1 u], []⟩) (fun _ R s => s.heap.get? l = some { cls := .type "tuple", dict := dd, data := .seq items n, slots := sl } ∧ R (.ok (.ret (Value.ref l))) s) :=
  .of_wp fun prog w A R s h => by
    obtain ⟨hp, g, d, tk, os⟩ := s
    obtain ⟨hl, h⟩ := h
    have f1 := AutoSeq1.idx_int
    wp_walk using wpAny_loadPart' hl
    exact ⟨_, rfl, h⟩
theorem tuple_mul0 (l : Addr) (items : Array Value) (n : Nat) (dd : Option Addr) (sl : Array (Option Value)) (u : Tok) (hne : items.isEmpty = false) :
    Meets (Builtin.«tuple.__mul__» ⟨[.ref l, .int 0 u], []⟩) (fun _ R s => s.heap.get? l = some { cls := .type "tuple", dict := dd, data := .seq items n, slots := sl } ∧
      R (.ok (.ret (Value.ref s.heap.objs.size))) { s with heap := s.heap.push { cls := Value.type "tuple", data := Data.seq #[] } }) :=
  .of_wp fun prog w A R s h => by
    obtain ⟨hp, g, d, tk, os⟩ := s
    obtain ⟨hl, h⟩ := h
    have f1 := AutoSeq1.idx_int
    wp_walk using wpAny_loadPart' hl
    exact ⟨_, rfl, h⟩
/-- a tuple times a number from 0 on -/
def rRepA (K : PySem.W.Frag) : R2 := fun x y H Q => ∃ l k xs, x = .ref l ∧ y = .int k ∧ SqT K H l xs ∧ xs ≠ [] ∧ 0 ≤ k ∧ k ≤ 1000 ∧ xs.length ≤ 1000 ∧
  (k = 1 → Q (.ref l) H) ∧ (k ≠ 1 → ∀ p, H p = none → Q (.ref p) (upd H p (.tup (List.replicate k.toNat xs).flatten)))
theorem op_repA : OpR X (binaryOp .Mult) (rRepA X.K) := by
  intro pins s σ H x y v u Q I rx ry h
  obtain ⟨l, k, xs, rfl, rfl, hT, hne, h1, h2, hz, q1, q2⟩ := h
  by_cases c2 : 2 ≤ k
  · exact op_repT pins s σ H _ _ v u Q I rx ry ⟨l, k, xs, rfl, rfl, hT, hne, c2, h2, hz, q2 (by omega)⟩
  · cases rx
    obtain ⟨t, rfl⟩ := ry
    obtain ⟨its, r, ⟨⟨cls, dd, data, sl⟩, ho, hc, n, hd⟩, hs⟩ := I.tuple hT
    simp only at hc hd
    subst hc hd
    have hn : its ≠ [] := fun e => hne (by
      have z := r.length
      rw [e] at z
      exact List.eq_nil_of_length_eq_zero z)
    have hi : its.toArray.isEmpty = false := by
      cases its with
      | nil => exact absurd rfl hn
      | cons a b => rfl
    by_cases c1 : k = 1
    · subst c1
      exact wpAny_binaryOp_repeat_ref (T := "tuple") (U := "int") (by decide) ⟨_, ho, rfl⟩ (fun s' => typeIs_int s' 1 t) noFill_tuple_mul F.fills_int_mul F.slot_int_rmul repeat_tuple F.slot_int_index.lookup
        (call_meets F.slot_int_rmul (typeIs_int s 1 t) F.entry_int_rmul (F.args_int_rmul_2 _ _) (int_rmul_tuple 1 t l its.toArray n dd sl)
          ⟨ho, rfl, ⟨_, ho, rfl⟩, call_meets F.slot_tuple_mul ⟨_, ho, rfl⟩ F.entry_tuple_mul (F.args_tuple_mul_2 _ _) (tuple_mul1 l its.toArray n dd sl t) ⟨ho, ⟨.ref l, H, I, rfl, q1 rfl⟩⟩⟩)
    · have c0 : k = 0 := by omega
      subst c0
      refine wpAny_binaryOp_repeat_ref (T := "tuple") (U := "int") (by decide) ⟨_, ho, rfl⟩ (fun s' => typeIs_int s' 0 t) noFill_tuple_mul F.fills_int_mul F.slot_int_rmul repeat_tuple F.slot_int_index.lookup
        (call_meets F.slot_int_rmul (typeIs_int s 0 t) F.entry_int_rmul (F.args_int_rmul_2 _ _) (int_rmul_tuple 0 t l its.toArray n dd sl)
          ⟨ho, rfl, ⟨_, ho, rfl⟩, call_meets F.slot_tuple_mul ⟨_, ho, rfl⟩ F.entry_tuple_mul (F.args_tuple_mul_2 _ _) (tuple_mul0 l its.toArray n dd sl t hi) ⟨ho, ?_⟩⟩)
      refine ⟨.ref s.heap.objs.size, _, I.laid (t' := s.toks) (o := .tup (List.replicate (Int.toNat 0) xs).flatten) (fun b ob q => Heap.get?_push_of_some _ q) (Nat.le_refl _) ?_, rfl, q2 (by decide) _ (I.hok.fresh (Nat.le_refl _))⟩
      exact ⟨Nat.zero_le _, [], .nil, IsTup.new _ _⟩
/-! ### insert at 0 -/
def rInsert : V → List V → Hp → VK → Prop := fun x vs H Q => ∃ (l : Addr) (xs : List V) (i : Int) (y : V), x = .ref l ∧ vs = [.int i, y] ∧ H l = some (.lst xs) ∧ xs.length < sizeLine ∧ 0 ≤ i ∧ i < 2 ^ 63 ∧
    Q .non (upd H l (.lst (xs.take i.toNat ++ [y] ++ xs.drop i.toNat)))
theorem mt_insertA : MtR X "list.insert" rInsert := mt_insert
/-! ### enumerate(tuple) -/
theorem meets_enum_newT (l : Addr) (items : Array Value) (n : Nat) (dct : Option Addr) (sl : Array (Option Value)) :
    Meets (Builtin.«enumerate.__new__» ⟨[.type "enumerate", .ref l], []⟩) (fun _ R s => s.heap.get? l = some { cls := .type "tuple", dict := dct, data := .seq items n, slots := sl } ∧
      R (.ok (.ret (.ref (s.heap.push { cls := .type "tuple_iterator", data := .fields #[.ref l, .int 0 0] }).objs.size)))
        { s with heap := (s.heap.push { cls := .type "tuple_iterator", data := .fields #[.ref l, .int 0 0] }).push { cls := .type "enumerate", data := .fields #[.none, .bool false, .ref s.heap.objs.size, rawInt 0, .none, .none] } }) :=
  .of_wp fun prog w A R s h => by
    obtain ⟨hp, g, d, tk, os⟩ := s
    obtain ⟨hl, h⟩ := h
    have hsub := sub_enumerate
    have hL : Heap.IsTuple (Shared.heap ⟨hp, g, d, tk, os⟩) l items := ⟨_, hl, rfl, n, rfl⟩
    wp_walk using wpAny_loadPart' hl
    refine wpAny_stack_any fun st => wpAny_pure ?_
    split
    · rename_i c _ _ _ _ _
      cases (c == Value.type "enumerate")
      all_goals (wp_walk using wpAny_loadPart' hl, wpAny_pyIter_tuple hL; exact ⟨_, rfl, h⟩)
    · wp_walk using wpAny_loadPart' hl, wpAny_pyIter_tuple hL
      exact ⟨_, rfl, h⟩
theorem call_enumT {prog : Program} {w : World} {A : Around} {E : Value → Shared → Prop} {s : Shared} {l : Addr} {items : Array Value} {Q : Value → Shared → Prop} (hL : s.heap.IsTuple l items)
    (h : ∀ h', IsEnum h' (s.heap.objs.size + 1) s.heap.objs.size 0 .none → h'.IsTupleIter s.heap.objs.size l 0 → (∀ b o, s.heap.get? b = some o → h'.get? b = some o) → Q (.ref (s.heap.objs.size + 1)) { s with heap := h' }) :
    wpAny (model prog w) A (call (.type "enumerate") [.ref l]) Q E s := by
  obtain ⟨⟨c, dct, dt, sl⟩, hl, hc, n, hd⟩ := hL
  replace hc : c = .type "tuple" := hc
  replace hd : dt = .seq items n := hd
  subst hc hd
  refine callType_new F.called_enumerate (by decide) (F.typeCall_enumerate_1 _) (F.newCall_enumerate_1 _) (fun obj => F.args_object_init_2 obj _) F.entry_enumerate_new (meets_enum_newT l items n dct sl) ⟨hl, ?_⟩
  have hz : (s.heap.push { cls := .type "tuple_iterator", data := .fields #[.ref l, .int 0 0] }).objs.size = s.heap.objs.size + 1 := Heap.size_push ..
  show _ ∧ _
  rw [hz]
  have he : IsEnum ((s.heap.push { cls := .type "tuple_iterator", data := .fields #[.ref l, .int 0 0] }).push { cls := .type "enumerate", data := .fields #[.none, .bool false, .ref s.heap.objs.size, rawInt 0, .none, .none] }) (s.heap.objs.size + 1) s.heap.objs.size 0 .none := by
    have := Heap.get?_push_size (s.heap.push { cls := .type "tuple_iterator", data := .fields #[.ref l, .int 0 0] }) (o := { cls := .type "enumerate", data := .fields #[.none, .bool false, .ref s.heap.objs.size, rawInt 0, .none, .none] }) rfl
    rw [hz] at this
    exact this
  refine ⟨⟨_, he, rfl⟩, h _ he ⟨_, Heap.get?_push_of_some _ (Heap.get?_push_size _ rfl), rfl, rfl⟩ fun b o x => Heap.get?_push_of_some _ (Heap.get?_push_of_some _ x)⟩
/-- the tuple at a, each item in a new pair -/
def ItE (K : PySem.W.Frag) (a : Addr) : It :=
  ⟨fun i H => ∃ (xs : List V) (x : V), SqT K H a xs ∧ xs[i]? = some x, fun i H v H' => ∃ T x, v = .ref T ∧ H T = none ∧ H' = upd H T (.tup [.int (i : Nat), x]) ∧ ∀ xs, SqT K H a xs → xs[i]? = some x, fun i H => ∃ xs : List V, SqT K H a xs ∧ xs.length = i⟩
theorem turn_enumT {P : Program} {w : World} {K : PySem.W.Frag} {elts : List Expr} {kk : Nat} {tpos : Pos} (a e it : Addr) (hai : a ≠ it) (hea : e ≠ a) :
    Turn P w K (.Tuple elts kk tpos) (ItE K a) [e, it] e (fun i h => (∃ old, IsEnum h e it ((i : Nat) : Int) old) ∧ h.IsTupleIter it a i ∧ e ≠ it) where
  mem := by simp
  obj := fun i h st b hb => by
    obtain ⟨⟨old, he⟩, ⟨o, ho, hc, hd⟩, _⟩ := st
    have e' : b = e ∨ b = it := by simpa using hb
    rcases e' with rfl | rfl
    · exact ⟨_, he, fun v q => nomatch q⟩
    · exact ⟨o, ho, fun v q => by rw [hd] at q; cases q⟩
  keep := fun i h h' st k => let ⟨⟨old, he⟩, hi, hne⟩ := st; ⟨⟨old, k e (by simp) _ he⟩, hi.at fun o q => k it (by simp) o q, hne⟩
  item := by
    intro X hP hw hK hc i pins s σ H E I hf st hg
    subst hP hw hK
    obtain ⟨⟨old, he⟩, hit, hne⟩ := st
    obtain ⟨xs, x, hq, hx⟩ := hg
    obtain ⟨its, rv, p, hz⟩ := I.tuple hq
    obtain ⟨u, hu, ru⟩ := rv.get hx
    have hel : e < s.heap.objs.size := Heap.lt_size he
    have hil : it < s.heap.objs.size := by obtain ⟨_, q, _⟩ := hit; exact Heap.lt_size q
    have hlt : i < its.toArray.size := by rw [List.size_toArray]; exact (List.getElem?_eq_some_iff.mp hu).1
    have Dr := Draws.tuple (prog := X.prog) (w := X.w) (A := X.A.in1) (show X.A.in1.handled = none from I.ok.hd hc) it a hai its.toArray
    refine wpAny_pyNext_enum_itemD (A := X.A) Dr he ⟨hit, p⟩ hlt hne (by simp [hne, hea]) fun y h' tk hy ho st' hT hsz hk => ?_
    have ey : y = u := by
      have : its.toArray[i]? = some u := by simpa using hu
      rw [this] at hy
      exact (Option.some.inj hy).symm
    subst ey
    refine ⟨_, rfl, wpAny_letOwnedTupleGo_enum (s := { s with heap := h', toks := tk + 1 }) ho fun h'' he' sb => ?_⟩
    have hT2 : h''.get? s.heap.objs.size = some { cls := .type "tuple", data := .seq #[.int i tk, y] } := (sb.2 _ (Nat.ne_of_gt hel)).trans hT
    have new : ObjOk X.prog X.w (upd H s.heap.objs.size (.tup [.int (i : Nat), x])) h'' s.heap.objs.size (.tup [.int (i : Nat), x]) :=
      ⟨by show 2 ≤ sizeLine; decide, [.int i tk, y], .cons ⟨_, rfl⟩ (.cons ru .nil), ⟨_, hT2, rfl, _, rfl⟩⟩
    have I1 : Inv X pins σ (upd H s.heap.objs.size (.tup [.int (i : Nat), x])) { s with heap := h'', toks := tk + 1 } :=
      I.turnedNew (ch := [e, it]) (fun b ob hb q => (sb.2 b (fun z => hb (by simp [z]))).trans (hk b ob (fun z => hb (by simp [z])) (fun z => hb (by simp [z])) q)) hf (Nat.le_refl _) new
    refine ⟨.ref s.heap.objs.size, _, I1, rfl, ⟨_, x, rfl, I.hok.fresh (Nat.le_refl _), rfl, fun ys hy => by rw [I.tuple_inj hy hq]; exact hx⟩, ⟨⟨y, ?_⟩, st'.1.at fun o q => (sb.2 it (Ne.symm hne)).trans q, hne⟩, fun b hb => ?_⟩
    · have e1 : ((i + 1 : Nat) : Int) = (i : Int) + 1 := by omega
      rw [e1]; exact he'
    · have hb' : b < s.heap.objs.size := by
        have e' : b = e ∨ b = it := by simpa using hb
        rcases e' with rfl | rfl
        · exact hel
        · exact hil
      rw [upd_ne (Nat.ne_of_lt hb')]
      exact (hf b hb).1
  done := by
    intro X hP hw hK hc i pins s σ H E I hf st hg
    subst hP hw hK
    obtain ⟨⟨old, he⟩, hit, hne⟩ := st
    obtain ⟨xs, hq, hx⟩ := hg
    obtain ⟨its, rv, p, hz⟩ := I.tuple hq
    obtain ⟨f0, f1, f2, f3, f4, f5⟩ := hf it (by simp)
    have hl := rv.length
    have Dr := Draws.tuple (prog := X.prog) (w := X.w) (A := X.A.in1) (show X.A.in1.handled = none from I.ok.hd hc) it a hai its.toArray
    have hi : i = its.toArray.size := by rw [List.size_toArray]; omega
    subst hi
    exact wpAny_pyNext_enum_endD (A := X.A) Dr he ⟨hit, p⟩ fun h' eb => ⟨rfl, I.turned (t' := s.toks) (fun b o hb q => eb b o hb q) f0 f1 f3 f4 f5⟩
  self := fun A i s Q E st h => let ⟨⟨_, he⟩, _⟩ := st; wpAny_pyIter_enum he h
def iEnumT (K : PySem.W.Frag) (ta : TA) : TI := fun σ H R => ta σ H fun vs H1 => ∃ a xs, vs = [.ref a] ∧ SqT K H1 a xs ∧ R (ItE K a) H1
theorem pi_enumT {e : Expr} {ta : TA} {p pos tpos : Pos} {elts : List Expr} {kk : Nat} (hg : Gl X "enumerate") (hm : X.mg "enumerate" = none) (ha : PA X [e] ta) (hs : starEach [e] X.env = [(false, eval e X.env)] := by rfl) :
    PI X (.Tuple elts kk tpos) (.Call (.Name "enumerate" p) [e] [] pos) (iEnumT X.K ta) := by
  refine ⟨fun pins s σ H R I h => ?_⟩
  refine Call_ (ld_blt I hg hm boot_enumerate (PyProof.Rows.callWith_type1 (thn (ha.run pos pins s σ H _ I h) fun us s1 ⟨vs, H1, I1, r1, q1⟩ => ?_) hs rfl))
  obtain ⟨a, xs, rfl, hq, q⟩ := q1
  cases r1 with
  | cons r rr =>
    cases rr
    cases r
    obtain ⟨its, rv, p', hz⟩ := I1.tuple hq
    have hal : a < s1.heap.objs.size := by obtain ⟨o, ho, _⟩ := p'; exact Heap.lt_size ho
    refine call_enumT p' fun h' he hit hk => wpAny_pyIter_enum he ?_
    have I2 : Inv X pins σ H1 { s1 with heap := h' } := I1.kept (t' := s1.toks) hk
    refine ⟨s1.heap.objs.size + 1, [s1.heap.objs.size + 1, s1.heap.objs.size], _, _, H1, rfl, I2, turn_enumT a (s1.heap.objs.size + 1) s1.heap.objs.size (Nat.ne_of_lt hal) (Nat.ne_of_gt (Nat.lt_succ_of_lt hal)), ⟨⟨.none, he⟩, hit, Nat.succ_ne_self _⟩, fun b hb => ?_, q⟩
    have hle : s1.heap.objs.size ≤ b := by
      have e' : b = s1.heap.objs.size + 1 ∨ b = s1.heap.objs.size := by simpa using hb
      rcases e' with z | z
      · rw [z]; exact Nat.le_succ _
      · rw [z]; exact Nat.le_refl _
    exact I1.fpOk hle (I1.hok.fresh hle)
end
/-- for i, x in enumerate(a tuple of data) -/
theorem s_forE {K : PySem.W.Frag} {σ : L2.St} {H : Hp} {te : TE} {ds : List PyData} {D : Ends} {tu : TS} {j k : Nat} (h : EvD te σ H (.tuple ds)) (Pv : Hp → Nat → L2.St → Hp → Prop) (h0 : ∀ H1, Ex H H1 → Pv H1 0 σ H1) (hk : ∀ H1 i σ' H', Pv H1 i σ' H' → TK H1 H')
    (hs : ∀ H1 i d v σ' H' H'', Ex H H1 → ds[i]? = some d → Pv H1 i σ' H' → Ex H' H'' → Tp H'' v d → tu { D with nx := Pv H1 (i + 1), ct := Pv H1 (i + 1), bk := D.nx } ((σ'.set j (some (.int (i : Int)))).set k (some v)) H'')
    (hd : ∀ H1 σ' H', Ex H H1 → Pv H1 ds.length σ' H' → D.nx σ' H') : tFor (iEnumT K (tCons te tNil)) (gTup K 2 (gCons (gName j) (gCons (gName k) gNil))) tu D σ H :=
  h H (Ex.refl _) _ fun v H1 e1 tv => by
    obtain ⟨a, xs, rfl, ha, r⟩ := tv.tup_inv
    refine ⟨a, xs, rfl, .inl ha, fun i m σ' H' => m + i = xs.length ∧ Pv H1 i σ' H', ⟨xs.length, by omega, h0 H1 e1⟩, fun i m σ' H' ⟨hm, p⟩ => ?_⟩
    have ha' : SqT K H' a xs := .inl ((hk H1 i σ' H' p).rd ha)
    by_cases hi : i < xs.length
    · refine .inr ⟨⟨xs, xs[i], ha', List.getElem?_eq_getElem hi⟩, Pv H1 (i + 1), fun σ2 H2 p2 => ⟨m - 1, by omega, by omega, p2⟩, fun x H2 ⟨T, y, ex, hT, eH, hy⟩ => ?_⟩
      subst ex
      have hyi := hy xs ha'
      obtain ⟨d, hd, td⟩ := r.get' hyi
      subst eH
      have e2 : Ex H' (upd H' T (.tup [.int (i : Nat), y])) := Ex.new hT
      refine ⟨T, _, rfl, SqT.of upd_same, rfl, _, _, rfl, _, _, rfl, rfl, ?_⟩
      exact hs H1 i d y σ' H' _ e1 hd p e2 ((td.mono (hk H1 i σ' H' p)).ex e2)
    · have : i = xs.length := by omega
      subst this
      exact .inl ⟨⟨xs, ha', rfl⟩, hd H1 σ' H' e1 (by rw [← r.length]; exact p)⟩
end Hk


namespace Hk
open PySem PySem.Spec PyProof.Rows L2
open PySem.W (alike alikeAll dataLt dataLe rowLt AllAlike Sortable)
/-! ### the data of this program -/
def dP (p : List Int) : PyData := .tuple (p.map .int)
def dN (l : List Nat) : PyData := .tuple (l.map fun (k : Nat) => .int (k : Int))
def dMat (n : Nat) (M : List Nat) : PyData := .tuple [.int n, .int n, dN M]
def dTerm (n : Nat) (t : List Nat × List Int) : PyData := .tuple [dMat n t.1, dP t.2]
def dSum (n : Nat) (s : List (List Nat × List Int)) : PyData := .tuple (s.map (dTerm n))
/-! shaped -/
theorem can_ints : ∀ p : List Int, PyData.canLayAll0 (p.map .int) = true
  | [] => rfl
  | x :: xs => by show (PyData.canLay0 (.int x) && PyData.canLayAll0 (xs.map .int)) = true; rw [can_ints xs]; rfl
theorem can_nats : ∀ p : List Nat, PyData.canLayAll0 (p.map fun (k : Nat) => .int (k : Int)) = true
  | [] => rfl
  | x :: xs => by show (PyData.canLay0 (.int x) && PyData.canLayAll0 (xs.map fun (k : Nat) => .int (k : Int))) = true; rw [can_nats xs]; rfl
theorem depth_nats : ∀ xs : List Nat, PyData.depthAll (xs.map fun (k : Nat) => .int (k : Int)) = 0
  | [] => rfl
  | x :: xs => by show PyData.depthAll (.int x :: xs.map fun (k : Nat) => .int (k : Int)) = 0; rw [PyData.depthAll, depth_nats xs]; rfl
theorem can_P (p : List Int) : PyData.canLay0 (dP p) = true := can_ints p
theorem depth_P (p : List Int) : PyData.depth (dP p) = 1 := by show PyData.depthAll (p.map .int) + 1 = 1; rw [PySem.W.depth_ints]
theorem can_N (p : List Nat) : PyData.canLay0 (dN p) = true := can_nats p
theorem depth_N (p : List Nat) : PyData.depth (dN p) = 1 := by show PyData.depthAll (p.map fun (k : Nat) => .int (k : Int)) + 1 = 1; rw [depth_nats]
theorem can_Mat (n : Nat) (M : List Nat) : PyData.canLay0 (dMat n M) = true := by
  show (PyData.canLay0 (.int n) && (PyData.canLay0 (.int n) && (PyData.canLay0 (dN M) && true))) = true
  rw [can_N]; rfl
theorem depth_Mat (n : Nat) (M : List Nat) : PyData.depth (dMat n M) = 2 := by
  show max 0 (max 0 (max (PyData.depth (dN M)) 0)) + 1 = 2
  rw [depth_N]; rfl
theorem can_Term (n : Nat) (t : List Nat × List Int) : PyData.canLay0 (dTerm n t) = true := by
  show (PyData.canLay0 (dMat n t.1) && (PyData.canLay0 (dP t.2) && true)) = true
  rw [can_Mat, can_P]; rfl
theorem depth_Term (n : Nat) (t : List Nat × List Int) : PyData.depth (dTerm n t) = 3 := by
  show max (PyData.depth (dMat n t.1)) (max (PyData.depth (dP t.2)) 0) + 1 = 3
  rw [depth_Mat, depth_P]; rfl
theorem can_Terms (n : Nat) : ∀ s : List (List Nat × List Int), PyData.canLayAll0 (s.map (dTerm n)) = true
  | [] => rfl
  | t :: s => by show (PyData.canLay0 (dTerm n t) && PyData.canLayAll0 (s.map (dTerm n))) = true; rw [can_Term, can_Terms n s]; rfl
theorem depth_Terms (n : Nat) : ∀ s : List (List Nat × List Int), PyData.depthAll (s.map (dTerm n)) ≤ 3
  | [] => by show 0 ≤ 3; omega
  | t :: s => by show max (PyData.depth (dTerm n t)) (PyData.depthAll (s.map (dTerm n))) ≤ 3; rw [depth_Term]; have := depth_Terms n s; omega
theorem sh_of {d : PyData} (h : PyData.canLay0 d = true) (k : PyData.depth d ≤ 64) : SeqAt.shaped d = true := by
  show (PyData.canLay0 d && decide (PyData.depth d ≤ 64)) = true
  rw [h, decide_eq_true k]; rfl
theorem sh_int (i : Int) : SeqAt.shaped (.int i) = true := sh_of rfl (by show 0 ≤ 64; omega)
theorem sh_P (p : List Int) : SeqAt.shaped (dP p) = true := sh_of (can_P p) (by rw [depth_P]; omega)
theorem sh_N (p : List Nat) : SeqAt.shaped (dN p) = true := sh_of (can_N p) (by rw [depth_N]; omega)
theorem sh_Mat (n : Nat) (M : List Nat) : SeqAt.shaped (dMat n M) = true := sh_of (can_Mat n M) (by rw [depth_Mat]; omega)
theorem sh_Term (n : Nat) (t : List Nat × List Int) : SeqAt.shaped (dTerm n t) = true := sh_of (can_Term n t) (by rw [depth_Term]; omega)
theorem sh_Sum (n : Nat) (s : List (List Nat × List Int)) : SeqAt.shaped (dSum n s) = true := sh_of (can_Terms n s) (by show PyData.depthAll (s.map (dTerm n)) + 1 ≤ 64; have := depth_Terms n s; omega)
theorem sh_nil : SeqAt.shaped (.tuple []) = true := sh_P []
/-! == -/
theorem eqv_ints : ∀ p q : List Int, PyData.eqvAll (p.map .int) (q.map .int) = decide (p = q)
  | [], [] => rfl
  | [], _ :: _ => rfl
  | _ :: _, [] => rfl
  | x :: xs, y :: ys => by
    show ((x == y) && PyData.eqvAll (xs.map .int) (ys.map .int)) = _
    rw [eqv_ints xs ys, Bool.beq_eq_decide_eq, ← Bool.decide_and]
    exact decide_eq_decide.mpr (by simp)
theorem eqv_nats : ∀ p q : List Nat, PyData.eqvAll (p.map fun (k : Nat) => .int (k : Int)) (q.map fun (k : Nat) => .int (k : Int)) = decide (p = q)
  | [], [] => rfl
  | [], _ :: _ => rfl
  | _ :: _, [] => rfl
  | x :: xs, y :: ys => by
    show (((x : Int) == (y : Int)) && PyData.eqvAll (xs.map fun (k : Nat) => .int (k : Int)) (ys.map fun (k : Nat) => .int (k : Int))) = _
    rw [eqv_nats xs ys, Bool.beq_eq_decide_eq, ← Bool.decide_and]
    exact decide_eq_decide.mpr (by simp; omega)
theorem eqv_P (p q : List Int) : PyData.eqv (dP p) (dP q) = decide (p = q) := eqv_ints p q
theorem eqv_N (p q : List Nat) : PyData.eqv (dN p) (dN q) = decide (p = q) := eqv_nats p q
theorem eqv_Mat (n m : Nat) (M L : List Nat) : PyData.eqv (dMat n M) (dMat m L) = decide (n = m ∧ M = L) := by
  show (((n : Int) == (m : Int)) && (((n : Int) == (m : Int)) && (PyData.eqv (dN M) (dN L) && true))) = _
  rw [eqv_N, Bool.and_true, Bool.beq_eq_decide_eq, ← Bool.decide_and, ← Bool.decide_and]
  exact decide_eq_decide.mpr ⟨fun ⟨h, _, k⟩ => ⟨by omega, k⟩, fun ⟨h, k⟩ => ⟨by omega, by omega, k⟩⟩
theorem eqv_nil_P (p : List Int) : PyData.eqv (dP p) (.tuple []) = decide (p = []) := eqv_P p []
theorem eqv_Sum_nil (n : Nat) (s : List (List Nat × List Int)) : PyData.eqv (dSum n s) (.tuple []) = decide (s = []) := by
  cases s with
  | nil => rfl
  | cons t s => rfl
/-! the order -/
theorem alike_P (p q : List Int) : alike (dP p) (dP q) = true := PySem.W.alike_ints p q
theorem alike_nats : ∀ xs ys : List Nat, alikeAll (xs.map fun (k : Nat) => .int (k : Int)) (ys.map fun (k : Nat) => .int (k : Int)) = true
  | [], _ => by simp [alikeAll]
  | _ :: _, [] => by simp [alikeAll]
  | x :: xs, y :: ys => by
    show (alike (.int x) (.int y) && alikeAll (xs.map fun (k : Nat) => .int (k : Int)) (ys.map fun (k : Nat) => .int (k : Int))) = true
    rw [alike_nats xs ys]; simp [alike]
theorem alike_N (p q : List Nat) : alike (dN p) (dN q) = true := by
  show alikeAll _ _ = true; exact alike_nats p q
theorem alike_Mat (n m : Nat) (M L : List Nat) : alike (dMat n M) (dMat m L) = true := by
  show (alike (.int n) (.int m) && (alike (.int n) (.int m) && (alike (dN M) (dN L) && true))) = true
  rw [alike_N]; simp [alike]
theorem alike_Term (n m : Nat) (s t : List Nat × List Int) : alike (dTerm n s) (dTerm m t) = true := by
  show (alike (dMat n s.1) (dMat m t.1) && (alike (dP s.2) (dP t.2) && true)) = true
  rw [alike_Mat, alike_P]; rfl
theorem ltI_cast : ∀ xs ys : List Nat, ((xs.map fun (k : Nat) => (k : Int)) < (ys.map fun (k : Nat) => (k : Int))) ↔ xs < ys
  | [], [] => by simp
  | [], y :: ys => by simp
  | x :: xs, [] => by simp
  | x :: xs, y :: ys => by
    rw [List.map_cons, List.map_cons, List.cons_lt_cons_iff, List.cons_lt_cons_iff, ltI_cast xs ys]
    exact ⟨fun h => h.elim (fun h => .inl (by omega)) (fun h => .inr ⟨by omega, h.2⟩), fun h => h.elim (fun h => .inl (by omega)) (fun h => .inr ⟨by omega, h.2⟩)⟩
theorem dataLt_N (M L : List Nat) : dataLt (dN M) (dN L) = decide (M < L) := by
  have e : ∀ l : List Nat, (l.map fun (k : Nat) => PyData.int (k : Int)) = (l.map fun (k : Nat) => (k : Int)).map .int := fun l => by rw [List.map_map]; rfl
  show rowLt _ _ = _
  rw [e, e, PySem.W.dataLt_ints]
  exact decide_eq_decide.mpr (ltI_cast M L)
theorem lt_irr (M : List Nat) : ¬ M < M := List.lt_irrefl M
theorem dataLt_Mat (n : Nat) (M L : List Nat) : dataLt (dMat n M) (dMat n L) = decide (M < L) := by
  have i : alike (.int (n : Int)) (.int (n : Int)) = true := by simp [alike]
  have q : PyData.eqv (.int (n : Int)) (.int (n : Int)) = true := by show ((n : Int) == (n : Int)) = true; simp
  show PyProof.Rows.lexLt PyProof.Rows.itemOrd (PySem.W.keyToksAll (PyData.int n :: [PyData.int n, dN M])) (PySem.W.keyToksAll (PyData.int n :: [PyData.int n, dN L])) = _
  rw [PySem.W.dataLt_cons i, if_pos q, PySem.W.dataLt_cons i, if_pos q, PySem.W.dataLt_cons (alike_N M L), eqv_N]
  by_cases e : M = L
  · subst e
    rw [if_pos (by simp), decide_eq_false (lt_irr M)]
    rfl
  · rw [if_neg (by simpa using e), dataLt_N]
theorem dataLt_Term (n : Nat) (s t : List Nat × List Int) (h : s.1 ≠ t.1) : dataLt (dTerm n s) (dTerm n t) = decide (s.1 < t.1) := by
  show PyProof.Rows.lexLt PyProof.Rows.itemOrd (PySem.W.keyToksAll (dMat n s.1 :: [dP s.2])) (PySem.W.keyToksAll (dMat n t.1 :: [dP t.2])) = _
  rw [PySem.W.dataLt_cons (alike_Mat n n s.1 t.1), eqv_Mat, if_neg (by simpa using h), dataLt_Mat]
/-- less or alike -/
def leL (a b : List Nat) : Bool := !decide (b < a)
theorem dataLe_Mat (n : Nat) : dataLe false (dMat n) = leL := by
  funext a b
  rw [PySem.W.dataLe_eq]
  show (!dataLt (dMat n b) (dMat n a)) = _
  rw [dataLt_Mat]; rfl
/-! data back from tuples -/
section
variable {H : Hp}
theorem tp_P {v : V} {p : List Int} (h : Tp H v (dP p)) : ∃ a, v = .ref a ∧ Rd H a (.tup (p.map V.int)) := by
  obtain ⟨a, xs, rfl, ha, r⟩ := h.tup_inv
  rw [r.ints_inv] at ha
  exact ⟨a, rfl, ha⟩
theorem TpAll.nats_inv : ∀ {vs : List V} {ns : List Nat}, TpAll H vs (ns.map fun (k : Nat) => .int (k : Int)) → vs = ns.map fun (k : Nat) => V.int (k : Int)
  | [], [], _ => rfl
  | [], _ :: _, h => by cases h
  | _ :: _, [], h => by cases h
  | v :: vs, n :: ns, h => by
    cases h with
    | cons a r => rw [a.int_inv, TpAll.nats_inv r]; rfl
theorem tp_Mat {v : V} {n : Nat} {M : List Nat} (h : Tp H v (dMat n M)) : ∃ a b, v = .ref a ∧ Rd H a (.tup [.int n, .int n, .ref b]) ∧ Rd H b (.tup (M.map fun (k : Nat) => V.int (k : Int))) := by
  obtain ⟨a, xs, rfl, ha, r⟩ := h.tup_inv
  cases r with | cons h1 r => cases r with | cons h2 r => cases r with
    | cons h3 r =>
      cases r
      obtain ⟨b, ys, rfl, hb, r'⟩ := h3.tup_inv
      rw [h1.int_inv, h2.int_inv] at ha
      rw [r'.nats_inv] at hb
      exact ⟨a, b, rfl, ha, hb⟩
end
end Hk


namespace Hk
open PySem PySem.Spec PyProof.Rows L2
/-! ### mat <= mat -/
theorem lexAt_shift (e r : Nat → Bool) (z : Bool) : ∀ k i, Ob.lexAt e r z (i + 1) k = Ob.lexAt (fun j => e (j + 1)) (fun j => r (j + 1)) z i k
  | 0, _ => rfl
  | k + 1, i => by rw [Ob.lexAt_succ, Ob.lexAt_succ, lexAt_shift e r z k (i + 1)]
theorem lexAt_nats : ∀ M L : List Nat, Ob.lexAt (fun j => decide (M.getD j 0 = L.getD j 0)) (fun j => decide (M.getD j 0 ≤ L.getD j 0)) (decide (M.length ≤ L.length)) 0 (min M.length L.length) = !decide (L < M)
  | [], L => by
    have : ¬ L < [] := by simp
    simp [Ob.lexAt]
  | x :: M, [] => by
    simp [Ob.lexAt]
  | x :: M, y :: L => by
    have hm : min (x :: M).length (y :: L).length = min M.length L.length + 1 := by simp only [List.length_cons]; omega
    rw [hm, Ob.lexAt_succ]
    have e0 : ((x :: M).getD 0 0 = (y :: L).getD 0 0) = (x = y) := rfl
    rw [lexAt_shift]
    have ih := lexAt_nats M L
    have hl : decide ((x :: M).length ≤ (y :: L).length) = decide (M.length ≤ L.length) := decide_eq_decide.mpr (by simp)
    rw [hl]
    show (if decide (x = y) = true then Ob.lexAt (fun j => decide (M.getD j 0 = L.getD j 0)) (fun j => decide (M.getD j 0 ≤ L.getD j 0)) (decide (M.length ≤ L.length)) 0 (min M.length L.length) else decide (x ≤ y)) = _
    rw [ih]
    by_cases h : x = y
    · subst h
      rw [if_pos (by simp)]
      congr 1
      exact decide_eq_decide.mpr (by rw [List.cons_lt_cons_iff]; exact ⟨fun h => .inr ⟨rfl, h⟩, fun h => h.elim (fun h => absurd h (Nat.lt_irrefl _)) (·.2)⟩)
    · rw [if_neg (by simpa using h)]
      rw [← decide_not]
      exact decide_eq_decide.mpr (by rw [List.cons_lt_cons_iff]; omega)
section
variable {X : Cx}
def rLeM : R2 := fun x y H Q => ∃ n M L, Tp H x (dMat n M) ∧ Tp H y (dMat n L) ∧ Q (.bl (!decide (L < M))) H
theorem op_leM (hu : X.A.units + 64 < cLine) : OpR X (compareOp .LtE) rLeM := by
  intro pins s σ H x y v u Q I rx ry h
  obtain ⟨n, M, L, tx, ty, q⟩ := h
  have rdx := Dp.reads I _ _ v (Tp.dp (K := X.K) tx) rx
  have rdy := Dp.reads I _ _ u (Tp.dp (K := X.K) ty) ry
  obtain ⟨a, a', rfl, ha, ha'⟩ := tp_Mat tx
  obtain ⟨b, b', rfl, hb, hb'⟩ := tp_Mat ty
  cases rx
  cases ry
  obtain ⟨its, r1, p1, _⟩ := I.tuple (.inl ha)
  obtain ⟨its2, r2, p2, _⟩ := I.tuple (.inl hb)
  obtain ⟨us, r3, p3, _⟩ := I.tuple (.inl ha')
  obtain ⟨ws, r4, p4, _⟩ := I.tuple (.inl hb')
  cases r1 with | cons i1 r1 => cases r1 with | cons i2 r1 => cases r1 with | cons i3 r1 =>
  cases r1
  cases r2 with | cons j1 r2 => cases r2 with | cons j2 r2 => cases r2 with | cons j3 r2 =>
  cases r2
  obtain ⟨t1, rfl⟩ := i1
  obtain ⟨t2, rfl⟩ := i2
  cases i3
  obtain ⟨u1, rfl⟩ := j1
  obtain ⟨u2, rfl⟩ := j2
  cases j3
  have c3 : ∀ {l : List Nat} {zs : List Value}, Vals (l.map fun (k : Nat) => V.int (k : Int)) zs → IntsAre zs (l.map fun (k : Nat) => (k : Int)) := fun {l zs} r => by
    refine Vals.ints (ns := l.map fun (k : Nat) => (k : Int)) ?_
    rw [List.map_map]; exact r
  have z1 := c3 r3
  have z2 := c3 r4
  have g : ∀ (l : List Nat) j, (l.map fun (k : Nat) => (k : Int)).getD j 0 = ((l.getD j 0 : Nat) : Int) := fun l j => by
    rw [List.getD_eq_getElem?_getD, List.getD_eq_getElem?_getD, List.getElem?_map]
    cases l[j]? <;> rfl
  have e1 : us.toArray.size = M.length := by rw [List.size_toArray]; have := z1.length; simpa using this
  have e2 : ws.toArray.size = L.length := by rw [List.size_toArray]; have := z2.length; simpa using this
  have at1 : ∀ j (h1 : j < us.toArray.size), ∃ t, us.toArray[j] = .int ((M.getD j 0 : Nat) : Int) t := fun j h1 => by
    have := show ∃ t, us.toArray[j] = .int ((M.map fun (k : Nat) => (k : Int)).getD j 0) t from PyProof.Rows.IntsAre.int_at z1 j (us.toArray[j]) (by rw [List.getElem_toArray]; exact List.getElem?_eq_getElem (by simpa using h1))
    rw [g] at this; exact this
  have at2 : ∀ j (h1 : j < ws.toArray.size), ∃ t, ws.toArray[j] = .int ((L.getD j 0 : Nat) : Int) t := fun j h1 => by
    have := show ∃ t, ws.toArray[j] = .int ((L.map fun (k : Nat) => (k : Int)).getD j 0) t from PyProof.Rows.IntsAre.int_at z2 j (ws.toArray[j]) (by rw [List.getElem_toArray]; exact List.getElem?_eq_getElem (by simpa using h1))
    rw [g] at this; exact this
  have eqN : ∀ i j : Nat, ((i : Int) == (j : Int)) = decide (i = j) := fun i j => by rw [Bool.beq_eq_decide_eq]; exact decide_eq_decide.mpr (by omega)
  have in1 : X.A.in1.units = X.A.units + 1 := rfl
  -- the tuples of mates
  have R3 := Ob.RcOp.tuples_le (A := X.A.in1) (s := s) (e := fun j => decide (M.getD j 0 = L.getD j 0)) (r := fun j => decide (M.getD j 0 ≤ L.getD j 0)) p3 p4 (by omega) (fun j h1 h2 => by
    obtain ⟨t, et⟩ := at1 j h1
    obtain ⟨t', et'⟩ := at2 j h2
    rw [et, et', ← eqN]
    exact SeqAt.EqAt.int_int _ _ _ _) (fun j h1 h2 _ => by
    obtain ⟨t, et⟩ := at1 j h1
    obtain ⟨t', et'⟩ := at2 j h2
    rw [et, et']
    have : decide (M.getD j 0 ≤ L.getD j 0) = decide (((M.getD j 0 : Nat) : Int) ≤ ((L.getD j 0 : Nat) : Int)) := decide_eq_decide.mpr (by omega)
    rw [this]
    exact Ob.RcOp.le_int _ _ _ _)
  rw [e1, e2] at R3
  rw [lexAt_nats] at R3
  -- == of the mates
  have E3 : SeqAt.EqAt X.A.in1 s (.ref a') (.ref b') (decide (M = L)) := by
    obtain ⟨as, ra⟩ := Dp.reads I (dN M) (.ref a') (.ref a') (Tp.dp (K := X.K) (by
      refine .tup ha' ?_
      have := TpAll.ints (H := H) (M.map fun (k : Nat) => (k : Int))
      rw [List.map_map, List.map_map] at this; exact this)) rfl
    obtain ⟨bs, rb⟩ := Dp.reads I (dN L) (.ref b') (.ref b') (Tp.dp (K := X.K) (by
      refine .tup hb' ?_
      have := TpAll.ints (H := H) (L.map fun (k : Nat) => (k : Int))
      rw [List.map_map, List.map_map] at this; exact this)) rfl
    have := SeqAt.eqAt_reads (dN M) (dN L) X.A.in1 s _ _ as bs ra rb (can_N M) (can_N L) (by rw [depth_N, depth_N]; omega)
    rw [eqv_N] at this; exact this
  have R := Ob.RcOp.tuples_le (A := X.A) (s := s) (e := fun j => if j = 2 then decide (M = L) else true) (r := fun _ => !decide (L < M)) p1 p2 (by omega) (fun j h1 h2 => by
    have hj : j < 3 := by simpa using h1
    match j, hj with
    | 0, _ => have := SeqAt.EqAt.int_int (A := X.A.in1) (s := s) (n : Int) t1 (n : Int) u1; simpa using this
    | 1, _ => have := SeqAt.EqAt.int_int (A := X.A.in1) (s := s) (n : Int) t2 (n : Int) u2; simpa using this
    | 2, _ => exact E3) (fun j h1 h2 hf => by
    have hj : j < 3 := by simpa using h1
    match j, hj with
    | 0, _ => cases hf
    | 1, _ => cases hf
    | 2, _ => exact R3)
  have fin : Ob.lexAt (fun j => if j = 2 then decide (M = L) else true) (fun _ => !decide (L < M)) (decide (3 ≤ 3)) 0 (min 3 3) = !decide (L < M) := by
    show (if decide (M = L) = true then true else !decide (L < M)) = !decide (L < M)
    by_cases h : M = L
    · subst h; simp
    · rw [if_neg (by simpa using h)]
  have R' : Ob.RcOp .LtE X.A s (.ref a) (.ref b) (!decide (L < M)) := by rw [← fin]; exact R
  have z : wpAny (model X.prog X.w) X.A (compareOp .LtE (.ref a) (.ref b)) (EP X pins σ Q) X.xe s := R' X.prog X.w X.xe (EP X pins σ Q) ⟨.bl _, H, I, rfl, q⟩
  exact z
end
section
variable {K : PySem.W.Frag} {σ : L2.St} {H : Hp} {ta tb : TE}
theorem evd_leM {n : Nat} {M L : List Nat} (ha : EvD ta σ H (dMat n M)) (hb : EvD tb σ H (dMat n L)) : EvD (tOp rLeM ta tb) σ H (.bool (!decide (L < M))) :=
  evd_op ha hb fun x y H1 _ tx ty Q q => ⟨n, M, L, tx, ty, q _ H1 (Ex.refl _) (.bl _)⟩
end
end Hk


namespace Hk
open PySem PySem.Spec PyProof.Rows L2
open PySem.W (dataLe AllAlike Sortable EachIs)
/-- a value that stands for b's data -/
def Std {β : Type} (H : Hp) (enc : β → PyData) (u : Value) (b : β) : Prop := ∃ x, RelV x u ∧ Tp H x (enc b)
theorem std_of {β : Type} {H : Hp} {enc : β → PyData} : ∀ {xs : List V} {us : List Value} {bs : List β}, Vals xs us → TpAll H xs (bs.map enc) → EachIs (Std H enc) us bs
  | [], us, [], r, _ => by cases r; exact .nil
  | [], us, _ :: _, r, h => by cases h
  | _ :: _, us, [], r, h => by cases h
  | x :: xs, us, b :: bs, r, h => by
    cases r with
    | cons r1 r2 =>
      cases h with
      | cons h1 h2 => exact .cons ⟨x, r1, h1⟩ (std_of r2 h2)
theorem of_std {β : Type} {H : Hp} {enc : β → PyData} : ∀ {us : List Value} {bs : List β}, EachIs (Std H enc) us bs → ∃ xs, Vals xs us ∧ TpAll H xs (bs.map enc)
  | _, _, .nil => ⟨[], .nil, .nil⟩
  | _, _, .cons ⟨x, r, t⟩ e => by
    obtain ⟨xs, rs, ts⟩ := of_std e
    exact ⟨x :: xs, .cons r rs, .cons t ts⟩
theorem std_reads {β : Type} {X : Cx} {pins : List (Addr × Obj)} {σ : L2.St} {H : Hp} {s : Shared} {enc : β → PyData} (I : Inv X pins σ H s) {us : List Value} {bs : List β} (e : EachIs (Std H enc) us bs) : EachIs (fun v b => ∃ as, Reads s.heap v (enc b) as) us bs :=
  e.mono fun _ _ ⟨x, r, t⟩ => Dp.reads I _ _ _ (Tp.dp t) r
mutual
theorem Tp.noAddr {H : Hp} {s : Shared} {X : Cx} {pins : List (Addr × Obj)} {σ : L2.St} (I : Inv X pins σ H s) : ∀ {x : V} {u : Value} {d : PyData}, Tp H x d → RelV x u → Reads s.heap u d []
  | _, _, _, .non, r => by cases r; exact .none
  | _, _, _, .bl b, r => by cases r; exact .bool b
  | _, _, _, .int i, r => by obtain ⟨t, rfl⟩ := r; exact .int i t
  | _, _, _, .tup h t, r => by
    cases r
    obtain ⟨its, rv, ⟨o, ho, hc, n, hd⟩, _⟩ := I.tuple (.inl h)
    exact .tuple ho hc hd (TpAll.noAddr I t rv)
theorem TpAll.noAddr {H : Hp} {s : Shared} {X : Cx} {pins : List (Addr × Obj)} {σ : L2.St} (I : Inv X pins σ H s) : ∀ {xs : List V} {us : List Value} {ds : List PyData}, TpAll H xs ds → Vals xs us → ReadsAll s.heap us ds []
  | _, _, _, .nil, r => by cases r; exact .nil
  | _, _, _, .cons h t, r => by
    cases r with
    | cons r1 r2 =>
      have z : ReadsAll s.heap _ _ ([] ++ []) := .cons (Tp.noAddr I h r1) (TpAll.noAddr I t r2)
      exact z
end
section
variable {X : Cx}
/-- sorted(list of data) -/
def rSortD : List V → Hp → VK → Prop := fun vs H Q => ∃ (β : Type) (enc : β → PyData) (a : Addr) (bs : List β), vs = [.ref a] ∧ Ls H a (bs.map enc) ∧ AllAlike (bs.map enc) ∧ Sortable (bs.map enc) ∧ bs.length ≤ 100000 ∧
  (∀ b ∈ bs, (enc b).depth ≤ 50) ∧ ∀ p H', H p = none → Ex H H' → Ls H' p ((bs.mergeSort (dataLe false enc)).map enc) → Q (.ref p) H'
theorem cr_sortedD (hu : X.A.units + 64 < cLine) : CallR X (.builtin "sorted") rSortD := by
  intro pins s σ H xs us Q I rv h
  obtain ⟨β, enc, a, bs, rfl, hl, hal, hk, hL, hd, q⟩ := h
  obtain ⟨u, rfl, ru⟩ := vals1 rv
  cases ru
  obtain ⟨ys, hy, r⟩ := hl
  obtain ⟨its, ri, pl, hz⟩ := I.list (SqL.of hy)
  have e := std_of ri r
  refine PySem.W.sorted_data pl.isList e (std_reads I e) hal hk (small_le hL) (fun b hb => by have := hd b hb; omega) fun out ho eo => ?_
  obtain ⟨zs, rz, tz⟩ := of_std eo
  obtain ⟨c, hc⟩ := sortedAll_at s.heap its out.toArray
  have fr : H (s.heap.objs.size + 1) = none := I.hok.fresh (Nat.le_succ _)
  have zl : zs.length ≤ sizeLine := by rw [rz.length, ho]; exact small_le hL
  exact ⟨.ref (s.heap.objs.size + 1), _, I.laid (t' := s.toks) (o := .lst zs) (fun b o e => sortedAll_old e) (Nat.le_succ _) ⟨zl, out, c, rz, hc⟩, rfl, q _ _ fr (Ex.new fr) ⟨zs, upd_same, tz.ex (Ex.new fr)⟩⟩
end
section
variable {K : PySem.W.Frag} {σ : L2.St} {H : Hp} {ta tb : TE}
theorem evn_sorted {β : Type} (enc : β → PyData) {bs : List β} (ha : EvN ta σ H (bs.map enc)) (hal : ∀ a b : β, PySem.W.alike (enc a) (enc b) = true) (hk : ∀ b, ∃ x r, enc b = .tuple (x :: r)) (hL : bs.length ≤ 100000) (hd : ∀ b, (enc b).depth ≤ 50) :
    EvN (tCB rSortD (tCons ta tNil)) σ H ((bs.mergeSort (dataLe false enc)).map enc) :=
  fun H1 e1 Q q => ha H1 e1 _ fun p H2 np e2 hl => ⟨β, enc, p, bs, rfl, hl, .of hal, .tuples hk, hL, fun b _ => hd b, fun p' H3 hp e3 l3 => q p' H3 (e2.back hp) (e2.trans e3) l3⟩
end
end Hk


namespace Hk
open PySem PySem.Spec PyProof.Rows L2
open PySem.W (dataLe AllAlike Sortable EachIs)
/-! ### tables whose keys are mats, whose values are polynomials -/
def nkM (n : Nat) (M : List Nat) : NestedKey := .tup [.num n, .num n, .tup (M.map fun (k : Nat) => .num (k : Int))]
theorem num_inj : ∀ {M L : List Nat}, (M.map fun (k : Nat) => NestedKey.num (k : Int)) = (L.map fun (k : Nat) => NestedKey.num (k : Int)) → M = L
  | [], [], _ => rfl
  | [], _ :: _, h => by cases h
  | _ :: _, [], h => by cases h
  | x :: M, y :: L, h => by
    rw [List.map_cons, List.map_cons] at h
    injection h with h1 h2
    injection h1 with h1
    rw [num_inj h2, show x = y by omega]
theorem nkM_inj {n : Nat} {M L : List Nat} (h : nkM n M = nkM n L) : M = L := by
  unfold nkM at h
  injection h with h
  injection h with _ h
  injection h with _ h
  injection h with h _
  injection h with h
  exact num_inj h
theorem nkM_dec {n : Nat} {M L : List Nat} : decide (nkM n M = nkM n L) = decide (M = L) := decide_eq_decide.mpr ⟨nkM_inj, fun h => by rw [h]⟩
theorem depth_nums : ∀ M : List Nat, NestedKey.depthAll (M.map fun (k : Nat) => NestedKey.num (k : Int)) = 0
  | [] => rfl
  | x :: M => by show max 0 (NestedKey.depthAll (M.map fun (k : Nat) => NestedKey.num (k : Int))) = 0; rw [depth_nums M]; rfl
theorem nkM_depth (n : Nat) (M : List Nat) : (nkM n M).depth ≤ 8 := by
  show max 0 (max 0 (max (NestedKey.depthAll (M.map fun (k : Nat) => NestedKey.num (k : Int)) + 1) 0)) + 1 ≤ 8
  rw [depth_nums]; decide
/-- a table's entry: the mates, the key's tuple, the value -/
abbrev Ent := List Nat × Addr × V
def yx (n : Nat) (y : Ent) (x : NestedKey × Addr × Value) : Prop := x.1 = nkM n y.1 ∧ x.2.1 = y.2.1 ∧ RelV y.2.2 x.2.2
def tabPhi (P : Program) (w : World) (d : Addr) (n : Nat) (ys : List Ent) (h : Heap) : Prop := ys.length ≤ sizeLine ∧ (d == sysModules) = false ∧ ∃ xs, Paired (yx n) ys xs ∧
  ∃ o es ep, h.get? d = some o ∧ o.ExactDict ∧ o.data = .dict es ep ∧ es.toList = xs.map (entryOfKey (nestedKind P w)) ∧ (xs.map (·.1)).Nodup
def tabO (P : Program) (w : World) (d : Addr) (n : Nat) (ys : List Ent) : HO := .ext (tabPhi P w d n ys)
/-- the typed table -/
abbrev Tab := List (List Nat × List Int)
def tget (T : Tab) (M : List Nat) : Option (List Int) := (T.find? fun t => decide (t.1 = M)).map (·.2)
def tput (T : Tab) (M : List Nat) (p : List Int) : Tab := if (tget T M).isSome then T.map (fun t => if t.1 = M then (t.1, p) else t) else T ++ [(M, p)]
def entOk (n : Nat) (H : Hp) (t : List Nat × List Int) (y : Ent) : Prop := t.1 = y.1 ∧ Tp H (.ref y.2.1) (dMat n y.1) ∧ Tp H y.2.2 (dP t.2)
/-- at d stands the table T of mats of n -/
def Tb (P : Program) (w : World) (H : Hp) (d : Addr) (n : Nat) (T : Tab) : Prop := ∃ ys, H d = some (tabO P w d n ys) ∧ Paired (entOk n H) T ys
section
variable {P : Program} {w : World} {H H' : Hp} {d : Addr} {n : Nat} {T : Tab}
theorem entOk.mono {t : List Nat × List Int} {y : Ent} (k : TK H H') (h : entOk n H t y) : entOk n H' t y := ⟨h.1, h.2.1.mono k, h.2.2.mono k⟩
theorem Tb.keep (h : Tb P w H d n T) (k : TK H H') (e : ∀ o, H d = some o → H' d = some o) : Tb P w H' d n T := let ⟨ys, h, r⟩ := h; ⟨ys, e _ h, Paired.mapP r fun _ _ z => z.mono k⟩
theorem Tb.ex (h : Tb P w H d n T) (e : Ex H H') : Tb P w H' d n T := h.keep e.tk fun o h => e _ _ h
theorem Tb.noTup (h : Tb P w H d n T) : NoTup H d := by
  obtain ⟨ys, h, _⟩ := h
  exact ⟨fun xs q => by (rw [h] at q; cases q), fun o u q => by (rw [h] at q; cases q)⟩
theorem Tb.ne_none {p : Addr} (h : Tb P w H d n T) (hp : H p = none) : d ≠ p := let ⟨_, h, _⟩ := h; ne_of_none h hp
theorem Tb.ne_ls {l : Addr} {ds : List PyData} (h : Tb P w H d n T) (hl : Ls H l ds) : d ≠ l := fun e => by
  obtain ⟨ys, h, _⟩ := h
  obtain ⟨xs, hx, _⟩ := hl
  rw [e, hx] at h; cases h
theorem tab_ok {h : Heap} {ys : List Ent} (a : tabPhi P w d n ys h) : ObjOk P w H h d (tabO P w d n ys) := by
  refine ⟨a, ?_, fun h1 h2 q k => ?_⟩
  · obtain ⟨_, _, _, _, o, _, _, ho, _⟩ := a
    exact ⟨o, ho⟩
  · obtain ⟨z1, z2, xs, z3, o, es, ep, ho, z4⟩ := q
    exact ⟨z1, z2, xs, z3, o, es, ep, k o ho, z4⟩
theorem pair_len {α β : Type} {F : α → β → Prop} {l : List α} {m : List β} (h : Paired F l m) : l.length = m.length := by
  induction h with
  | nil => rfl
  | cons _ _ ih => simp only [List.length_cons]; rw [ih]
end
section
variable {X : Cx} {pins : List (Addr × Obj)} {σ : L2.St} {H : Hp} {s : Shared} {a d : Addr} {n : Nat} {M : List Nat} {T : Tab}
theorem nums_all {h : Heap} : ∀ {l : List Nat} {zs : List Value}, Vals (l.map fun (k : Nat) => V.int (k : Int)) zs → NestedAll h (l.map fun (k : Nat) => .num (k : Int)) zs
  | [], _, r => by cases r; exact .nil
  | x :: l, _, r => by
    cases r with
    | cons r1 r2 => obtain ⟨t, rfl⟩ := r1; exact .cons (.int _ _) (nums_all r2)
theorem key_is (I : Inv X pins σ H s) (h : Tp H (.ref a) (dMat n M)) : (nestedKind X.prog X.w).is s.heap (nkM n M) a := by
  obtain ⟨a1, b, e, ha, hb⟩ := tp_Mat h
  cases e
  obtain ⟨its, r, ⟨o, ho, hc, m, hd⟩, _⟩ := I.tuple (.inl ha)
  obtain ⟨us, r2, ⟨o2, ho2, hc2, m2, hd2⟩, _⟩ := I.tuple (.inl hb)
  cases r with | cons i1 r => cases r with | cons i2 r => cases r with | cons i3 r =>
  cases r
  obtain ⟨t1, rfl⟩ := i1
  obtain ⟨t2, rfl⟩ := i2
  cases i3
  exact ⟨.tup ho hc hd (.cons (.int _ _) (.cons (.int _ _) (.cons (.tup ho2 hc2 hd2 (nums_all r2)) .nil))), nkM_depth n M⟩
theorem keys_is (I : Inv X pins σ H s) : ∀ {T : Tab} {ys : List Ent} {xs : List (NestedKey × Addr × Value)}, Paired (entOk n H) T ys → Paired (yx n) ys xs → ∀ x ∈ xs, (nestedKind X.prog X.w).is s.heap x.1 x.2.1
  | [], _, _, r, rx => by cases r; cases rx; intro x hx; cases hx
  | t :: T, _, _, r, rx => by
    cases r with
    | @cons _ y _ ys ht r =>
      cases rx with
      | @cons _ x0 _ xs hy rx =>
        intro x hx
        rcases List.mem_cons.mp hx with rfl | hx
        · rw [hy.1, hy.2.1]; exact key_is I ht.2.1
        · exact keys_is I r rx x hx
/-- the table in the heap -/
theorem Tb.at_ (I : Inv X pins σ H s) (h : Tb X.prog X.w H d n T) : ∃ ys xs, H d = some (tabO X.prog X.w d n ys) ∧ Paired (entOk n H) T ys ∧ Paired (yx n) ys xs ∧ ys.length ≤ sizeLine ∧ (d == sysModules) = false ∧ s.heap.DictOfH (nestedKind X.prog X.w) d xs := by
  obtain ⟨ys, hd, r⟩ := h
  obtain ⟨⟨hz, hs, xs, rx, o, es, ep, ho, hx, hdat, hes, hn⟩, _⟩ := (show ObjOk X.prog X.w H s.heap d (tabO X.prog X.w d n ys) from I.hok d _ hd)
  exact ⟨ys, xs, hd, r, rx, hz, hs, o, es, ep, ho, hx, hdat, hes, keys_is I r rx, hn⟩
theorem tget_at : ∀ {T : Tab} {ys : List Ent} {xs : List (NestedKey × Addr × Value)}, Paired (entOk n H) T ys → Paired (yx n) ys xs → (tget T M = none ∧ atKey xs (nkM n M) = none) ∨ ∃ p v b u, tget T M = some p ∧ atKey xs (nkM n M) = some (b, u) ∧ RelV v u ∧ Tp H v (dP p)
  | [], _, _, r, rx => by cases r; cases rx; exact .inl ⟨rfl, rfl⟩
  | t :: T, _, _, r, rx => by
    cases r with
    | @cons _ y _ ys ht r =>
      cases rx with
      | @cons _ x _ xs hy rx =>
        by_cases e : t.1 = M
        · refine .inr ⟨t.2, y.2.2, x.2.1, x.2.2, ?_, ?_, hy.2.2, ht.2.2⟩
          · show (List.find? _ (t :: T)).map _ = _
            rw [List.find?_cons_of_pos (by simpa using e)]; rfl
          · show (List.find? _ (x :: xs)).map _ = _
            rw [List.find?_cons_of_pos (by simp only [decide_eq_true_eq]; rw [hy.1, ← ht.1, e])]; rfl
        · have h1 : tget (t :: T) M = tget T M := by
            show (List.find? _ (t :: T)).map _ = _
            rw [List.find?_cons_of_neg (by simpa using e)]; rfl
          have h2 : atKey (x :: xs) (nkM n M) = atKey xs (nkM n M) := by
            show (List.find? _ (x :: xs)).map _ = _
            rw [List.find?_cons_of_neg (by simp only [decide_eq_true_eq]; rw [hy.1, ← ht.1]; exact fun q => e (nkM_inj q))]; rfl
          rw [h1, h2]
          exact tget_at r rx
/-- the entries behind a store -/
def eput (ys : List Ent) (M : List Nat) (b : Addr) (v : V) : List Ent := if (ys.any fun y => decide (y.1 = M)) then ys.map (fun y => if y.1 = M then (y.1, y.2.1, v) else y) else ys ++ [(M, b, v)]
theorem any_eq : ∀ {T : Tab} {ys : List Ent} {xs : List (NestedKey × Addr × Value)}, Paired (entOk n H) T ys → Paired (yx n) ys xs → (tget T M).isSome = (ys.any fun y => decide (y.1 = M)) ∧ (atKey xs (nkM n M)).isSome = (ys.any fun y => decide (y.1 = M))
  | [], _, _, r, rx => by cases r; cases rx; exact ⟨rfl, rfl⟩
  | t :: T, _, _, r, rx => by
    cases r with
    | @cons _ y _ ys ht r =>
      cases rx with
      | @cons _ x _ xs hy rx =>
        obtain ⟨i1, i2⟩ := any_eq r rx
        rw [List.any_cons]
        by_cases e : y.1 = M
        · rw [decide_eq_true e, Bool.true_or]
          constructor
          · show ((List.find? _ (t :: T)).map _).isSome = _
            rw [List.find?_cons_of_pos (by simp only [decide_eq_true_eq]; rw [ht.1, e])]; rfl
          · show ((List.find? _ (x :: xs)).map _).isSome = _
            rw [List.find?_cons_of_pos (by simp only [decide_eq_true_eq]; rw [hy.1, e])]; rfl
        · rw [decide_eq_false e, Bool.false_or, ← i1]
          constructor
          · show ((List.find? _ (t :: T)).map _).isSome = _
            rw [List.find?_cons_of_neg (by simp only [decide_eq_true_eq]; rw [ht.1]; exact e)]; rfl
          · rw [i1, ← i2]
            show ((List.find? _ (x :: xs)).map _).isSome = _
            rw [List.find?_cons_of_neg (by simp only [decide_eq_true_eq]; rw [hy.1]; exact fun q => e (nkM_inj q))]; rfl
theorem map_map_p {α β γ δ : Type} {F : α → β → Prop} {G : γ → δ → Prop} {f : α → γ} {g : β → δ} (h : ∀ a b, F a b → G (f a) (g b)) : ∀ {l : List α} {m : List β}, Paired F l m → Paired G (l.map f) (m.map g)
  | _, _, .nil => .nil
  | _, _, .cons a r => .cons (h _ _ a) (map_map_p h r)
theorem eput_ok {b : Addr} {v : V} {p : List Int} {T : Tab} {ys : List Ent} {xs : List (NestedKey × Addr × Value)} (r : Paired (entOk n H) T ys) (rx : Paired (yx n) ys xs) (hb : Tp H (.ref b) (dMat n M)) (hv : Tp H v (dP p)) : Paired (entOk n H) (tput T M p) (eput ys M b v) := by
  unfold tput eput
  rw [(any_eq (M := M) r rx).1]
  by_cases c : (ys.any fun y => decide (y.1 = M)) = true
  · rw [if_pos c, if_pos c]
    refine map_map_p (fun t y h => ?_) r
    by_cases e : y.1 = M
    · rw [if_pos (by rw [h.1]; exact e), if_pos e]; exact ⟨h.1, h.2.1, hv⟩
    · rw [if_neg (by rw [h.1]; exact e), if_neg e]; exact h
  · rw [if_neg c, if_neg c]
    exact r.snoc ⟨rfl, hb, hv⟩
theorem eput_yx {b : Addr} {v : V} {u : Value} {T : Tab} {ys : List Ent} {xs : List (NestedKey × Addr × Value)} (r : Paired (entOk n H) T ys) (rx : Paired (yx n) ys xs) (ru : RelV v u) : Paired (yx n) (eput ys M b v) (storedH xs (nkM n M) b u) := by
  unfold storedH eput
  rw [(any_eq (M := M) r rx).2]
  by_cases c : (ys.any fun y => decide (y.1 = M)) = true
  · rw [if_pos c, if_pos c]
    refine map_map_p (fun y x h => ?_) rx
    unfold putAt
    by_cases e : y.1 = M
    · rw [if_pos e, if_pos (by rw [h.1, e])]; exact ⟨h.1, h.2.1, ru⟩
    · rw [if_neg e, if_neg (by rw [h.1]; exact fun q => e (nkM_inj q))]; exact h
  · rw [if_neg c, if_neg c]
    exact rx.snoc ⟨rfl, rfl, ru⟩
theorem eput_len (ys : List Ent) (M : List Nat) (b : Addr) (v : V) : (eput ys M b v).length ≤ ys.length + 1 := by
  unfold eput
  split
  · rw [List.length_map]; omega
  · rw [List.length_append]; exact Nat.le_refl _
/-! {} -/
def tNNew (P : Program) (w : World) : TE := fun _ H Q => ∃ n, ∀ p H', H p = none → Ex H H' → Tb P w H' p n [] → Q (.ref p) H'
theorem tab_empty (P : Program) (w : World) (h : Heap) (hb : sysModules < h.objs.size) (n : Nat) : tabPhi P w h.objs.size n [] (h.push { cls := .type "dict", data := .dict #[] }) := by
  obtain ⟨_, hs, _⟩ := (show _ ∧ _ ∧ _ from dt_empty (P := P) (w := w) (H := fun _ => none) h hb)
  obtain ⟨o, es, ep, h1, h2, h3, h4, _, h5⟩ := Heap.DictOfH.new (knd := nestedKind P w) h
  exact ⟨Nat.zero_le _, hs, [], .nil, o, es, ep, h1, h2, h3, h4, h5⟩
theorem pe_nnew {pos : Pos} : PE X (.Dict [] [] pos) (tNNew X.prog X.w) := ⟨fun pins s σ H Q I ⟨n, h⟩ => by
  have fr := I.hok.fresh (Nat.le_refl s.heap.objs.size)
  exact wpAny_Dict_empty ⟨.ref s.heap.objs.size, _, I.laid (a := s.heap.objs.size) (o := tabO X.prog X.w s.heap.objs.size n []) (t' := s.toks) (fun _ _ q => Heap.get?_push_of_some _ q) (Nat.le_refl _) (tab_ok (tab_empty _ _ s.heap I.big n)), rfl,
    h _ _ fr (Ex.new fr) ⟨[], upd_same, .nil⟩⟩⟩
theorem room8 {A : Around} (hu : A.units + 64 < cLine) : (nestedKind X.prog X.w).room A.in1 := by
  show A.units + 1 + 8 < cLine
  omega
/-! d[k] -/
def tNGet (P : Program) (w : World) (td ty : TE) : TE := fun σ H Q => td σ H fun x H1 => ty σ H1 fun y H2 => ∃ a n T M p, x = .ref a ∧ Tb P w H2 a n T ∧ Tp H2 y (dMat n M) ∧ tget T M = some p ∧ ∀ v, Tp H2 v (dP p) → Q v H2
theorem pe_nget {o i : Expr} {td ty : TE} {pos : Pos} (hu : X.A.units + 64 < cLine) (ho : PE X o td) (hi : PE X i ty) (hs : NoSl i) : PE X (.Subscript o i pos) (tNGet X.prog X.w td ty) := by
  refine ⟨fun pins s σ H Q I h => ?_⟩
  refine subD_of PySem.F.slot_dict_getitem.lookup hs (thn (ho.run pins s σ H _ I h) fun u s1 ⟨x, H1, I1, rx, q1⟩ => thn (hi.run pins s1 σ H1 _ I1 q1) fun iv s2 ⟨y, H2, I2, ry, a, n, T, M, p, ex, tb, ky, g, q2⟩ => ?_)
  subst ex
  obtain rfl : u = Value.ref a := rx
  obtain ⟨ys, xs, hd, r, rx, hz, hs, dd⟩ := tb.at_ I2
  obtain ⟨b, b', rfl, _⟩ := tp_Mat ky
  obtain rfl : iv = Value.ref b := ry
  rcases tget_at (M := M) r rx with ⟨g0, _⟩ | ⟨p', v, c, u, g1, ak, rv, tv⟩
  · rw [g] at g0; cases g0
  · rw [g] at g1; cases g1
    exact ⟨dd.typeIs, wpAny_getItem_heap (p := (c, u)) (room8 hu) (key_is I2 ky) dd ak ⟨v, H2, I2.tok _, rv, q2 v tv⟩⟩
/-! d.get(k, x) -/
def tNGet2 (P : Program) (w : World) (td ty tx : TE) : TE := fun σ H Q => td σ H fun x H1 => ∃ a n0 T0, x = .ref a ∧ Tb P w H1 a n0 T0 ∧ ty σ H1 fun y H2 => tx σ H2 fun z H3 => ∃ n T M, Tb P w H3 a n T ∧ Tp H3 y (dMat n M) ∧
  (∀ v p, tget T M = some p → Tp H3 v (dP p) → Q v H3) ∧ (tget T M = none → Q z H3)
theorem pe_nget2 {o e f : Expr} {td ty tx : TE} {apos cpos : Pos} (hu : X.A.units + 64 < cLine) (ho : PE X o td) (he : PE X e ty) (hf : PE X f tx) (m : M2 X o "get" apos e f cpos) : PE X (.Call (.Attribute o "get" apos) [e, f] [] cpos) (tNGet2 X.prog X.w td ty tx) := by
  refine ⟨fun pins s σ H Q I h => ?_⟩
  refine wpAny_Call_method m.base m.few m.line PySem.F.plainAttrs_dict PySem.F.slot_dict_get PySem.F.type_dict_get (thn (ho.run pins s σ H _ I h) fun u s1 ⟨x, H1, I1, rx, a, n0, T0, ex, tb0, q1⟩ => ?_)
  subst ex
  obtain rfl : u = Value.ref a := rx
  obtain ⟨_, _, _, _, _, _, _, dd0⟩ := tb0.at_ I1
  refine ⟨dd0.typeIs, fun b q => ?_, ?_⟩
  · cases q
    obtain ⟨ob, _, _, h1, h2, _⟩ := dd0
    exact ⟨ob, h1, h2.2.1⟩
  rw [m.trees]
  refine Calls.callWith_builtin rfl (Calls.evalArgs_plain (Calls.spliced_cons (thn (he.run pins s1 σ H1 _ I1 q1) fun iv s2 ⟨y, H2, I2, ry, q2⟩ =>
    Calls.spliced_cons (thn (hf.run pins s2 σ H2 _ I2 q2) fun fv s3 ⟨z, H3, I3, rz, n, T, M, tb, ky, k1, k2⟩ => Calls.spliced_nil ?_))))
  obtain ⟨ys, xs, hd, r, rx, hz, hs, dd⟩ := tb.at_ I3
  obtain ⟨b, b', rfl, _⟩ := tp_Mat ky
  obtain rfl : iv = Value.ref b := ry
  refine call_meetsIn PySem.F.slot_dict_get dd.typeIs PySem.F.entry_dict_get (PySem.F.args_dict_get_3 _ _ _) (meetsH_dict_get_default (nestedKind X.prog X.w) a b hs fv) ⟨room8 hu, nkM n M, xs, key_is I3 ky, dd, ?_⟩
  rcases tget_at (M := M) r rx with ⟨g0, ak⟩ | ⟨p', v, c, u, g1, ak, rv, tv⟩
  · rw [ak]; exact ⟨z, H3, I3.tok _, rz, k2 g0⟩
  · rw [ak]; exact ⟨v, H3, I3.tok _, rv, k1 v p' g1 tv⟩
/-! d[k] = v -/
def sNPut (P : Program) (w : World) (td ty tv : TE) : TS := fun D σ H => tv σ H fun v H1 => td σ H1 fun x H2 => ty σ H2 fun y H3 => ∃ a n T M p, x = .ref a ∧ Tb P w H3 a n T ∧ Tp H3 y (dMat n M) ∧ Tp H3 v (dP p) ∧ T.length < 100000 ∧
  ∀ H4, ExB a H3 H4 → Tb P w H4 a n (tput T M p) → D.nx σ H4
theorem ps_nput {o i value : Expr} {td ty tv : TE} {pos pos' : Pos} (hu : X.A.units + 64 < cLine) (ho : PE X o td) (hi : PE X i ty) (hv : PE X value tv) (hs : swapsWith value (some (.Subscript o i pos')) pos.line X.env = pure false) :
    PS X (.Assign [.Subscript o i pos'] value pos) (sNPut X.prog X.w td ty tv) := by
  refine ⟨fun pins s σ H D I h => ?_⟩
  refine wpAny_Assign_Subscript (thn (hv.run pins s σ H _ I h) fun r s1 ⟨v, H1, I1, rv, q1⟩ => thn (ho.run pins s1 σ H1 _ I1 q1) fun u s2 ⟨x, H2, I2, rx, q2⟩ => thn (hi.run pins s2 σ H2 _ I2 q2) fun iv s3 ⟨y, H3, I3, ry, a, n, T, M, p, ex, tb, ky, kv, hl, q3⟩ => ?_) hs
  subst ex
  obtain rfl : u = Value.ref a := rx
  obtain ⟨ys, xs, hd, r1, rx, hz, hs, dd⟩ := tb.at_ I3
  obtain ⟨b, b', rfl, _⟩ := tp_Mat ky
  obtain rfl : iv = Value.ref b := ry
  have e1 : T.length = ys.length := pair_len r1
  have e2 : ys.length = xs.length := pair_len rx
  refine wpAny_setItem_heap (hsz := by omega) (room8 hu) (key_is I3 ky) dd fun h' dd' hsb => ?_
  obtain ⟨q, es, ep, hq, h2, h3, h4, _, h5⟩ := dd'
  have phi : tabPhi X.prog X.w a n (eput ys M b v) h' := ⟨by have := eput_len ys M b v; have := small_lt hl; omega, hs, _, eput_yx r1 rx rv, q, es, ep, hq, h2, h3, h4, h5⟩
  have nt := tb.noTup
  have xb := ExB.upd a H3 (tabO X.prog X.w a n (eput ys M b v))
  exact ⟨σ, _, d_write I3 (by rw [hd]; exact True.intro) hsb ⟨q, hq⟩ (tab_ok phi), q3 _ xb ⟨_, upd_same, Paired.mapP (eput_ok r1 rx ky kv) fun _ _ z => z.mono (xb.tk nt)⟩⟩
end
end Hk


namespace Hk
open PySem PySem.Spec PyProof.Rows L2
open PySem.W (dataLe AllAlike Sortable EachIs)
/-- a tuple known to its object, which has no dict of its own -/
def Fz (H : Hp) (v : V) (d : PyData) : Prop := ∃ a o xs ds, v = .ref a ∧ d = .tuple ds ∧ H a = some (.frz o (.tup xs)) ∧ o.dict = none ∧ TpAll H xs ds
theorem Fz.tp {H : Hp} {v : V} {d : PyData} (h : Fz H v d) : Tp H v d := by
  obtain ⟨a, o, xs, ds, rfl, rfl, ha, _, r⟩ := h
  exact .tup (.inr ⟨o, ha⟩) r
theorem Fz.mono {H H' : Hp} {v : V} {d : PyData} (k : TK H H') (h : Fz H v d) : Fz H' v d := by
  obtain ⟨a, o, xs, ds, rfl, rfl, ha, ho, r⟩ := h
  exact ⟨a, o, xs, ds, rfl, rfl, k.2 _ _ _ ha, ho, r.mono k⟩
theorem Fz.ex {H H' : Hp} {v : V} {d : PyData} (e : Ex H H') (h : Fz H v d) : Fz H' v d := h.mono e.tk
theorem p_get {α β : Type} {F : α → β → Prop} {l : List α} {m : List β} (h : Paired F l m) : ∀ {i : Nat} {a : α}, l[i]? = some a → ∃ b, m[i]? = some b ∧ F a b := by
  induction h with
  | nil => intro i a e; simp at e
  | cons ab _ ih =>
    intro i a e
    cases i with
    | zero => simp at e; subst e; exact ⟨_, rfl, ab⟩
    | succ i => exact ih (i := i) (by simpa using e)
theorem p_get' {α β : Type} {F : α → β → Prop} {l : List α} {m : List β} (h : Paired F l m) : ∀ {i : Nat} {b : β}, m[i]? = some b → ∃ a, l[i]? = some a ∧ F a b := by
  induction h with
  | nil => intro i a e; simp at e
  | cons ab _ ih =>
    intro i b e
    cases i with
    | zero => simp at e; subst e; exact ⟨_, rfl, ab⟩
    | succ i => exact ih (i := i) (by simpa using e)
section
variable {X : Cx} {pins : List (Addr × Obj)} {σ : L2.St} {H : Hp} {s : Shared} {n : Nat}
/-! ### dict(a sum) -/
/-- a pair's tuple and the entry that it makes -/
def pairOk (H : Hp) (t : Addr) (y : Ent) : Prop := Rd H t (.tup [.ref y.2.1, y.2.2])
theorem sum_ents : ∀ {xs : List V} {T : Tab}, TpAll H xs (T.map (dTerm n)) → ∃ ts ys, xs = ts.map V.ref ∧ Paired (entOk n H) T ys ∧ Paired (pairOk H) ts ys
  | [], [], _ => ⟨[], [], rfl, .nil, .nil⟩
  | [], _ :: _, h => by cases h
  | _ :: _, [], h => by cases h
  | x :: xs, t :: T, h => by
    cases h with
    | cons h1 h2 =>
      obtain ⟨ts, ys, rfl, r1, r2⟩ := sum_ents h2
      obtain ⟨b, zs, rfl, hb, r⟩ := h1.tup_inv
      cases r with | cons k1 r => cases r with | cons k2 r =>
      cases r
      obtain ⟨k, k', rfl, _⟩ := tp_Mat k1
      exact ⟨b :: ts, (t.1, k, _) :: ys, rfl, .cons ⟨rfl, k1, k2⟩ r1, .cons hb r2⟩
theorem raw_ents (I : Inv X pins σ H s) : ∀ {ts : List Addr} {ys : List Ent}, Paired (pairOk H) ts ys → ∃ ps : List (NestedKey × Addr × Value), Paired (yx n) ys ps ∧ Paired (fun (t : Addr) (p : NestedKey × Addr × Value) => s.heap.IsTuple t #[.ref p.2.1, p.2.2]) ts ps
  | _, _, .nil => ⟨[], .nil, .nil⟩
  | _, _, .cons (a := t) (b := y) h r => by
    obtain ⟨ps, r1, r2⟩ := raw_ents I r
    obtain ⟨its, rv, hi, _⟩ := I.tuple (.inl h)
    cases rv with | cons v1 rv => cases rv with | @cons _ u2 _ _ v2 rv =>
    cases rv
    cases v1
    exact ⟨(nkM n y.1, y.2.1, u2) :: ps, .cons ⟨rfl, rfl, v2⟩ r1, .cons hi r2⟩
theorem yx_nodup : ∀ {T : Tab} {ys : List Ent} {ps : List (NestedKey × Addr × Value)}, Paired (entOk n H) T ys → Paired (yx n) ys ps → (T.map (·.1)).Nodup → (ps.map (·.1)).Nodup := by
  intro T ys ps r rx hn
  have e : ∀ {T : Tab} {ys : List Ent} {ps : List (NestedKey × Addr × Value)}, Paired (entOk n H) T ys → Paired (yx n) ys ps → ps.map (·.1) = (T.map (·.1)).map (nkM n) := by
    intro T ys ps r
    induction r generalizing ps with
    | nil => intro rx; cases rx; rfl
    | cons ht _ ih =>
      intro rx
      cases rx with
      | cons hy rx => rw [List.map_cons, List.map_cons, List.map_cons, ih rx, hy.1, ht.1]
  rw [e r rx]
  clear e r rx
  induction T with
  | nil => exact List.nodup_nil
  | cons t T ih =>
    rw [List.map_cons, List.nodup_cons] at hn
    rw [List.map_cons, List.map_cons, List.nodup_cons]
    refine ⟨fun h => ?_, ih hn.2⟩
    obtain ⟨M, hM, e⟩ := List.mem_map.mp h
    rw [nkM_inj e] at hM
    exact hn.1 hM
/-- dict(t), t a sum that is known to its object -/
def rDictN (P : Program) (w : World) : List V → Hp → VK → Prop := fun vs H Q => ∃ v n T, vs = [v] ∧ Fz H v (dSum n T) ∧ (T.map (·.1)).Nodup ∧ T.length ≤ 100000 ∧ ∀ p H', H p = none → Ex H H' → Tb P w H' p n T → Q (.ref p) H'
theorem call_dictN (hc : X.calm = true) (hu : X.A.units + 64 < cLine) : CallR X (.type "dict") (rDictN X.prog X.w) := by
  intro pins s σ H xs us Q I rv h
  obtain ⟨v, n, T, rfl, fz, hn, hL, q⟩ := h
  obtain ⟨u, rfl, ru⟩ := vals1 rv
  obtain ⟨a, o, zs, ds, rfl, ed, ha, hdn, r⟩ := fz
  cases ed
  cases ru
  obtain ⟨ts, ys, rfl, r1, r2⟩ := sum_ents r
  obtain ⟨ps, r3, r4⟩ := raw_ents (n := n) I r2
  have oko : ObjOk X.prog X.w H s.heap a (.frz o (.tup (ts.map V.ref))) := I.hok a _ ha
  obtain ⟨hga, hsz, its, rv, ⟨o2, ho2, hcls, m, hdat⟩⟩ := oko
  rw [hga] at ho2
  cases ho2
  obtain rfl := refs_at rv
  have e1 : T.length = ys.length := pair_len r1
  have e2 : ys.length = ps.length := pair_len r3
  have e3 : ts.length = ps.length := pair_len r4
  have pg : ∀ (j : Nat) (k v : Value), (ps.map fun p => (Value.ref p.2.1, p.2.2))[j]? = some (k, v) → ∃ (p : NestedKey × Addr × Value) (t : Addr), ps[j]? = some p ∧ ts[j]? = some t ∧ k = Value.ref p.2.1 ∧ v = p.2.2 ∧ s.heap.IsTuple t #[.ref p.2.1, p.2.2] := by
    intro j k v hj
    rw [List.getElem?_map] at hj
    cases hp : ps[j]? with
    | none => rw [hp] at hj; cases hj
    | some p =>
      rw [hp] at hj
      cases hj
      obtain ⟨t, ht, it⟩ := p_get' r4 hp
      exact ⟨p, t, rfl, ht, rfl, rfl, it⟩
  have okH : PlainSeq "tuple" s.heap a (ts.map Value.ref).toArray ∧ PairItems s.heap (ts.map Value.ref).toArray (fun j => ts.getD j 0) (ps.map fun p => (Value.ref p.2.1, p.2.2)) := by
    refine ⟨⟨o, m, hga, hcls, hdn, hdat⟩, by simp [e3], fun j k v hj => ?_⟩
    obtain ⟨p, t, hp, ht, rfl, rfl, it⟩ := pg j k v hj
    have eg : ts.getD j 0 = t := by rw [List.getD_eq_getElem?_getD, ht]; rfl
    dsimp only
    rw [eg]
    refine ⟨?_, .inl it⟩
    simp [ht]
  refine call_dict_pairsH (knd := nestedKind X.prog X.w) (ps := ps) (PairArg.tuple a (ts.map Value.ref).toArray (fun j => ts.getD j 0) (ps.map fun p => (Value.ref p.2.1, p.2.2))) (I.ok.hd hc) ?_ okH ⟨by simp, fun i key v hr => ?_⟩ (fun h' hk x hx => ?_) (by rw [List.length_map]; have := small_le hL; omega) fun h' tk dd hk => ?_
  · show X.A.units + 1 + 1 + 8 < cLine
    omega
  · obtain ⟨p, t, hp, ht, rfl, rfl, it⟩ := pg i key v hr
    exact ⟨p.1, p.2.1, hp, rfl⟩
  · have : ∀ b o, s.heap.get? b = some o → h'.get? b = some o := fun b o e => hk b o (Nat.ne_of_lt (Heap.lt_size e)) (by simp) e
    exact nestedKind_stays.stays (fun b o vs n hb _ => this b o hb) (keys_is I r1 r3 x hx)
  · have nd := yx_nodup r1 r3 hn
    rw [storedAllH_nil_of_nodup _ nd] at dd
    obtain ⟨q1, es, ep, hq, h2, h3, h4, _, h5⟩ := dd
    have fr := I.hok.fresh (Nat.le_refl s.heap.objs.size)
    have lo : (s.heap.objs.size == sysModules) = false := beq_eq_false_iff_ne.mpr (Nat.ne_of_gt I.big)
    have phi : tabPhi X.prog X.w s.heap.objs.size n ys h' := ⟨by have := small_le hL; omega, lo, ps, r3, q1, es, ep, hq, h2, h3, h4, h5⟩
    exact ⟨.ref s.heap.objs.size, _, I.laid (t' := tk) (fun b o e => hk b o (by simp) e) (Nat.le_refl _) (tab_ok phi), rfl, q _ _ fr (Ex.new fr) ⟨ys, upd_same, Paired.mapP r1 fun _ _ z => z.mono (Ex.new fr).tk⟩⟩
/-! ### sorted(table) -/
/-- sorted(x) up to the sort -/
theorem sorted_src {prog : Program} {w : World} {A : Around} {E : Value → Shared → Prop} {s : Shared} {T : String} {r d : Addr} {n : Nat} {PP : Nat → Value → Prop} {OK : Heap → Prop} {Q : Value → Shared → Prop} (K : PySem.W.KdlSrc prog w T r d n PP OK) (hh : A.handled = none) (hok : OK s.heap) (hn : n ≤ sizeLine)
    (h : ∀ (h' : Heap) (tk : Nat) (vs : List Value), (∀ b o, s.heap.get? b = some o → h'.get? b = some o) → vs.length = n → (∀ (j : Nat) (v : Value), vs[j]? = some v → PP j v) →
      wpAny (model prog w) A.in1 (call (.builtin "list.sort") [.ref h'.objs.size]) (fun _ s' => Q (.ref h'.objs.size) s') E { s with heap := h'.push { cls := .type "list", data := .seq vs.toArray }, toks := tk }) :
    wpAny (model prog w) A (call (.builtin "sorted") [.ref r]) Q E s := by
  refine PySem.Calls.call_function_entry kind_sorted plain_sorted entry_sorted (args_sorted1 _) ?_
  unfold Builtin.«sorted»
  refine wpAny_bind (m := checkCount "sorted" 1 1 _) (wpAny_pure ?_)
  refine wpAny_bind (PySem.W.kdu_collect (A := A.in1) K hh hok hn fun h' tk acc hk hacc => ?_)
  have hl : acc.toList.length = n := by rw [Array.length_toList]; exact hacc.1
  refine wpAny_bind (wpAny_newList ?_ (by rw [hl]; exact hn))
  refine wpAny_bind (wpAny_holding (wpAny_mono (h h' tk acc.toList hk hl (fun j v e => hacc.2 j v (by rw [← Array.getElem?_toList]; exact e))) (fun _ s' x => ?_) fun _ _ e => e))
  exact wpAny_pure ⟨_, rfl, x⟩
def rSortedNK (P : Program) (w : World) : List V → Hp → VK → Prop := fun vs H Q => ∃ a n T, vs = [.ref a] ∧ Tb P w H a n T ∧ ∀ p H', H p = none → Ex H H' → Ls H' p (((T.map (·.1)).mergeSort leL).map (dMat n)) → Q (.ref p) H'
theorem cr_sortedNK (hc : X.calm = true) (hu : X.A.units + 64 < cLine) : CallR X (.builtin "sorted") (rSortedNK X.prog X.w) := by
  intro pins s σ H xs us Q I rv h
  obtain ⟨a, n, T, rfl, tb, q⟩ := h
  obtain ⟨u, rfl, ru⟩ := vals1 rv
  cases ru
  obtain ⟨ys, ps, hd, r1, r2, hz, hs, o, es, ep, ho, hx, hdat, hes, his, hn⟩ := tb.at_ I
  have e1 : T.length = ys.length := pair_len r1
  have e2 : ys.length = ps.length := pair_len r2
  have e4 : es.size = ps.length := by rw [← Array.length_toList, hes, List.length_map]
  refine sorted_src (kdl_raw hs hx hdat) (I.ok.hd hc) ho (by omega) fun h' tk vs hk hl hv => ?_
  -- what the list holds
  have hstd : EachIs (Std H (dMat n)) vs (T.map (·.1)) := by
    have key : ∀ (T : Tab) (vs : List Value), vs.length = T.length → (∀ (j : Nat) (v : Value) (t : List Nat × List Int), vs[j]? = some v → T[j]? = some t → Std H (dMat n) v t.1) → EachIs (Std H (dMat n)) vs (T.map (·.1)) := by
      intro T
      induction T with
      | nil => intro vs hl _; rw [List.length_eq_zero_iff.mp hl]; exact .nil
      | cons t T ih =>
        intro vs hl hh
        cases vs with
        | nil => simp at hl
        | cons v vs => exact .cons (hh 0 v t rfl rfl) (ih vs (by simpa using hl) fun j v' t' h1 h2 => hh (j + 1) v' t' (by simpa using h1) (by simpa using h2))
    refine key T vs (by omega) fun j v t h1 h2 => ?_
    obtain ⟨en, hen, rfl⟩ := hv j v h1
    obtain ⟨y, hy, ey⟩ := p_get r1 h2
    obtain ⟨p, hp, ep'⟩ := p_get r2 hy
    have hen' : es.toList[j]? = some en := by rw [Array.getElem?_toList]; exact hen
    rw [hes, List.getElem?_map, hp] at hen'
    cases hen'
    refine ⟨.ref y.2.1, ?_, by rw [ey.1]; exact ey.2.1⟩
    show Value.ref p.2.1 = Value.ref y.2.1
    rw [ep'.2.1]
  have I1 : Inv X pins σ H { s with heap := h', toks := tk } := I.kept hk
  have hrd := std_reads I1 hstd
  have noad : EachIs (fun v b => ∃ as, Reads (h'.push { cls := .type "list", data := .seq vs.toArray }) v (dMat n b) as ∧ h'.objs.size ∉ as) vs (T.map (·.1)) :=
    hstd.mono fun v b ⟨x, rx, tx⟩ => ⟨[], PyProof.Rows.Reads.keeps (fun _ _ e => Heap.get?_push_of_some _ e) (Tp.noAddr I1 tx rx), by simp⟩
  have sz : (T.map (·.1)).length ≤ sizeLine := by rw [List.length_map]; omega
  refine PySem.W.list_sort_data (s := { s with heap := h'.push { cls := .type "list", data := .seq vs.toArray }, toks := tk }) (n := 0) (Heap.get?_push_size _ rfl) hstd noad (.of fun b b' => alike_Mat n n b b') (.tuples fun b => ⟨_, _, rfl⟩) sz (fun b _ => ?_) fun out ho2 eo => ?_
  · rw [depth_Mat]; show X.A.units + 1 + 1 + 2 < cLine; omega
  rw [dataLe_Mat] at eo
  obtain ⟨zs, rz, tz⟩ := of_std eo
  obtain ⟨c, hc2⟩ := sortedHeap_at (out := out.toArray) (show (h'.push { cls := .type "list", data := .seq vs.toArray }).get? h'.objs.size = some (seqObj "list" vs.toArray 0) from Heap.get?_push_size _ rfl)
  have fr : H h'.objs.size = none := I1.hok.fresh (Nat.le_refl _)
  have zl : zs.length ≤ sizeLine := by rw [rz.length, ho2]; exact sz
  have kp : ∀ b o, h'.get? b = some o → (sortedHeap (h'.push { cls := .type "list", data := .seq vs.toArray }) h'.objs.size vs out.toArray).get? b = some o := fun b o e1 => by
    rw [sortedHeap_old (Nat.ne_of_lt (Heap.lt_size e1)) (by rw [Heap.size_push]; exact Nat.lt_succ_of_lt (Heap.lt_size e1))]
    exact Heap.get?_push_of_some _ e1
  exact ⟨.ref h'.objs.size, _, I1.laid (t' := tk) (o := .lst zs) kp (Nat.le_refl _) ⟨zl, out, c, rz, hc2⟩, rfl, q _ _ fr (Ex.new fr) ⟨zs, upd_same, tz.ex (Ex.new fr)⟩⟩
end
end Hk


namespace Hk
open PySem PySem.Spec PyProof.Rows L2
open AutoSeq1 (wpAny_loadPart')
section
variable {prog : Program} {w : World} {A : Around} {E : Value → Shared → Prop} {s : Shared}
/-! ### list(reversed(range(a, b))) -/
theorem call_rit_hint {I : Addr} {x left step : Int} {Q : Value → Shared → Prop} (hr : IsRangeIter s.heap I x left step) (h : Q (.int left s.toks) { s with toks := s.toks + 1 }) :
    wpAny (model prog w) A (call (.builtin "range_iterator.__length_hint__") [.ref I]) Q E s := by
  have hT : s.TypeIs (.ref I) "range_iterator" := ⟨_, hr, rfl⟩
  refine wpAny_call_entry F.slot_range_iterator_length_hint hT F.entry_range_iterator_length_hint ?_ (F.args_range_iterator_length_hint_1 _)
  obtain ⟨hp, g, d, tk, os⟩ := s
  wp_walk using wpAny_loadPart' hr
  exact ⟨_, rfl, h⟩
theorem hint_rit {I : Addr} {x left step : Int} {Q : Bool → Shared → Prop} (hr : IsRangeIter s.heap I x left step) (hl : left ≤ 2 ^ 24) (h : ∀ tk, s.toks ≤ tk → Q false { s with toks := tk }) :
    wpAny (model prog w) A (Builtin.List.listLengthHint (.ref I)) Q E s := by
  have hT : s.TypeIs (.ref I) "range_iterator" := ⟨_, hr, rfl⟩
  unfold Builtin.List.listLengthHint
  refine wpAny_bind (wpAny_specialOf hT F.nolen_ra ?_)
  show wpAny _ A (specialOf (Value.ref I) (Str.ofString "__length_hint__") >>= _) _ _ _
  refine wpAny_bind (wpAny_specialOf hT F.hint_ra ?_)
  (generalize hid : ("range_iterator.__length_hint__" : String) = id0; (fail_if_success (clear hid id0)); wp_delta; rw [show splitId id0 = some ("range_iterator", "__length_hint__") from by subst hid; decide +kernel]; subst hid)
  refine wpAny_bind (wpAny_isInstance (b := true) hT (by rw [isSubtype_type]; kernel_rfl) ?_)
  show wpAny _ A (call (.builtin "range_iterator.__length_hint__") [.ref I] >>= _) _ _ _
  refine wpAny_bind (call_rit_hint hr ?_)
  refine wpAny_bind (m := asInt? (.int left s.toks)) (wpAny_pure ?_)
  dsimp only
  have htl : Builtin.List.listTooLong left.toNat = false := by simp [Builtin.List.listTooLong, sizeLine]; omega
  rw [if_neg (by rw [htl]; decide)]
  exact wpAny_pure (h _ (Nat.le_succ _))
theorem extend_rit {R : Result → Shared → Prop} {I : Addr} {a c : Int} {n : Nat} (hh : A.handled = none) (hr : IsRangeIter s.heap I a n c) (hlen : n ≤ 2 ^ 24) (S : Addr) (res : Value) (c₀ : Nat) (hS : s.heap.get? S = some { cls := .type "list", data := .seq #[] c₀ })
    (hR : ∀ h' tk acc' c', (∀ b o, b ≠ S → b ≠ I → s.heap.get? b = some o → h'.get? b = some o) → h'.get? S = some { cls := .type "list", dict := none, data := .seq acc' c', slots := #[] } →
      ItemsOf (fun i v => ∃ t, v = .int (a + i * c) t) acc' n → R (.ok (.ret res)) { s with heap := h', toks := tk }) :
    wpAny (model prog w) A.in1 (Builtin.List.listExtendWith (.ref S) (.ref I) res)
      (fun fin s' => match fin with | .done f => R (.ok f) s' | .again c' => c'.quiet = true ∧ codeAny (model prog w) A c' R s') (fun e s' => R (.error e) s') s := by
  have hSI : S ≠ I := fun e => by rw [e, hr] at hS; simp at hS
  have hSf : S ∉ [I] := fun hm => hSI (List.mem_singleton.mp hm)
  have W := (Walks.range (prog := prog) (w := w) (A := A.in1) hh I a c n).toS
  have hit0 : IsRangeIter s.heap I (a + ((0 : Nat) : Int) * c) ((n : Int) - ((0 : Nat) : Int)) c := by simpa using hr
  unfold Builtin.List.listExtendWith
  refine wpAny_bind (wpAny_typeOf (T := "range_iterator") ⟨_, hr, rfl⟩ ?_)
  have h1 : Builtin.List.listSameRef (.ref S) (.ref I) = false := by simp [Builtin.List.listSameRef, hSI]
  have h2 : (Value.type "range_iterator" == Value.type "list") = false := by decide
  have h3 : (Value.type "range_iterator" == Value.type "tuple") = false := by decide
  simp only [h1, h2, h3, Bool.or_false, Bool.false_eq_true, if_false]
  refine wpAny_bind (wpAny_pyIter_rangeiter hr ?_)
  refine wpAny_bind (wpAny_holding (hint_rit hr (by omega) fun tk htk => ?_))
  refine wpAny_ite_split (fun q => absurd q (by decide)) (fun _ => wpAny_pure ⟨plainId_quiet F.plain_extend_loop _, ?_⟩)
  refine codeAny_extend_loopS W (by rw [sizeLine_eq]; omega) S hSf res n 0 _ #[] c₀ rfl (Nat.zero_le _) hit0 hS (ItemsOf.nil _) fun s' acc' c' hm hS' hacc => ?_
  rw [Moved.eq_with hm]
  refine hR s'.heap s'.toks acc' c' (fun b o hb hb2 e => hm.heap b o (fun hmem => ?_) e) hS' hacc
  rcases List.mem_cons.mp hmem with e' | hmem
  · exact hb e'
  · exact hb2 (List.mem_singleton.mp hmem)
theorem init_rit {R : Result → Shared → Prop} {I : Addr} {a c : Int} {n : Nat} (hh : A.handled = none) (hr : IsRangeIter s.heap I a n c) (hlen : n ≤ 2 ^ 24) (S : Addr) (hS : s.heap.get? S = some { cls := .type "list", data := .seq #[] })
    (hR : ∀ h' tk acc' c', (∀ b o, b ≠ S → b ≠ I → s.heap.get? b = some o → h'.get? b = some o) → h'.get? S = some { cls := .type "list", dict := none, data := .seq acc' c', slots := #[] } →
      ItemsOf (fun i v => ∃ t, v = .int (a + i * c) t) acc' n → R (.ok (.ret .none)) { s with heap := h', toks := tk }) :
    wpAny (model prog w) A.in1 (Builtin.«list.__init__» ⟨[.ref S, .ref I], []⟩)
      (fun fin s' => match fin with | .done f => R (.ok f) s' | .again c' => c'.quiet = true ∧ codeAny (model prog w) A c' R s') (fun e s' => R (.error e) s') s := by
  have hSI : S ≠ I := fun e => by rw [e, hr] at hS; simp at hS
  show wpAny _ _ (do let old ← Builtin.List.listItems (.ref S); Builtin.List.listUpdate (.ref S) (fun _ => #[]); letGo old.toList.reverse; Builtin.List.listExtendWith (.ref S) (.ref I) .none) _ _ s
  refine wpAny_bind ?_
  unfold Builtin.List.listItems
  refine wpAny_bind (wpAny_seqItems hS rfl (wpAny_pure ?_))
  show wpAny _ _ (updateSeq S (fun _ => #[]) >>= fun _ => letGo (#[] : Array Value).toList.reverse >>= fun _ => Builtin.List.listExtendWith (.ref S) (.ref I) .none) _ _ s
  refine wpAny_bind (wpAny_updateSeq hS rfl ?_)
  have hS₂ := Heap.get?_update_self (Obj.mapSeq (fun _ => (#[] : Array Value))) hS rfl
  have oth : ∀ b o, b ≠ S → s.heap.get? b = some o → (s.heap.update S (Obj.mapSeq (fun _ => (#[] : Array Value)))).get? b = some o :=
    fun b o hb e => (Heap.get?_update_other _ _ (Ne.symm hb)).trans e
  refine wpAny_bind (wpAny_letGo ?_)
  refine extend_rit hh (oth I _ (Ne.symm hSI) hr) hlen S .none _ hS₂ fun h' tk acc' c' hk hS' hacc => ?_
  exact hR h' tk acc' c' (fun b o hb hb2 e => hk b o hb hb2 (oth b o hb e)) hS' hacc
theorem call_list_rit {Q : Value → Shared → Prop} {I : Addr} {a c : Int} {n : Nat} (hh : A.handled = none) (hr : IsRangeIter s.heap I a n c) (hlen : n ≤ 2 ^ 24)
    (hQ : ∀ h' tk acc' c', (∀ b o, b ≠ I → s.heap.get? b = some o → h'.get? b = some o) →
      h'.get? s.heap.objs.size = some { cls := .type "list", dict := none, data := .seq acc' c', slots := #[] } → ItemsOf (fun i v => ∃ t, v = .int (a + i * c) t) acc' n → Q (.ref s.heap.objs.size) { s with heap := h', toks := tk }) :
    wpAny (model prog w) A (call (.type "list") [.ref I]) Q E s := by
  refine callType_codes (Q₁ := fun obj s₁ => obj = .ref s.heap.objs.size ∧ s₁ = { s with heap := s.heap.push { cls := .type "list", data := .seq #[] } }) F.called_list (F.typeCall_list_1 _) F.entry_list_init
    (code_list_new _ ⟨rfl, rfl⟩) fun obj s₁ h₁ => ?_
  obtain ⟨rfl, rfl⟩ := h₁
  have hS : (s.heap.push { cls := .type "list", data := .seq #[] }).get? s.heap.objs.size = some { cls := .type "list", data := .seq #[] } := Heap.get?_push_size _ rfl
  refine ⟨⟨_, hS, rfl⟩, F.args_list_init_2 _ _, init_rit (A := A.in1) hh (Heap.get?_push_of_some _ hr) hlen _ hS fun h' tk acc' c' hk hS' hacc => ?_⟩
  exact ⟨rfl, hQ h' tk acc' c' (fun b o hb e => hk b o (Nat.ne_of_lt (Heap.lt_size e)) hb (Heap.get?_push_of_some _ e)) hS' hacc⟩
end
/-- the ints a, a - 1, .. -/
def dnV (a : Int) (n : Nat) : List V := (List.range n).map fun i => V.int (a - (i : Nat))
theorem vals_dn {a : Int} {n : Nat} {acc : Array Value} (h : ItemsOf (fun i v => ∃ t, v = .int (a + i * (-1)) t) acc n) : Vals (dnV a n) acc.toList := by
  have e : acc.toList.length = n := by rw [Array.length_toList]; exact h.1
  unfold dnV
  rw [← e]
  refine vals_of_get acc.toList _ fun j u hj => ?_
  obtain ⟨t, rfl⟩ := h.2 j u (by rw [← hj, Array.getElem?_toList])
  exact ⟨t, by congr 1; omega⟩
section
variable {X : Cx}
def tRevRg (tr : L2.St → Hp → (Int → Int → Hp → Prop) → Prop) : TE := fun σ H Q => tr σ H fun a b H1 => RgOk a b ∧ ∀ q, H1 q = none → Q (.ref q) (upd H1 q (.lst (dnV (b - 1) (b - a).toNat)))
theorem pe_listRevRg {e : Expr} {tr : L2.St → Hp → (Int → Int → Hp → Prop) → Prop} {p p2 pos pos2 : Pos} (hc : X.calm = true) (hg : Gl X "list") (hm : X.mg "list" = none) (hg2 : Gl X "reversed") (hm2 : X.mg "reversed" = none) (he : PRg X e tr)
    (hs : starEach [e] X.env = (false, eval e X.env) :: starEach [] X.env := by rfl)
    (hs2 : starEach [.Call (.Name "reversed" p2) [e] [] pos2] X.env = (false, eval (.Call (.Name "reversed" p2) [e] [] pos2) X.env) :: starEach [] X.env := by rfl) :
    PE X (.Call (.Name "list" p) [.Call (.Name "reversed" p2) [e] [] pos2] [] pos) (tRevRg tr) := by
  refine ⟨fun pins s σ H Q I h => ?_⟩
  refine Call_ (ld_blt I hg hm boot_list (PyProof.Rows.callWith_type1 (args_cons (Call_ (ld_blt I hg2 hm2 PyProof.Rows.boot_reversed (PyProof.Rows.callWith_type1 (args_cons (thn (he pins s σ H _ I h) fun u s1 hx => args_nil ?_) hs) hs rfl))) hs2) hs2 rfl))
  obtain ⟨r, a, b, t, w1, v, H1, eu, hr, I1, ⟨b1, b2, b3, b4, b5⟩, q⟩ := hx
  subst eu
  have hn : Builtin.Range.rangeSize a b 1 = (((b - a).toNat : Nat) : Int) := rangeSize_nat a b
  refine call_reversed_range hr (smallRev_one b1 b2 b3 b4) (args_nil ?_)
  have hit : IsRangeIter (s1.heap.push (rngRevObj a b 1)) s1.heap.objs.size (a + (((b - a).toNat : Nat) : Int) - 1) (((b - a).toNat : Nat) : Int) (-1) := by
    have e1 : a + (((b - a).toNat : Nat) : Int) - 1 = a + (Builtin.Range.rangeSize a b 1 - 1) * 1 := by rw [hn]; omega
    rw [e1, ← hn]
    exact Heap.get?_push_size _ rfl
  have k0 : ∀ b' o, s1.heap.get? b' = some o → (s1.heap.push (rngRevObj a b 1)).get? b' = some o := fun b o e => Heap.get?_push_of_some _ e
  have I2 : Inv X pins σ H1 { s1 with heap := s1.heap.push (rngRevObj a b 1) } := I1.kept (t' := s1.toks) k0
  have nil_dn : (b - a).toNat = 0 → dnV (b - 1) (b - a).toNat = [] := fun z => by rw [z]; rfl
  refine call_list_rit (s := { s1 with heap := s1.heap.push (rngRevObj a b 1) }) (I1.ok.hd hc) hit b5 fun h' tk acc c' hk e' hi => ?_
  have k1 : ∀ b' o, s1.heap.get? b' = some o → h'.get? b' = some o := fun b' o e => hk b' o (Nat.ne_of_lt (Heap.lt_size e)) (k0 b' o e)
  have zs : (s1.heap.push (rngRevObj a b 1)).objs.size = s1.heap.objs.size + 1 := Heap.size_push ..
  refine ⟨.ref (s1.heap.push (rngRevObj a b 1)).objs.size, upd H1 (s1.heap.push (rngRevObj a b 1)).objs.size (.lst (dnV (b - 1) (b - a).toNat)), I1.laid (t' := tk) k1 (by rw [zs]; exact Nat.le_succ _) (show ObjOk X.prog X.w _ _ _ (.lst (dnV (b - 1) (b - a).toNat)) from ⟨?_, acc.toList, c', ?_, ?_⟩), rfl, q _ (I2.hok.fresh (Nat.le_refl _))⟩
  · unfold dnV; rw [List.length_map, List.length_range, sizeLine_eq]; omega
  · have := vals_dn hi
    rcases Nat.eq_zero_or_pos (b - a).toNat with z | z
    · rw [z] at this ⊢; exact this
    · have ea : a + (((b - a).toNat : Nat) : Int) - 1 = b - 1 := by omega
      rw [ea] at this
      exact this
  · rw [Array.toArray_toList]; exact e'
/-! ### list(range(a, b, -1)) -/
theorem rangeSize_dn (a b : Int) : Builtin.Range.rangeSize a b (-1) = (((a - b).toNat : Nat) : Int) := by
  have := rangeSize_one b a
  unfold Builtin.Range.rangeSize at this ⊢
  by_cases h : b < a
  · rw [if_pos h] at this
    simp [h]
    omega
  · simp [h]
    omega
def tRgD (ta tb tc : TE) : TE := fun σ H Q => ta σ H fun x H1 => tb σ H1 fun y H2 => tc σ H2 fun z H3 => ∃ i j, x = .int i ∧ y = .int j ∧ z = .int (-1) ∧ (-100000 ≤ i ∧ i ≤ 100000 ∧ -100000 ≤ j ∧ j ≤ 100000) ∧ ∀ q, H3 q = none → Q (.ref q) (upd H3 q (.lst (dnV i (i - j).toNat)))
theorem small_dn {i j : Int} (h : -100000 ≤ i ∧ i ≤ 100000 ∧ -100000 ≤ j ∧ j ≤ 100000) : Builtin.Range.small i j (-1) = true := by
  have hn := rangeSize_dn i j
  unfold Builtin.Range.small
  rw [hn]
  simp only [Builtin.Range.rangeFitsLong, Bool.and_eq_true, Bool.or_eq_true, decide_eq_true_eq, beq_iff_eq, show ¬ ((-1 : Int) > 0) by decide, if_false]
  omega
theorem pe_listRgD {a b c : Expr} {ta tb tc : TE} {p p2 pos pos2 : Pos} (hc : X.calm = true) (hg : Gl X "list") (hm : X.mg "list" = none) (hg2 : Gl X "range") (hm2 : X.mg "range" = none) (ha : PE X a ta) (hb : PE X b tb) (hd : PE X c tc)
    (na : starEach [a, b, c] X.env = (false, eval a X.env) :: starEach [b, c] X.env := by rfl) (nb : starEach [b, c] X.env = (false, eval b X.env) :: starEach [c] X.env := by rfl) (nc : starEach [c] X.env = (false, eval c X.env) :: starEach [] X.env := by rfl)
    (hp : (backTo pos2 (starEach [b, c] X.env)).any (·.1) = false := by rfl) (hp2 : (backTo pos2 (starEach [c] X.env)).any (·.1) = false := by rfl)
    (hs2 : starEach [.Call (.Name "range" p2) [a, b, c] [] pos2] X.env = (false, eval (.Call (.Name "range" p2) [a, b, c] [] pos2) X.env) :: starEach [] X.env := by rfl) :
    PE X (.Call (.Name "list" p) [.Call (.Name "range" p2) [a, b, c] [] pos2] [] pos) (tRgD ta tb tc) := by
  refine ⟨fun pins s σ H Q I h => ?_⟩
  refine Call_ (ld_blt I hg hm boot_list (PyProof.Rows.callWith_type1 (args_cons (Call_ (ld_blt I hg2 hm2 boot_range (PyProof.Rows.callWith_type1 (args_cons (thn (ha.run pins s σ H _ I h) fun v s1 ⟨x, H1, I1, r1, q1⟩ => args_cons (thn (hb.run pins s1 σ H1 _ I1 q1) fun v2 s2 ⟨y, H2, I2, r2, q2⟩ => one_arg hd I2 q2 (fun u s3 z H3 I3 r3 q => ?_) nc) nb) na) na hp))) hs2) hs2 rfl))
  obtain ⟨i, j, rfl, rfl, rfl, ok, q⟩ := q
  obtain ⟨t1, rfl⟩ := r1
  obtain ⟨t2, rfl⟩ := r2
  obtain ⟨t3, rfl⟩ := r3
  refine call_range_3 (by decide) (args_nil ?_) (Or.inl (PyProof.noPylong_small (by omega)))
  refine call_list_range (n := (i - j).toNat) (I3.ok.hd hc) (IsRange.new _ _ _ _ _ _ _) (small_dn ok) (rangeSize_dn i j) (by omega) fun h' tk acc c' hk e' hi => ?_
  have k1 : ∀ b' o, s3.heap.get? b' = some o → h'.get? b' = some o := fun b' o e => hk b' o (Heap.get?_push_of_some _ e)
  refine ⟨.ref _, upd H3 _ (.lst (dnV i (i - j).toNat)), I3.laid (t' := tk) k1 (Nat.le_of_lt (by rw [Heap.size_push]; exact Nat.lt_succ_self _)) (show ObjOk X.prog X.w _ _ _ (.lst (dnV i (i - j).toNat)) from ⟨?_, acc.toList, c', vals_dn hi, ?_⟩), rfl, q _ (I3.hok.fresh (Nat.le_of_lt (by rw [Heap.size_push]; exact Nat.lt_succ_self _)))⟩
  · unfold dnV; rw [List.length_map, List.length_range, sizeLine_eq]; omega
  · rw [Array.toArray_toList]; exact e'
end
end Hk


namespace Hk
open PySem PySem.Spec PyProof.Rows L2
/-! ### more readings -/
def nats (l : List Nat) : List PyData := l.map fun (k : Nat) => PyData.int (k : Int)
theorem nats_len (l : List Nat) : (nats l).length = l.length := by unfold nats; simp
theorem nats_get {l : List Nat} {i k : Nat} (h : l[i]? = some k) : (nats l)[i]? = some (.int k) := by unfold nats; rw [List.getElem?_map, h]; rfl
theorem nats_get' {l : List Nat} {i : Nat} {d : PyData} (h : (nats l)[i]? = some d) : ∃ k, l[i]? = some k ∧ d = .int k := by
  unfold nats at h; rw [List.getElem?_map] at h
  cases e : l[i]? with
  | none => rw [e] at h; cases h
  | some k => rw [e] at h; cases h; exact ⟨k, rfl, rfl⟩
theorem nats_set (l : List Nat) (i k : Nat) : (nats l).set i (.int k) = nats (l.set i k) := by unfold nats; rw [List.map_set]
theorem nats_app (l m : List Nat) : nats l ++ nats m = nats (l ++ m) := by unfold nats; rw [List.map_append]
theorem nats_rep (n : Nat) : List.replicate n (PyData.int 0) = nats (List.replicate n 0) := by unfold nats; rw [List.map_replicate]; rfl
theorem ints_get {l : List Int} {i : Nat} {k : Int} (h : l[i]? = some k) : (l.map PyData.int)[i]? = some (.int k) := by rw [List.getElem?_map, h]; rfl
theorem ints_get' {l : List Int} {i : Nat} {d : PyData} (h : (l.map PyData.int)[i]? = some d) : ∃ k, l[i]? = some k ∧ d = .int k := by
  rw [List.getElem?_map] at h
  cases e : l[i]? with
  | none => rw [e] at h; cases h
  | some k => rw [e] at h; cases h; exact ⟨k, rfl, rfl⟩
theorem at_nat {α : Type} {l : List α} {i : Nat} {a : α} (h : l[i]? = some a) : atI l (i : Int) = some a := by
  unfold atI; rw [ixN_nat (List.getElem?_eq_some_iff.mp h).1]; exact h
theorem at_last {α : Type} {l : List α} {a : α} : atI (l ++ [a]) (-1) = some a := by
  unfold atI ixN
  simp only [List.length_append, List.length_singleton]
  rw [if_neg (by omega), if_pos (by omega), Option.bind_some, show (-1 + ((l.length + 1 : Nat) : Int)).toNat = l.length by omega]
  simp
theorem TpAll.i1 {H : Hp} {vs : List V} {a : PyData} (h : TpAll H vs [a]) : ∃ v, vs = [v] ∧ Tp H v a := by cases h with | cons a r => cases r; exact ⟨_, rfl, a⟩
theorem TpAll.i2 {H : Hp} {vs : List V} {a b : PyData} (h : TpAll H vs [a, b]) : ∃ v w, vs = [v, w] ∧ Tp H v a ∧ Tp H w b := by
  cases h with | cons a r => obtain ⟨w, rfl, b⟩ := r.i1; exact ⟨_, _, rfl, a, b⟩
theorem TpAll.i3 {H : Hp} {vs : List V} {a b c : PyData} (h : TpAll H vs [a, b, c]) : ∃ v w x, vs = [v, w, x] ∧ Tp H v a ∧ Tp H w b ∧ Tp H x c := by
  cases h with | cons a r => obtain ⟨w, x, rfl, b, c⟩ := r.i2; exact ⟨_, _, _, rfl, a, b, c⟩
theorem TpAll.i4 {H : Hp} {vs : List V} {a b c d : PyData} (h : TpAll H vs [a, b, c, d]) : ∃ v w x y, vs = [v, w, x, y] ∧ Tp H v a ∧ Tp H w b ∧ Tp H x c ∧ Tp H y d := by
  cases h with | cons a r => obtain ⟨w, x, y, rfl, b, c, d⟩ := r.i3; exact ⟨_, _, _, _, rfl, a, b, c, d⟩
theorem Ls.keepB {H H' : Hp} {l q : Addr} {ds : List PyData} (h : Ls H l ds) (b : ExB q H H') (n : l ≠ q) (t : NoTup H q) : Ls H' l ds := h.keep (b.tk t) fun o e => b l o n e
section
variable {K : PySem.W.Frag} {σ : L2.St} {H H' : Hp} {ta tb tc te tx : TE} {tr : TA} {t u : TT} {x y z v : V} {d d' : PyData} {ds es : List PyData} {D : Ends} {tu tw : TS} {g : TG} {E : XK}
theorem evd_neg {i : Int} (h : EvD ta σ H (.int i)) : EvD (tUn (rU fun i => .int (-i)) ta) σ H (.int (-i)) := fun H1 e1 Q q => h H1 e1 _ fun v H2 e2 tv => ⟨i, tv.int_inv, q _ H2 e2 (.int _)⟩
theorem evd_chain {f g : Int → Int → Bool} {i j k : Int} (ha : EvD ta σ H (.int i)) (hb : EvD tb σ H (.int j)) (hc : EvD tc σ H (.int k)) :
    EvD (tChain (rI0 fun i j => .bl (f i j)) (rI0 fun i j => .bl (g i j)) ta tb tc) σ H (.bool (f i j && g j k)) :=
  fun H1 e1 Q q => ha H1 e1 _ fun x H2 e2 tx => hb H2 (e1.trans e2) _ fun y H3 e3 ty => ⟨i, j, tx.int_inv, ty.int_inv, f i j, rfl, by
    cases e : f i j with
    | false => rw [e] at q; simp only [Bool.false_eq_true, if_false]; exact q _ H3 (e2.trans e3) (.bl _)
    | true =>
      rw [e] at q; simp only [if_true]
      refine hc H3 ((e1.trans e2).trans e3) _ fun w H4 e4 tw => ⟨j, k, ty.int_inv, tw.int_inv, q _ H4 ((e2.trans e3).trans e4) (.bl _)⟩⟩
/-- a list against [] -/
theorem evd_neL0 {l : Addr} (hv : σ[i]? = some (some (.ref l))) (hl : Ls H l ds) (hs : SeqAt.shaped (.list ds) = true) : EvD (tOp (rNeD K) (tVar i) (tLst tNil)) σ H (.bool (!decide (ds = []))) :=
  fun H1 e1 Q q => ⟨.ref l, hv, Nat.zero_le _, fun p hp => by
    obtain ⟨xs, hx, r⟩ := hl.ex (e1.trans (Ex.new (o := .lst []) hp))
    refine ⟨.list ds, .list [], .lst (SqL.of hx) r.dp, .lst (SqL.of upd_same) .nil, hs, rfl, ?_⟩
    have e : PyData.eqv (.list ds) (.list []) = decide (ds = []) := by cases ds <;> rfl
    rw [e]; exact q _ _ (Ex.new hp) (.bl _)⟩
theorem evd_eqL0 {l : Addr} (hv : σ[i]? = some (some (.ref l))) (hl : Ls H l ds) (hs : SeqAt.shaped (.list ds) = true) : EvD (tOp (rEqD K) (tVar i) (tLst tNil)) σ H (.bool (decide (ds = []))) :=
  fun H1 e1 Q q => ⟨.ref l, hv, Nat.zero_le _, fun p hp => by
    obtain ⟨xs, hx, r⟩ := hl.ex (e1.trans (Ex.new (o := .lst []) hp))
    refine ⟨.list ds, .list [], .lst (SqL.of hx) r.dp, .lst (SqL.of upd_same) .nil, hs, rfl, ?_⟩
    have e : PyData.eqv (.list ds) (.list []) = decide (ds = []) := by cases ds <;> rfl
    rw [e]; exact q _ _ (Ex.new hp) (.bl _)⟩
theorem sh_nats (l : List Nat) : SeqAt.shaped (.list (nats l)) = true := by
  show (PyData.canLayAll0 (nats l) && decide (PyData.depthAll (nats l) + 1 ≤ 64)) = true
  unfold nats; rw [can_nats, depth_nats]; rfl
/-! ranges as lists -/
theorem rgV_nats (a b : Nat) : rgV (a : Int) (b : Int) = (List.range' a (b - a)).map fun (k : Nat) => V.int (k : Int) := by
  unfold rgV
  rw [List.range'_eq_map_range, List.map_map, show ((b : Int) - (a : Int)).toNat = b - a by omega]
  exact List.map_congr_left fun i _ => by show V.int _ = V.int _; congr 1; try omega
theorem dnV_nats (lo n : Nat) : dnV ((lo : Int) + (n : Int) - 1) n = ((List.range' lo n).reverse).map fun (k : Nat) => V.int (k : Int) := by
  unfold dnV
  rw [List.range'_eq_map_range, ← List.map_reverse, List.map_map]
  have e : (List.range n).reverse = (List.range n).map fun i => n - 1 - i := by
    apply List.ext_getElem?
    intro i
    by_cases hi : i < n
    · rw [List.getElem?_reverse (by simpa using hi), List.length_range, List.getElem?_range (by omega), List.getElem?_map, List.getElem?_range hi]; rfl
    · rw [List.getElem?_eq_none (by simp; omega), List.getElem?_eq_none (by simp; omega)]
  rw [e, List.map_map]
  refine List.map_congr_left fun i hi => ?_
  have hi := List.mem_range.mp hi
  show V.int _ = V.int _; congr 1
  simp only [Function.comp]
  omega
theorem tp_nats {l : List Nat} : TpAll H (l.map fun (k : Nat) => V.int (k : Int)) (nats l) := by
  induction l with
  | nil => exact .nil
  | cons a l ih => exact .cons (.int _) ih
theorem evn_rg1 {n : Nat} (h : EvD te σ H (.int n)) (hn : n ≤ 100000) : EvN (tLstRg (tRg1 te)) σ H (nats (List.range n)) :=
  fun H1 e1 Q q => h H1 e1 _ fun v H2 e2 tv => ⟨n, tv.int_inv, RgOk.of_le (by omega) (by omega) (by omega) (by omega), fun p hp => by
    have e : rgV 0 (n : Int) = (List.range n).map fun (k : Nat) => V.int (k : Int) := by
      have := rgV_nats 0 n
      rw [List.range_eq_range']; exact this
    refine q p _ (e2.back hp) (e2.trans (Ex.new hp)) ⟨_, upd_same, ?_⟩
    rw [e]; exact tp_nats⟩
theorem evn_rg2 {a n : Nat} {j : Int} (ha : EvD ta σ H (.int a)) (hb : EvD tb σ H (.int j)) (hj : j = (a : Int) + n) (hn : a + n ≤ 100000) : EvN (tLstRg (tRg2 ta tb)) σ H (nats (List.range' a n)) :=
  fun H1 e1 Q q => ha H1 e1 _ fun v H2 e2 tv => hb H2 (e1.trans e2) _ fun w H3 e3 tw => ⟨a, j, tv.int_inv, tw.int_inv, RgOk.of_le (by omega) (by omega) (by omega) (by omega), fun p hp => by
    refine q p _ ((e2.trans e3).back hp) ((e2.trans e3).trans (Ex.new hp)) ⟨_, upd_same, ?_⟩
    have e : rgV (a : Int) j = (List.range' a n).map fun (k : Nat) => V.int (k : Int) := by
      have := rgV_nats a (a + n)
      rw [show a + n - a = n by omega] at this
      rw [hj, ← this]; congr 1
    rw [e]; exact tp_nats⟩
theorem evn_revRg0 {a b : Nat} (ha : EvD ta σ H (.int a)) (hb : EvD tb σ H (.int b)) (hn : a ≤ b ∧ b ≤ 100000) : EvN (tRevRg (tRg2 ta tb)) σ H (nats (List.range' a (b - a)).reverse) :=
  fun H1 e1 Q q => ha H1 e1 _ fun v H2 e2 tv => hb H2 (e1.trans e2) _ fun w H3 e3 tw => ⟨a, b, tv.int_inv, tw.int_inv, RgOk.of_le (by omega) (by omega) (by omega) (by omega), fun p hp => by
    refine q p _ ((e2.trans e3).back hp) ((e2.trans e3).trans (Ex.new hp)) ⟨_, upd_same, ?_⟩
    have e : dnV ((b : Int) - 1) ((b : Int) - (a : Int)).toNat = ((List.range' a (b - a)).reverse).map fun (k : Nat) => V.int (k : Int) := by
      rw [← dnV_nats, show ((b : Int) - (a : Int)).toNat = b - a by omega]; congr 1; omega
    rw [e]; exact tp_nats⟩
theorem evn_revRg {a n : Nat} {j : Int} (ha : EvD ta σ H (.int a)) (hb : EvD tb σ H (.int j)) (hj : j = (a : Int) + n) (hn : a + n ≤ 100000) : EvN (tRevRg (tRg2 ta tb)) σ H (nats (List.range' a n).reverse) := by
  have := evn_revRg0 (b := a + n) ha (by rw [hj] at hb; exact hb) (by omega)
  rw [show a + n - a = n by omega] at this
  exact this
theorem evn_rgD {i j : Int} {lo n : Nat} (ha : EvD ta σ H (.int i)) (hb : EvD tb σ H (.int j)) (hc : EvD tc σ H (.int (-1))) (hi : i = (lo : Int) + n - 1) (hj : j = (lo : Int) - 1) (hn : lo + n ≤ 100000) : EvN (tRgD ta tb tc) σ H (nats (List.range' lo n).reverse) :=
  fun H1 e1 Q q => ha H1 e1 _ fun v H2 e2 tv => hb H2 (e1.trans e2) _ fun w H3 e3 tw => hc H3 ((e1.trans e2).trans e3) _ fun w' H4 e4 tw' => ⟨i, j, tv.int_inv, tw.int_inv, tw'.int_inv, by omega, fun p hp => by
    refine q p _ (((e2.trans e3).trans e4).back hp) (((e2.trans e3).trans e4).trans (Ex.new hp)) ⟨_, upd_same, ?_⟩
    have e : dnV i (i - j).toNat = ((List.range' lo n).reverse).map fun (k : Nat) => V.int (k : Int) := by
      rw [← dnV_nats, hi, hj]; congr 1; omega
    rw [e]; exact tp_nats⟩
/-! calls of built-ins -/
theorem evd_int1 {i : Int} (h : EvD te σ H (.int i)) : EvD (tCB (fun xs H Q => (∃ i, xs = [.int i] ∧ Q (.int i) H) ∨ ∃ k, xs = [.bl k] ∧ Q (.int (if k then 1 else 0)) H) (tCons te tNil)) σ H (.int i) :=
  fun H1 e1 Q q => h H1 e1 _ fun v H2 e2 tv => .inl ⟨i, by rw [tv.int_inv], q _ H2 e2 (.int _)⟩
theorem evd_intB {k : Bool} (h : EvD te σ H (.bool k)) : EvD (tCB (fun xs H Q => (∃ i, xs = [.int i] ∧ Q (.int i) H) ∨ ∃ k, xs = [.bl k] ∧ Q (.int (if k then 1 else 0)) H) (tCons te tNil)) σ H (.int (if k then 1 else 0)) :=
  fun H1 e1 Q q => h H1 e1 _ fun v H2 e2 tv => .inr ⟨k, by rw [tv.bl_inv], q _ H2 e2 (.int _)⟩
theorem evd_min2 {i j : Int} (ha : EvD ta σ H (.int i)) (hb : EvD tb σ H (.int j)) : EvD (tCB (fun xs H Q => ∃ i j, xs = [.int i, .int j] ∧ Q (.int (if j < i then j else i)) H) (tCons ta (tCons tb tNil))) σ H (.int (if j < i then j else i)) :=
  fun H1 e1 Q q => ha H1 e1 _ fun v H2 e2 tv => hb H2 (e1.trans e2) _ fun w H3 e3 tw => ⟨i, j, by rw [tv.int_inv, tw.int_inv], q _ H3 (e2.trans e3) (.int _)⟩
theorem evd_max2 {i j : Int} (ha : EvD ta σ H (.int i)) (hb : EvD tb σ H (.int j)) : EvD (tCB (fun xs H Q => ∃ i j, xs = [.int i, .int j] ∧ Q (.int (if j > i then j else i)) H) (tCons ta (tCons tb tNil))) σ H (.int (if j > i then j else i)) :=
  fun H1 e1 Q q => ha H1 e1 _ fun v H2 e2 tv => hb H2 (e1.trans e2) _ fun w H3 e3 tw => ⟨i, j, by rw [tv.int_inv, tw.int_inv], q _ H3 (e2.trans e3) (.int _)⟩
theorem evd_abs {i : Int} (h : EvD te σ H (.int i)) : EvD (tCB (fun xs H Q => ∃ i, xs = [.int i] ∧ Q (.int (if i < 0 then -i else i)) H) (tCons te tNil)) σ H (.int (if i < 0 then -i else i)) :=
  fun H1 e1 Q q => h H1 e1 _ fun v H2 e2 tv => ⟨i, by rw [tv.int_inv], q _ H2 e2 (.int _)⟩
theorem evd_allN {bs : List Bool} (h : EvN te σ H (bs.map .bool)) : EvD (tCB (rAll K) (tCons te tNil)) σ H (.bool (bs.all id)) :=
  fun H1 e1 Q q => h H1 e1 _ fun p H2 np e2 hl => ⟨p, bs, rfl, SqL.of hl.bools, q _ H2 e2 (.bl _)⟩
theorem evd_maxN {ns : List Int} {m : Int} (h : EvN te σ H (ns.map .int)) (hm : m ∈ ns) (hb : ∀ y ∈ ns, y ≤ m) : EvD (tCB (rMax K) (tCons te tNil)) σ H (.int m) :=
  fun H1 e1 Q q => h H1 e1 _ fun p H2 np e2 hl => ⟨p, ns, rfl, SqL.of hl.ints, List.length_pos_of_mem hm, fun m' hm' hb' => by
    have : m' = m := Int.le_antisymm (hb _ hm') (hb' _ hm)
    rw [this]; exact q _ H2 e2 (.int _)⟩
/-- (x,) * k -/
theorem evd_repT {k : Int} (ha : EvD ta σ H (.tuple [d])) (hb : EvD tb σ H (.int k)) (h0 : 0 ≤ k) (h1 : k ≤ 1000) : EvD (tOp (rRepA K) ta tb) σ H (.tuple (List.replicate k.toNat d)) :=
  evd_op ha hb fun x y H1 _ tx ty Q q => by
    obtain ⟨a, xs, rfl, ha, r⟩ := tx.tup_inv
    obtain ⟨v, rfl, tv⟩ := r.i1
    refine ⟨a, k, [v], rfl, ty.int_inv, .inl ha, by simp, h0, h1, by simp, fun e => ?_, fun _ p hp => ?_⟩
    · subst e; exact q _ H1 (Ex.refl _) (.tup ha (.cons tv .nil))
    · rw [flat_rep]
      exact q _ _ (Ex.new hp) (.tup (.inl upd_same) ((TpAll.rep tv k.toNat).ex (Ex.new hp)))
/-! targets -/
theorem gt2 {i j : Nat} {d e : PyData} (h : Tp H v (.tuple [d, e])) : ∃ x y, Tp H x d ∧ Tp H y e ∧ ∀ (σ : L2.St) (R : L2.St → Hp → Prop), R ((σ.set i (some x)).set j (some y)) H → gTup K 2 (gCons (gName i) (gCons (gName j) gNil)) v σ H R := by
  obtain ⟨a, xs, rfl, ha, r⟩ := h.tup_inv
  obtain ⟨x, y, rfl, tx, ty⟩ := r.i2
  exact ⟨x, y, tx, ty, fun σ R k => ⟨a, _, rfl, .inl ha, rfl, _, _, rfl, _, _, rfl, rfl, k⟩⟩
/-- row[i] as a target -/
theorem g_sub {l : Addr} {i : Int} {j : Nat} {R : L2.St → Hp → Prop} (ho : EvV ta σ H (.ref l)) (hi : EvD tb σ H (.int i)) (hl : Ls H l ds) (hj : ixN ds.length i = some j) (tv : Tp H v d)
    (k : ∀ H2, ExB l H H2 → Ls H2 l (ds.set j d) → R σ H2) : gSub ta tb rSetL v σ H R :=
  ho H (Ex.refl _) _ fun H2 e2 => hi H2 e2 _ fun y H3 e3 ty => by
    obtain ⟨xs, hx, r⟩ := hl.ex (e2.trans e3)
    refine ⟨l, xs, i, j, rfl, ty.int_inv, hx, by rw [r.length]; exact hj, ?_⟩
    exact k _ (((e2.trans e3).b l).trans (ExB.upd l H3 _)) ⟨_, upd_same, ((r.set j (tv.ex (e2.trans e3)))).mono (TK.updL hx)⟩
/-- two targets -/
theorem g_two {g1 g2 : TG} {d e : PyData} {R : L2.St → Hp → Prop} (h : Tp H v (.tuple [d, e])) (k : ∀ x y, Tp H x d → Tp H y e → g1 x σ H fun σ2 H2 => ∃ v r, [y] = v :: r ∧ g2 v σ2 H2 fun σ3 H3 => r = [] ∧ R σ3 H3) : gTup K 2 (gCons g1 (gCons g2 gNil)) v σ H R := by
  obtain ⟨a, xs, rfl, ha, r⟩ := h.tup_inv
  obtain ⟨x, y, rfl, tx, ty⟩ := r.i2
  exact ⟨a, _, rfl, .inl ha, rfl, x, [y], rfl, k x y tx ty⟩
/-- l.pop() -/
theorem v_pop0 {l : Addr} {Q : VK} (ho : EvV ta σ H (.ref l)) (hl : Ls H l (ds ++ [d]))
    (k : ∀ v H2, ExB l H H2 → Ls H2 l ds → Tp H2 v d → Q v H2) : tBM0 K "list" rPop ta σ H Q :=
  ho H (Ex.refl _) _ fun H1 e1 => by
    obtain ⟨xs, hx, r⟩ := hl.ex e1
    refine ⟨.inl ⟨rfl, _, SqL.of hx⟩, ?_⟩
    have hlen : xs.length = ds.length + 1 := by rw [r.length]; simp
    obtain ⟨v, hv, tv⟩ := r.get (i := ds.length) (d := d) (by simp)
    refine ⟨l, xs, v, rfl, rfl, hx, by rw [hlen]; exact hv, ?_⟩
    have r2 : TpAll H1 xs.dropLast ds := by
      have := r.take ds.length
      rw [List.dropLast_eq_take, hlen]
      simpa using this
    exact k v _ ((e1.b l).trans (ExB.upd l H1 _)) ⟨_, upd_same, r2.mono (TK.updL hx)⟩ (tv.mono (TK.updL hx))
theorem s_pop {l : Addr} (ho : EvV ta σ H (.ref l)) (hl : Ls H l (ds ++ [d])) (k : ∀ H2, ExB l H H2 → Ls H2 l ds → D.nx σ H2) : tDrop (tBM0 K "list" rPop ta) D σ H := v_pop0 ho hl fun _ H2 b l _ => k H2 b l
theorem s_popI {l : Addr} {i : Nat} (ho : EvV ta σ H (.ref l)) (hl : Ls H l (ds ++ [d])) (k : ∀ v H2, ExB l H H2 → Ls H2 l ds → Tp H2 v d → D.nx (σ.set i (some v)) H2) : tAsg (tBM0 K "list" rPop ta) (gName i) D σ H := v_pop0 ho hl k
/-- l.append(e), one frame for all -/
theorem s_appB {l : Addr} (ho : EvV ta σ H (.ref l)) (h : EvD te σ H d) (hl : Ls H l ds) (hz : ds.length < 100000)
    (k : ∀ H2, ExB l H H2 → Ls H2 l (ds ++ [d]) → D.nx σ H2) : tDrop (tBM K "list" rAppend ta (tCons te tNil)) D σ H := s_app ho h hl hz fun H1 H2 e b l => k H2 ((e.b _).trans b) l
theorem s_setB {l : Addr} {j : Nat} {i : Int} (h : EvD te σ H d) (ho : EvV ta σ H (.ref l)) (hi : EvD tb σ H (.int i)) (hl : Ls H l ds) (hj : ixN ds.length i = some j)
    (k : ∀ H2, ExB l H H2 → Ls H2 l (ds.set j d) → D.nx σ H2) : tAsg te (gSub ta tb rSetL) D σ H := s_setL h ho hi hl hj fun H1 H2 e b l => k H2 ((e.b _).trans b) l
/-! comprehensions of data -/
theorem filt_take {fl : List (Option PyData)} {i : Nat} {o : Option PyData} (h : fl[i]? = some o) : (fl.take (i + 1)).filterMap id = (fl.take i).filterMap id ++ (match o with | some e => [e] | none => []) := by
  have hlt := (List.getElem?_eq_some_iff.mp h).1
  have e : fl[i] = o := (List.getElem?_eq_some_iff.mp h).2
  rw [List.take_succ_eq_append_getElem hlt, List.filterMap_append, e]
  cases o <;> rfl
theorem evt_nil : EvT (fun (_ : L2.St) (H : Hp) (Q : Bool → Hp → Prop) => Q true H) σ H true := fun H1 e Q q => q H1 (Ex.refl _)
theorem filt_all (es : List PyData) : (es.map some).filterMap id = es := by
  induction es with
  | nil => rfl
  | cons e es ih => rw [List.map_cons, List.filterMap_cons]; simp [ih]
theorem lc_step {fl : List (Option PyData)} {i : Nat} {o : Option PyData} {H3 : Hp} {q : Addr} {acc : List V} {tt : TT} {te : TE} {σ2 : L2.St} (hq : H q = none) (ho : fl[i]? = some o) (hz : fl.length ≤ 100000) (e3 : Ex H H3) (hacc : H3 q = some (.lst acc)) (racc : TpAll H3 acc ((fl.take i).filterMap id))
    (ht : EvT tt σ2 H3 o.isSome) (he : ∀ e, o = some e → EvD te σ2 H3 e) :
    tt σ2 H3 fun b H4 => if b = true then te σ2 H4 fun y H5 => ∃ acc, H5 q = some (.lst acc) ∧ acc.length < sizeLine ∧ (∃ acc', (upd H5 q (.lst (acc ++ [y]))) q = some (.lst acc') ∧ TpAll (upd H5 q (.lst (acc ++ [y]))) acc' ((fl.take (i + 1)).filterMap id) ∧ Ex H (upd H5 q (.lst (acc ++ [y]))))
      else (∃ acc', H4 q = some (.lst acc') ∧ TpAll H4 acc' ((fl.take (i + 1)).filterMap id) ∧ Ex H H4) := by
  refine ht H3 (Ex.refl _) _ fun H4 e4 => ?_
  rw [filt_take ho]
  cases o with
  | none =>
    refine iteF ⟨acc, e4 _ _ hacc, ?_, e3.trans e4⟩
    rw [List.append_nil]; exact racc.ex e4
  | some e =>
    refine iteT ?_
    refine he e rfl H4 e4 _ fun y H5 e5 ty => ⟨acc, (e4.trans e5) _ _ hacc, ?_, _, upd_same, ?_, (e3.trans (e4.trans e5)).mut hq⟩
    · rw [racc.length]
      refine small_lt (Nat.lt_of_le_of_lt (List.length_filterMap_le _ _) ?_)
      have := (List.getElem?_eq_some_iff.mp ho).1
      rw [List.length_take]; omega
    · exact ((racc.ex (e4.trans e5)).append (.cons ty .nil)).mono (TK.updL ((e4.trans e5) _ _ hacc))
theorem evn_lcT {tl te : TE} {vs : List Nat} {fl : List (Option PyData)} (h : EvD tl σ H (.tuple ds)) (hlen : fl.length = ds.length) (hz : fl.length ≤ 100000)
    (hs : ∀ (i : Nat) d o v H', Ex H H' → ds[i]? = some d → fl[i]? = some o → Tp H' v d → ∃ σ2, (∀ R : L2.St → Hp → Prop, R σ2 H' → g v (wipe σ vs) H' R) ∧ wipe σ2 vs = wipe σ vs ∧ EvT t σ2 H' o.isSome ∧ ∀ e, o = some e → EvD te σ2 H' e) :
    EvN (tLc (iTup K tl) g t te vs) σ H (fl.filterMap id) :=
  fun H1 e1 Q q => h H1 e1 _ fun v H2 e2 tv => by
    obtain ⟨a, xs, rfl, ha, r⟩ := tv.tup_inv
    refine ⟨a, rfl, ⟨xs, .inl ha⟩, fun p hp => lc_tup (K := K) (a := a) (xs := xs) (fun i H' => ∃ acc, H' p = some (.lst acc) ∧ TpAll H' acc ((fl.take i).filterMap id) ∧ Ex H2 H') ⟨[], upd_same, .nil, Ex.new hp⟩ (fun i H' _ ⟨_, _, _, e⟩ => .inl (e.tk.rd ha)) (fun i x H3 hx ⟨acc, hacc, racc, e3⟩ => ?_) (fun H3 ⟨acc, hacc, racc, e3⟩ => ?_)⟩
    · obtain ⟨d, hd, td⟩ := r.get' hx
      have hi : i < fl.length := by rw [hlen]; exact (List.getElem?_eq_some_iff.mp hd).1
      obtain ⟨σ2, hg, hw, ht, he⟩ := hs i d fl[i] x H3 ((e1.trans e2).trans e3) hd (List.getElem?_eq_getElem hi) (td.ex e3)
      exact hg _ ⟨hw, lc_step hp (List.getElem?_eq_getElem hi) hz e3 hacc racc ht he⟩
    · rw [show xs.length = fl.length by rw [hlen]; exact r.length, List.take_length] at racc
      exact q p H3 (e2.back hp) (e2.trans e3) ⟨acc, hacc, racc⟩
theorem evn_lcL {tl te : TE} {vs : List Nat} {fl : List (Option PyData)} {l : Addr} (h : EvV tl σ H (.ref l)) (hl : Ls H l ds) (hlen : fl.length = ds.length) (hz : fl.length ≤ 100000)
    (hs : ∀ (i : Nat) d o v H', Ex H H' → ds[i]? = some d → fl[i]? = some o → Tp H' v d → ∃ σ2, (∀ R : L2.St → Hp → Prop, R σ2 H' → g v (wipe σ vs) H' R) ∧ wipe σ2 vs = wipe σ vs ∧ EvT t σ2 H' o.isSome ∧ ∀ e, o = some e → EvD te σ2 H' e) :
    EvN (tLc (iList K tl) g t te vs) σ H (fl.filterMap id) :=
  fun H1 e1 Q q => h H1 e1 _ fun H2 e2 => by
    obtain ⟨xs, hx, r⟩ := hl.ex (e1.trans e2)
    refine ⟨l, rfl, ⟨xs, SqL.of hx⟩, fun p hp => lc_list (K := K) (a := l) (xs := xs) (fun i H' => ∃ acc, H' p = some (.lst acc) ∧ TpAll H' acc ((fl.take i).filterMap id) ∧ Ex H2 H') ⟨[], upd_same, .nil, Ex.new hp⟩ (fun i H' _ ⟨_, _, _, e⟩ => SqL.of (e _ _ hx)) (fun i x H3 hx ⟨acc, hacc, racc, e3⟩ => ?_) (fun H3 ⟨acc, hacc, racc, e3⟩ => ?_)⟩
    · obtain ⟨d, hd, td⟩ := r.get' hx
      have hi : i < fl.length := by rw [hlen]; exact (List.getElem?_eq_some_iff.mp hd).1
      obtain ⟨σ2, hg, hw, ht, he⟩ := hs i d fl[i] x H3 ((e1.trans e2).trans e3) hd (List.getElem?_eq_getElem hi) (td.ex e3)
      exact hg _ ⟨hw, lc_step hp (List.getElem?_eq_getElem hi) hz e3 hacc racc ht he⟩
    · rw [show xs.length = fl.length by rw [hlen]; exact r.length, List.take_length] at racc
      exact q p H3 (e2.back hp) (e2.trans e3) ⟨acc, hacc, racc⟩
/-- over a list that has just been made -/
theorem evn_lcN {tl te : TE} {vs : List Nat} {fl : List (Option PyData)} (h : EvN tl σ H ds) (hlen : fl.length = ds.length) (hz : fl.length ≤ 100000)
    (hs : ∀ (i : Nat) d o v H', Ex H H' → ds[i]? = some d → fl[i]? = some o → Tp H' v d → ∃ σ2, (∀ R : L2.St → Hp → Prop, R σ2 H' → g v (wipe σ vs) H' R) ∧ wipe σ2 vs = wipe σ vs ∧ EvT t σ2 H' o.isSome ∧ ∀ e, o = some e → EvD te σ2 H' e) :
    EvN (tLc (iList K tl) g t te vs) σ H (fl.filterMap id) :=
  fun H1 e1 Q q => h H1 e1 _ fun l H2 np e2 hl => by
    obtain ⟨xs, hx, r⟩ := hl
    refine ⟨l, rfl, ⟨xs, SqL.of hx⟩, fun p hp => lc_list (K := K) (a := l) (xs := xs) (fun i H' => ∃ acc, H' p = some (.lst acc) ∧ TpAll H' acc ((fl.take i).filterMap id) ∧ Ex H2 H') ⟨[], upd_same, .nil, Ex.new hp⟩ (fun i H' _ ⟨_, _, _, e⟩ => SqL.of (e _ _ hx)) (fun i x H3 hx ⟨acc, hacc, racc, e3⟩ => ?_) (fun H3 ⟨acc, hacc, racc, e3⟩ => ?_)⟩
    · obtain ⟨d, hd, td⟩ := r.get' hx
      have hi : i < fl.length := by rw [hlen]; exact (List.getElem?_eq_some_iff.mp hd).1
      obtain ⟨σ2, hg, hw, ht, he⟩ := hs i d fl[i] x H3 ((e1.trans e2).trans e3) hd (List.getElem?_eq_getElem hi) (td.ex e3)
      exact hg _ ⟨hw, lc_step hp (List.getElem?_eq_getElem hi) hz e3 hacc racc ht he⟩
    · rw [show xs.length = fl.length by rw [hlen]; exact r.length, List.take_length] at racc
      exact q p H3 (e2.back hp) (e2.trans e3) ⟨acc, hacc, racc⟩
theorem evn_lcR {tl te : TE} {vs : List Nat} {fl : List (Option PyData)} {n : Nat} (h : EvD tl σ H (.int n)) (hlen : fl.length = n) (hz : fl.length ≤ 100000)
    (hs : ∀ (i : Nat) o H', Ex H H' → fl[i]? = some o → ∃ σ2, (∀ R : L2.St → Hp → Prop, R σ2 H' → g (.int (i : Int)) (wipe σ vs) H' R) ∧ wipe σ2 vs = wipe σ vs ∧ EvT t σ2 H' o.isSome ∧ ∀ e, o = some e → EvD te σ2 H' e) :
    EvN (tLc (iRng1 (tCons tl tNil)) g t te vs) σ H (fl.filterMap id) :=
  fun H1 e1 Q q => h H1 e1 _ fun v H2 e2 tv => by
    refine ⟨n, by rw [tv.int_inv], by omega, by omega, fun p hp => ?_⟩
    rw [show (Int.toNat (n : Int)) = n from rfl]
    refine lc_range (lo := 0) (n := n) (fun i H' => ∃ acc, H' p = some (.lst acc) ∧ TpAll H' acc ((fl.take i).filterMap id) ∧ Ex H2 H') ⟨[], upd_same, .nil, Ex.new hp⟩ (fun i H3 hi ⟨acc, hacc, racc, e3⟩ => ?_) (fun H3 ⟨acc, hacc, racc, e3⟩ => ?_)
    · have hi : i < fl.length := by omega
      obtain ⟨σ2, hg, hw, ht, he⟩ := hs i fl[i] H3 ((e1.trans e2).trans e3) (List.getElem?_eq_getElem hi)
      rw [show (0 : Int) + (i : Int) = (i : Int) by omega]
      exact hg _ ⟨hw, lc_step hp (List.getElem?_eq_getElem hi) hz e3 hacc racc ht he⟩
    · rw [← hlen, List.take_length] at racc
      exact q p H3 (e2.back hp) (e2.trans e3) ⟨acc, hacc, racc⟩
end
end Hk


namespace Hk
open PySem PySem.Spec PyProof.Rows L2
def bools (l : List Bool) : List PyData := l.map PyData.bool
/-! the rules with the frame's K named (within a comprehension) -/
section
variable {X : Cx} {K : PySem.W.Frag}
theorem ix_listK (h : X.K = K) : IxR X (rIxL K) := h ▸ ix_list
theorem ix_tupK (h : X.K = K) : IxR X (rIxT K) := h ▸ ix_tup
theorem ix_seqK (h : X.K = K) : IxR X (rIx K) := h ▸ ix_seq
theorem call_lenK (h : X.K = K) : CallR X (.builtin "len") (rLenA K) := h ▸ call_lenA
theorem op_eqDK (hu : X.A.units + 64 < cLine) (h : X.K = K) : OpR X (compareOp .Eq) (rEqD K) := h ▸ op_eqD hu
theorem op_neDK (hu : X.A.units + 64 < cLine) (h : X.K = K) : OpR X (compareOp .NotEq) (rNeD K) := h ▸ op_neD hu
theorem cr_maxK (hc : X.calm = true) (h : X.K = K) : CallR X (.builtin "max") (rMax K) := h ▸ cr_max hc
end
theorem bools_len (l : List Bool) : (bools l).length = l.length := by unfold bools; simp
theorem bools_get {l : List Bool} {i : Nat} {k : Bool} (h : l[i]? = some k) : (bools l)[i]? = some (.bool k) := by unfold bools; rw [List.getElem?_map, h]; rfl
theorem bools_set (l : List Bool) (i : Nat) (k : Bool) : (bools l).set i (.bool k) = bools (l.set i k) := by unfold bools; rw [List.map_set]
theorem bools_rep (n : Nat) : List.replicate n (PyData.bool false) = bools (List.replicate n false) := by unfold bools; rw [List.map_replicate]
section
variable {K : PySem.W.Frag} {σ : L2.St} {H H' : Hp} {ta tb tc te tx : TE} {tr : TA} {t u : TT} {x y z v : V} {d d' : PyData} {ds es : List PyData} {D : Ends} {tu tw : TS} {g : TG} {E : XK}
/-- a, b, c = x, y, z -/
theorem s_par3 {i j l : Nat} {as : List AK} (h : EvM tr σ H as) (k : ∀ vs H1, Ex H H1 → AkAll H1 vs as → ∃ v w x, vs = [v, w, x] ∧ D.nx (((σ.set i (some v)).set j (some w)).set l (some x)) H1) : tPar3 i j l tr D σ H := h H (Ex.refl _) _ k
theorem s_par3D {i j l : Nat} {d e f : PyData} (h : EvA tr σ H [d, e, f]) (k : ∀ v w x H1, Ex H H1 → Tp H1 v d → Tp H1 w e → Tp H1 x f → D.nx (((σ.set i (some v)).set j (some w)).set l (some x)) H1) : tPar3 i j l tr D σ H := h H (Ex.refl _) _ fun vs H1 e1 ok => by
  obtain ⟨a, b, c, rfl, ta, tb, tc⟩ := ok.i3
  exact ⟨_, _, _, rfl, k _ _ _ H1 e1 ta tb tc⟩
theorem s_parI {i j : Nat} {a b : Int} (h : EvA tr σ H [.int a, .int b]) (k : ∀ H1, Ex H H1 → D.nx ((σ.set i (some (.int a))).set j (some (.int b))) H1) : tPar i j tr D σ H := s_parD h fun v w H1 e1 tv tw => by
  rw [tv.int_inv, tw.int_inv]; exact k H1 e1
theorem s_par3I {i j l : Nat} {a b c : Int} (h : EvA tr σ H [.int a, .int b, .int c]) (k : ∀ H1, Ex H H1 → D.nx (((σ.set i (some (.int a))).set j (some (.int b))).set l (some (.int c))) H1) : tPar3 i j l tr D σ H := s_par3D h fun v w x H1 e1 tv tw tx => by
  rw [tv.int_inv, tw.int_inv, tx.int_inv]; exact k H1 e1
/-- l.append(e), e of any kind -/
theorem s_appE {i : Nat} {l : Addr} (ho : σ[i]? = some (some (.ref l))) (hl : Ls H l ds) (h : te σ H fun v H2 => rAppend (.ref l) [v] H2 fun _ H3 => D.nx σ H3) : tDrop (tBM K "list" rAppend (tVar i) (tCons te tNil)) D σ H := by
  obtain ⟨xs0, hx0, _⟩ := id hl
  exact ⟨.ref l, ho, .inl ⟨rfl, _, SqL.of hx0⟩, h⟩
theorem app_at {l : Addr} {Q : VK} (hl : Ls H l ds) (hd : Tp H v d) (hz : ds.length < 100000) (k : ∀ H3, ExB l H H3 → Ls H3 l (ds ++ [d]) → Q .non H3) : rAppend (.ref l) [v] H Q := by
  obtain ⟨xs, hx, r⟩ := hl
  exact ⟨l, xs, v, rfl, rfl, hx, small_lt (by rw [r.length]; exact hz), k _ (ExB.upd l H _) ⟨_, upd_same, (r.append (.cons hd .nil)).mono (TK.updL hx)⟩⟩
/-- l[i] op= e -/
theorem s_augS {to ti : TE} {l : Addr} {i : Int} {j : Nat} {a c : Int} {f : Int → Int → Int} (ho : EvV to σ H (.ref l)) (hi : EvD ti σ H (.int i)) (hl : Ls H l ds) (hj : ixN ds.length i = some j) (hg : ds[j]? = some (.int a)) (he : EvD te σ H (.int c))
    (k : ∀ H2, ExB l H H2 → Ls H2 l (ds.set j (.int (f a c))) → D.nx σ H2) : tAugS to ti te (rIxL K) (ipI f) rSetL D σ H :=
  ho H (Ex.refl _) _ fun H1 e1 => hi H1 e1 _ fun y H2 e2 ty => by
    obtain ⟨xs, hx, r⟩ := hl.ex (e1.trans e2)
    obtain ⟨v, hv, tv⟩ := r.get hg
    refine ⟨l, xs, i, v, rfl, ty.int_inv, SqL.of hx, by unfold atI; rw [r.length, hj]; exact hv, ?_⟩
    refine he H2 (e1.trans e2) _ fun w H3 e3 tw => ⟨a, c, tv.int_inv, tw.int_inv, ?_⟩
    refine ⟨l, xs, i, j, rfl, ty.int_inv, e3 _ _ hx, by rw [r.length]; exact hj, ?_⟩
    exact k _ ((((e1.trans e2).trans e3).b l).trans (ExB.upd l H3 _)) ⟨_, upd_same, ((r.ex e3).set j (.int _)).mono (TK.updL (e3 _ _ hx))⟩
/-- for x in reversed(a tuple) -/
theorem s_forRev (h : EvD te σ H (.tuple ds)) (Pv : Hp → Nat → L2.St → Hp → Prop) (h0 : ∀ H1, Ex H H1 → Pv H1 0 σ H1) (hk : ∀ H1 i σ' H', Pv H1 i σ' H' → TK H1 H')
    (hs : ∀ H1 i d v σ' H', Ex H H1 → ds.reverse[i]? = some d → Pv H1 i σ' H' → Tp H' v d → g v σ' H' fun σ2 H2 => tu { D with nx := Pv H1 (i + 1), ct := Pv H1 (i + 1), bk := D.nx } σ2 H2)
    (hd : ∀ H1 σ' H', Ex H H1 → Pv H1 ds.length σ' H' → D.nx σ' H') : tFor (RT.iRevA K te) g tu D σ H :=
  h H (Ex.refl _) _ fun v H1 e1 tv => by
    obtain ⟨a, xs, rfl, ha, r⟩ := tv.tup_inv
    refine ⟨a, xs, rfl, .inr ⟨.inl ha, RT.for_ItvT (K := K) (a := a) (xs := xs) (Pv H1) (h0 H1 e1) (fun i σ' H' p => .inl ((hk H1 i σ' H' p).rd ha)) (fun i x σ' H' hi hx p => ?_) (fun σ' H' p => ?_)⟩⟩
    · obtain ⟨d, hd, td⟩ := r.get' hx
      refine hs H1 i d x σ' H' e1 ?_ p (td.mono (hk H1 i σ' H' p))
      rw [List.getElem?_reverse (by rw [← r.length]; exact hi), ← r.length]; exact hd
    · rw [r.length] at p
      exact hd H1 σ' H' e1 p
/-- range, with breaks: R behind the loop -/
theorem s_forR1J {j : Nat} {n : Int} (R : L2.St → Hp → Prop) (h : EvD te σ H (.int n)) (hn : -100000 ≤ n ∧ n ≤ 100000) (hJ : ∀ σ' H', R σ' H' → D.nx σ' H') (Pv : Nat → L2.St → Hp → Prop) (h0 : ∀ H1, Ex H H1 → Pv 0 σ H1)
    (hs : (∀ σ' H', R σ' H' → D.nx σ' H') → ∀ (i : Nat) σ' H', (i : Int) < n → Pv i σ' H' → tu { D with nx := Pv (i + 1), ct := Pv (i + 1), bk := D.nx } (σ'.set j (some (.int (i : Int)))) H') (hd : ∀ σ' H', Pv n.toNat σ' H' → R σ' H') : tFor (iRng1 (tCons te tNil)) (gName j) tu D σ H :=
  s_forR1 h hn Pv h0 (hs hJ) fun σ' H' p => hJ σ' H' (hd σ' H' p)
/-- if, both ways meet -/
theorem s_ifJ {b : Bool} (R : L2.St → Hp → Prop) (h : EvT t σ H b) (hJ : ∀ σ' H', R σ' H' → D.nx σ' H') (h1 : b = true → ∀ H1, Ex H H1 → (∀ σ' H', R σ' H' → D.nx σ' H') → tu D σ H1) (h2 : b = false → ∀ H1, Ex H H1 → (∀ σ' H', R σ' H' → D.nx σ' H') → tw D σ H1) : tIfS t tu tw D σ H :=
  s_if h (fun e H1 e1 => h1 e H1 e1 hJ) fun e H1 e1 => h2 e H1 e1 hJ
/-- four targets -/
theorem g_four {g1 g2 g3 g4 : TG} {d e f f' : PyData} {R : L2.St → Hp → Prop} (h : Tp H v (.tuple [d, e, f, f'])) (k : ∀ x y z z', Tp H x d → Tp H y e → Tp H z f → Tp H z' f' →
    g1 x σ H fun σ2 H2 => ∃ v r, [y, z, z'] = v :: r ∧ g2 v σ2 H2 fun σ3 H3 => ∃ v r', r = v :: r' ∧ g3 v σ3 H3 fun σ4 H4 => ∃ v r'', r' = v :: r'' ∧ g4 v σ4 H4 fun σ5 H5 => r'' = [] ∧ R σ5 H5) : gTup K 4 (gCons g1 (gCons g2 (gCons g3 (gCons g4 gNil)))) v σ H R := by
  obtain ⟨a, xs, rfl, ha, r⟩ := h.tup_inv
  obtain ⟨x, y, z, z', rfl, tx, ty, tz, tz'⟩ := r.i4
  exact ⟨a, _, rfl, .inl ha, rfl, x, _, rfl, k x y z z' tx ty tz tz'⟩
end
end Hk


namespace Hk
/-! ### polynomials in plain Lean -/
def cutL (l : List Int) : List Int := (l.reverse.dropWhile (fun x => decide (x = 0))).reverse
theorem cutL_nil : cutL [] = [] := rfl
theorem cutL_zero (l : List Int) : cutL (l ++ [0]) = cutL l := by unfold cutL; simp
theorem cutL_ne (l : List Int) {x : Int} (h : x ≠ 0) : cutL (l ++ [x]) = l ++ [x] := by unfold cutL; simp [h]
def okP (p : List Int) : Prop := p.getLast? ≠ some 0
theorem okP_nil : okP [] := by simp [okP]
theorem okP_app {l : List Int} {x : Int} (h : x ≠ 0) : okP (l ++ [x]) := by simp [okP, h]
theorem cutL_ok (l : List Int) : okP (cutL l) := by
  induction h : l.length generalizing l with
  | zero => rw [List.length_eq_zero_iff.mp h]; exact okP_nil
  | succ n ih =>
    rcases List.eq_nil_or_concat l with rfl | ⟨m, x, rfl⟩
    · exact okP_nil
    · rw [List.concat_eq_append] at h ⊢
      by_cases hx : x = 0
      · subst hx; rw [cutL_zero]; exact ih m (by simpa using h)
      · rw [cutL_ne m hx]; exact okP_app hx
theorem cutL_of_ok {p : List Int} (h : okP p) : cutL p = p := by
  rcases List.eq_nil_or_concat p with rfl | ⟨m, x, rfl⟩
  · rfl
  · rw [List.concat_eq_append] at h ⊢
    refine cutL_ne m fun e => h ?_
    subst e; simp
theorem cutL_len (l : List Int) : (cutL l).length ≤ l.length := by
  unfold cutL
  rw [List.length_reverse]
  exact Nat.le_trans (List.dropWhile_sublist _).length_le (by simp)
theorem cutL_mem {l : List Int} {x : Int} (h : x ∈ cutL l) : x ∈ l := by
  unfold cutL at h
  rw [List.mem_reverse] at h
  have := (List.dropWhile_sublist _).mem h
  simpa using this
def addL (p q : List Int) : List Int := (List.range (max p.length q.length)).map fun k => p.getD k 0 + q.getD k 0
def addP (p q : List Int) : List Int := cutL (addL p q)
theorem addL_comm (p q : List Int) : addL p q = addL q p := by
  unfold addL
  rw [Nat.max_comm]
  exact List.map_congr_left fun k _ => Int.add_comm _ _
theorem addL_len (p q : List Int) : (addL p q).length = max p.length q.length := by unfold addL; simp
theorem addL_get {p q : List Int} {k : Nat} (h : k < max p.length q.length) : (addL p q)[k]? = some (p.getD k 0 + q.getD k 0) := by
  unfold addL
  rw [List.getElem?_map, List.getElem?_range h]; rfl
theorem addL_nil (p : List Int) : addL p [] = p := by
  apply List.ext_getElem?
  intro k
  by_cases h : k < p.length
  · rw [addL_get (by simp; exact h), List.getElem?_eq_getElem h]
    simp [List.getD_eq_getElem?_getD, h]
  · rw [List.getElem?_eq_none (by rw [addL_len]; simp; omega), List.getElem?_eq_none (by omega)]
/-- one more of the lesser -/
theorem addL_step {p q : List Int} {i : Nat} {c : Int} (hq : q[i]? = some c) (hl : q.length ≤ p.length) : (addL p (q.take i)).set i ((addL p (q.take i)).getD i 0 + c) = addL p (q.take (i + 1)) := by
  have hi : i < q.length := (List.getElem?_eq_some_iff.mp hq).1
  have e1 : ((q.take i)).length = i := by rw [List.length_take]; omega
  have e2 : ((q.take (i + 1))).length = i + 1 := by rw [List.length_take]; omega
  have g : (addL p (q.take i)).getD i 0 = p.getD i 0 := by
    rw [List.getD_eq_getElem?_getD, addL_get (by omega)]
    show p.getD i 0 + (q.take i).getD i 0 = _
    have : (q.take i).getD i 0 = 0 := by rw [List.getD_eq_getElem?_getD, List.getElem?_eq_none (by omega)]; rfl
    rw [this, Int.add_zero]
  rw [g]
  apply List.ext_getElem?
  intro k
  by_cases hk : k < p.length
  · rw [addL_get (by omega)]
    by_cases hki : k = i
    · subst hki
      rw [List.getElem?_set_self (by rw [addL_len]; omega)]
      have : (q.take (k + 1)).getD k 0 = c := by
        rw [List.getD_eq_getElem?_getD, List.getElem?_take, if_pos (by omega), hq]; rfl
      rw [this]
    · rw [List.getElem?_set_ne (Ne.symm hki), addL_get (by omega)]
      have : (q.take i).getD k 0 = (q.take (i + 1)).getD k 0 := by
        rw [List.getD_eq_getElem?_getD, List.getD_eq_getElem?_getD, List.getElem?_take, List.getElem?_take]
        by_cases h2 : k < i
        · rw [if_pos h2, if_pos (by omega)]
        · rw [if_neg h2, if_neg (by omega)]
      rw [this]
  · rw [List.getElem?_eq_none (by rw [List.length_set, addL_len]; omega), List.getElem?_eq_none (by rw [addL_len]; omega)]
/-! times -/
def addAt (row : List Int) (o : Nat × Int) : List Int := row.set o.1 (row.getD o.1 0 + o.2)
def opsR (a b : List Int) (j : Nat) : List (Nat × Int) := (List.range b.length).map fun k => (j + k, a.getD j 0 * b.getD k 0)
def ops (a b : List Int) (j : Nat) : List (Nat × Int) := (List.range j).flatMap (opsR a b)
def mulRow (sz : Nat) (a b : List Int) : List Int := (ops a b a.length).foldl addAt (List.replicate sz 0)
def mulP (a b : List Int) : List Int := cutL (mulRow (a.length + b.length) a b)
theorem ops_succ (a b : List Int) (j : Nat) : ops a b (j + 1) = ops a b j ++ opsR a b j := by
  unfold ops; rw [List.range_succ, List.flatMap_append]; simp
theorem addAt_len (row : List Int) (o : Nat × Int) : (addAt row o).length = row.length := by unfold addAt; simp
theorem foldAt_len (os : List (Nat × Int)) : ∀ row : List Int, (os.foldl addAt row).length = row.length := by
  induction os with
  | nil => intro row; rfl
  | cons o os ih => intro row; rw [List.foldl_cons, ih, addAt_len]
theorem foldAt_app (os : List (Nat × Int)) : ∀ (row : List Int) (t : List Int), (∀ o ∈ os, o.1 < row.length) → os.foldl addAt (row ++ t) = os.foldl addAt row ++ t := by
  induction os with
  | nil => intro row t _; rfl
  | cons o os ih =>
    intro row t h
    have h0 := h o (List.mem_cons_self ..)
    rw [List.foldl_cons, List.foldl_cons]
    have e : addAt (row ++ t) o = addAt row o ++ t := by
      unfold addAt
      rw [List.set_append_left _ _ h0, List.getD_eq_getElem?_getD, List.getElem?_append_left h0, ← List.getD_eq_getElem?_getD]
    rw [e, ih _ _ fun o' ho' => by rw [addAt_len]; exact h o' (List.mem_cons_of_mem _ ho')]
theorem opsR_lt {a b : List Int} {j : Nat} {o : Nat × Int} (h : o ∈ opsR a b j) : o.1 < j + b.length := by
  unfold opsR at h
  obtain ⟨k, hk, rfl⟩ := List.mem_map.mp h
  have := List.mem_range.mp hk
  show j + k < _; omega
theorem ops_lt {a b : List Int} {j : Nat} {o : Nat × Int} (h : o ∈ ops a b j) : o.1 + 1 < j + b.length := by
  unfold ops at h
  obtain ⟨i, hi, ho⟩ := List.mem_flatMap.mp h
  have := opsR_lt ho
  have := List.mem_range.mp hi
  omega
/-- the row of the right length, and with one 0 behind it -/
theorem mulRow_more {a b : List Int} (ha : 0 < a.length) (hb : 0 < b.length) : mulRow (a.length + b.length) a b = mulRow (a.length + b.length - 1) a b ++ [0] := by
  unfold mulRow
  have e : List.replicate (a.length + b.length) (0 : Int) = List.replicate (a.length + b.length - 1) 0 ++ [0] := by
    rw [show a.length + b.length = (a.length + b.length - 1) + 1 by omega, List.replicate_succ']; simp
  rw [e]
  exact foldAt_app _ _ _ fun o ho => by have := ops_lt ho; simp; omega
theorem mulRow_last {a b : List Int} {x y : Int} (hx : x ≠ 0) (hy : y ≠ 0) : okP (mulRow ((a ++ [x]).length + (b ++ [y]).length - 1) (a ++ [x]) (b ++ [y])) := by
  unfold mulRow
  have la : (a ++ [x]).length = a.length + 1 := by simp
  have lb : (b ++ [y]).length = b.length + 1 := by simp
  rw [la, lb, ops_succ]
  have e : opsR (a ++ [x]) (b ++ [y]) a.length = ((List.range b.length).map fun k => (a.length + k, (a ++ [x]).getD a.length 0 * (b ++ [y]).getD k 0)) ++ [(a.length + b.length, x * y)] := by
    unfold opsR
    rw [lb, List.range_succ, List.map_append]
    simp [List.getD_eq_getElem?_getD]
  rw [e, ← List.append_assoc, List.foldl_append]
  have ez : List.replicate (a.length + 1 + (b.length + 1) - 1) (0 : Int) = List.replicate (a.length + b.length) 0 ++ [0] := by
    rw [show a.length + 1 + (b.length + 1) - 1 = (a.length + b.length) + 1 by omega, List.replicate_succ']
  rw [ez, foldAt_app]
  · generalize hR : List.foldl addAt (List.replicate (a.length + b.length) 0) _ = R
    have lR : R.length = a.length + b.length := by rw [← hR, foldAt_len]; simp
    show okP (addAt (R ++ [0]) (a.length + b.length, x * y))
    unfold addAt
    have e2 : (R ++ [0]).set (a.length + b.length) ((R ++ [0]).getD (a.length + b.length) 0 + x * y) = R ++ [x * y] := by
      rw [← lR, List.set_append_right _ _ (Nat.le_refl _), List.getD_eq_getElem?_getD]
      simp
    show okP ((R ++ [0]).set (a.length + b.length) ((R ++ [0]).getD (a.length + b.length) 0 + x * y))
    rw [e2]
    exact okP_app (Int.mul_ne_zero hx hy)
  · intro o ho
    rw [List.length_replicate]
    rcases List.mem_append.mp ho with h | h
    · have := ops_lt h
      rw [lb] at this; omega
    · obtain ⟨k, hk, rfl⟩ := List.mem_map.mp h
      have := List.mem_range.mp hk
      show a.length + k < _; omega
theorem okP_last {p : List Int} (h : okP p) (hp : p ≠ []) : ∃ a x, p = a ++ [x] ∧ x ≠ 0 := by
  rcases List.eq_nil_or_concat p with rfl | ⟨m, x, rfl⟩
  · exact absurd rfl hp
  · rw [List.concat_eq_append] at h ⊢
    exact ⟨m, x, rfl, fun e => h (by subst e; simp)⟩
theorem mulRow_cut {a b : List Int} (ha : okP a) (hb : okP b) (h1 : a ≠ []) (h2 : b ≠ []) : mulRow (a.length + b.length - 1) a b = mulP a b := by
  unfold mulP
  rw [mulRow_more (List.length_pos_iff.mpr h1) (List.length_pos_iff.mpr h2), cutL_zero]
  obtain ⟨a', x, rfl, hx⟩ := okP_last ha h1
  obtain ⟨b', y, rfl, hy⟩ := okP_last hb h2
  exact (cutL_of_ok (mulRow_last hx hy)).symm
theorem cutL_reps (n : Nat) : cutL (List.replicate n 0) = [] := by
  induction n with
  | zero => rfl
  | succ n ih => rw [List.replicate_succ', cutL_zero, ih]
theorem mulP_nil_l (b : List Int) : mulP [] b = [] := by
  unfold mulP mulRow ops
  exact cutL_reps _
theorem mulP_nil_r (a : List Int) : mulP a [] = [] := by
  unfold mulP mulRow
  have : ops a [] a.length = [] := by unfold ops opsR; simp
  rw [this]; exact cutL_reps _
def valP (x : Int) (p : List Int) : Int := p.reverse.foldl (fun f c => f * x + c) 0
end Hk


namespace Hk
/-! ### mats: mirrors in plain Lean; none where the code would go wrong -/
/-- the string's other end -/
def farW (n : Nat) (M L : List Nat) : Nat → Bool → Nat → List Bool → Option (Nat × List Bool)
  | 0, _, _, _ => none
  | f + 1, true, at_, ps => if at_ < n then some (at_, ps) else if at_ - n < n then (match L[at_ - n]? with | some b => farW n M L f false b (ps.set (at_ - n) true) | none => none) else none
  | f + 1, false, at_, ps => if n ≤ at_ then (if at_ < 2 * n then some (at_, ps) else none) else (match M[n + at_]? with | some b => farW n M L f true b (ps.set at_ true) | none => none)
def farE (n : Nat) (M L : List Nat) (peg : Nat) (ps : List Bool) : Option (Nat × List Bool) :=
  if peg < n then (match M[peg]? with | some b => farW n M L (2 * n + 2) true b ps | none => none) else (match L[peg]? with | some b => farW n M L (2 * n + 2) false b ps | none => none)
/-- all ends: the pegs still to do -/
def farAll (n : Nat) (M L : List Nat) : Nat → Nat → List Bool → Option (List Nat × List Bool)
  | 0, _, ps => some ([], ps)
  | k + 1, peg, ps => match farE n M L peg ps with
    | none => none
    | some (a, ps') => match farAll n M L k (peg + 1) ps' with
      | none => none
      | some (as, ps'') => some (a :: as, ps'')
/-- a ring, as the program goes along it -/
def ringP (n : Nat) (M L : List Nat) : Nat → Nat → List Bool → Option (List Bool)
  | 0, _, _ => none
  | f + 1, at_, ps => match ps[at_]? with
    | none => none
    | some true => some ps
    | some false => match M[n + at_]? with
      | none => none
      | some b => if n ≤ b ∧ b - n < n then (match L[b - n]? with | none => none | some c => ringP n M L f c ((ps.set at_ true).set (b - n) true)) else none
def ringsP (n : Nat) (M L : List Nat) : Nat → Nat → Nat → List Bool → Option Nat
  | 0, _, r, _ => some r
  | k + 1, st, r, ps => match ps[st]? with
    | none => none
    | some true => ringsP n M L k (st + 1) r ps
    | some false => match ringP n M L (n + 1) st ps with
      | none => none
      | some ps' => ringsP n M L k (st + 1) (r + 1) ps'
/-- .. as the law goes along it -/
def ringL (n : Nat) (M L : List Nat) : Nat → Nat → List Bool → Option (List Bool)
  | 0, _, ps => some ps
  | f + 1, at_, ps => match ps[at_]? with
    | none => none
    | some true => ringL n M L f at_ ps
    | some false => match L[at_]? with
      | none => none
      | some b => if b < n then (match M[n + b]? with | none => none | some c => if n ≤ c then ringL n M L f (c - n) ((ps.set at_ true).set b true) else none) else none
def ringsL (n : Nat) (M L : List Nat) : Nat → Nat → Nat → List Bool → Option Nat
  | 0, _, r, _ => some r
  | k + 1, st, r, ps => match ps[st]? with
    | none => none
    | some b => match ringL n M L n st ps with
      | none => none
      | some ps' => ringsL n M L k (st + 1) (r + if b then 0 else 1) ps'
def putP (n : Nat) (M L : List Nat) : Option (Nat × List Nat) :=
  match farAll n M L (2 * n) 0 (List.replicate n false) with
  | none => none
  | some (as, ps) => match ringsP n M L n 0 0 ps with
    | none => none
    | some r => some (r, as)
def putL (n : Nat) (M L : List Nat) : Option (Nat × List Nat) :=
  match farAll n M L (2 * n) 0 (List.replicate n false) with
  | none => none
  | some (as, ps) => match ringsL n M L n 0 0 ps with
    | none => none
    | some r => some (r, as)
/-- pegs round about -/
def ordN (n : Nat) : List Nat := List.range n ++ (List.range' n n).reverse
/-- the mats that come of pushing and popping: both is 2n, k still to do, the order's rest, the pegs left (last first), the mates -/
def genM : Nat → List Nat → List Nat → List Nat → List (List Nat)
  | _, [], _, ms => [ms]
  | k, p :: ps, [], ms => genM k ps [p] ms
  | k, p :: ps, q :: st, ms => (if st.length + 1 < ps.length + 1 then genM k ps (p :: q :: st) ms else []) ++ genM k ps st ((ms.set q p).set p q)
def matsL (n : Nat) : List (List Nat) := genM n (ordN n) [] (List.replicate (2 * n) 0)
end Hk


namespace Hk
open PySem PySem.Spec PyProof.Rows L2
def top (i : Nat) : Stmt := PySem.Challenge.pw_hookmats_k38_whole_any_question_of_sums.main.body.getD i (.Pass ⟨0, 0, 0, 0⟩)
/-- the built-in names that the text leaves as they are -/
structure Bt (mg : Str → Option Value) : Prop where
  len : mg "len" = none
  list : mg "list" = none
  range : mg "range" = none
  reversed : mg "reversed" = none
  tuple : mg "tuple" = none
  int : mg "int" = none
  min : mg "min" = none
  max : mg "max" = none
  abs : mg "abs" = none
  all : mg "all" = none
  sorted : mg "sorted" = none
  isinstance : mg "isinstance" = none
  dict : mg "dict" = none
  enumerate : mg "enumerate" = none
  str : mg "str" = none
theorem fold_take {α β : Type} {f : β → α → β} {l : List α} {i : Nat} {x : α} {a : β} (h : l[i]? = some x) : (l.take (i + 1)).foldl f a = f ((l.take i).foldl f a) x := by
  have hlt := (List.getElem?_eq_some_iff.mp h).1
  have e : l[i] = x := (List.getElem?_eq_some_iff.mp h).2
  rw [List.take_succ_eq_append_getElem hlt, List.foldl_append, e]; rfl
/-- does a tuple's mates pair off, on 2 n pegs -/
def pairsOk (n : Nat) (M : List Nat) : Bool := (List.range (2 * n)).all fun i => match M[i]? with
  | some k => decide (k < 2 * n) && !decide (k = i) && decide (M[k]? = some i)
  | none => false
def stkF (M : List Nat) (w : List Nat) (p : Nat) : List Nat := if w ≠ [] ∧ w.getLast? = M[p]? then w.dropLast else w ++ [p]
theorem fold_stk (M : List Nat) : ∀ (l w : List Nat), (l.foldl (stkF M) w).length ≤ w.length + l.length
  | [], w => Nat.le_refl _
  | p :: l, w => by
    have := fold_stk M l (stkF M w p)
    have h : (stkF M w p).length ≤ w.length + 1 := by unfold stkF; split <;> simp <;> omega
    rw [List.foldl_cons, List.length_cons]; omega
def okMat (n : Nat) (M : List Nat) : Bool := decide (0 < n) && decide (n ≤ 6) && decide (M.length = 2 * n) && pairsOk n M && decide ((ordN n).foldl (stkF M) [] = [])
theorem log2_lt' {n k : Nat} (h : n < 2 ^ k) : n.log2 ≤ k := by
  by_cases h0 : n = 0
  · subst h0; simp
  · exact Nat.le_of_lt ((Nat.log2_lt h0).mpr h)
theorem mulW {i j : Int} (hi : i.natAbs < 2 ^ 1000) (hj : j.natAbs < 2 ^ 1000) : CMulW i j := by
  have := log2_lt' hi
  have := log2_lt' hj
  unfold CMulW; omega
def strM (n : Nat) : List Nat := List.range' n n ++ List.range n
def hookM (n i : Nat) : List Nat := ((((strM n).set i (i + 1)).set (i + 1) i).set (n + i) (n + i + 1)).set (n + i + 1) (n + i)
/-- each peg i moved to place[i] -/
def remF (pl M : List Nat) (row : List Nat) (i : Nat) : List Nat := row.set (pl.getD i 0) (pl.getD (M.getD i 0) 0)
def remM (n : Nat) (pl M : List Nat) : List Nat := (List.range (2 * n)).foldl (remF pl M) (List.replicate (2 * n) 0)
def downM (n : Nat) (M : List Nat) : List Nat := remM n (List.range' n n ++ List.range n) M
local macro_rules | `(tactic| walk_at "tp") => `(tactic| first | assumption | exact .int _ | exact .bl _ | solve_by_elim (maxDepth := 6) [Tp.ex])
section
variable {P : Program} {w : World} {K : PySem.W.Frag} {mg : Str → Option Value} {base : Heap}
abbrev sp_check_size : Sp := spD fun ds d => ∃ n : Int, ds = [.int n] ∧ 1 ≤ n ∧ d = .none
theorem sc_check_size : FnScope ["n"] ["n"] (defScope (top 12)) := ⟨rfl, rfl, rfl, by decide +kernel, rfl, by decide +kernel, by decide +kernel⟩
theorem w_check_size (B : Bt mg) (D : DefIn K mg "check_size" (top 12))   : Cal P w K mg base CX0 1 "check_size" ["n"] (sp_check_size) := by
  obtain ⟨f, fd, F, g⟩ := D.ex
  refine ⟨f, fd, F.ok sc_check_size (fun vs H Q E h => ?_) (fun cdv A outer s H vs Q E hr h => ?_), g, F.kp, F.binds (ps := ["n"]) fun _ _ _ _ _ _ us hl => match us, hl with | [_], _ => rfl⟩
  · obtain ⟨d, ⟨ds, t, n, rfl, _⟩, _⟩ := h
    exact t.length
  · obtain ⟨d, ⟨ds, t, n, rfl, hn, rfl⟩, k⟩ := h
    obtain ⟨_, rfl, t1⟩ := t.i1
    cases t1.int_inv
    refine ⟨_, (pss_one (ps_if (pt_cmpR op_lt (pv 0) pe_int (nomark _))
  pss_never
  pss_nil)), ?_⟩
    refine s_if (evt_test (evd_IB (evd_var rfl (.int _)) evd_int)) (fun b => absurd b (by simp; omega)) fun _ H1 e1 => ?_
    exact k _ _ e1 .non
abbrev sp_round_of : Sp := spND fun ds d => ∃ n : Nat, ds = [.int n, .int n] ∧ n ≤ 100 ∧ d = nats (ordN n)
theorem sc_round_of : FnScope ["n", "m"] ["n", "m"] (defScope (top 9)) := ⟨rfl, rfl, rfl, by decide +kernel, rfl, by decide +kernel, by decide +kernel⟩
theorem w_round_of (B : Bt mg) (D : DefIn K mg "round_of" (top 9))   : Cal P w K mg base CX0 1 "round_of" ["n", "m"] (sp_round_of) := by
  obtain ⟨f, fd, F, g⟩ := D.ex
  refine ⟨f, fd, F.ok sc_round_of (fun vs H Q E h => ?_) (fun cdv A outer s H vs Q E hr h => ?_), g, F.kp, F.binds (ps := ["n", "m"]) fun _ _ _ _ _ _ us hl => match us, hl with | [_, _], _ => rfl⟩
  · obtain ⟨d, ⟨ds, t, n, rfl, _⟩, _⟩ := h
    exact t.length
  · obtain ⟨d, ⟨ds, t, n, rfl, hn, rfl⟩, k⟩ := h
    obtain ⟨_, _, rfl, t1, t2⟩ := t.i2
    cases t1.int_inv; cases t2.int_inv
    refine ⟨_, (pss_one (ps_ret (pe_op op_cat (pe_listRg rfl (by rfl) B.list (prg_1 (by rfl) B.range (pv 0))) (pe_listRgD rfl (by rfl) B.list (by rfl) B.range (pe_op op_sub (pe_op op_add (pv 0) (pv 1)) pe_int) (pe_op op_sub (pv 0) pe_int) (pe_un un_neg pe_int))))), ?_⟩
    refine s_retN (ds := nats (ordN n)) ?_ k
    show EvN _ _ _ (nats (List.range n ++ (List.range' n n).reverse))
    rw [← nats_app]
    refine evn_cat (evn_rg1 (evd_var rfl (.int _)) (by omega)) (evn_rgD (evd_II (evd_II (evd_var rfl (.int _)) (evd_var rfl (.int _))) evd_int) (evd_II (evd_var rfl (.int _)) evd_int) (evd_neg evd_int) rfl rfl (by omega)) ?_
    rw [nats_len, nats_len]; simp; omega
abbrev sp_is_mat : Sp := spD fun ds d => ∃ n M, ds = [dMat n M] ∧ okMat n M = true ∧ d = .bool true
theorem sc_is_mat : FnScope ["told", "n", "m", "mates", "many", "peg", "mate", "waiting"] ["told"] (defScope (top 10)) := ⟨rfl, rfl, rfl, by decide +kernel, rfl, by decide +kernel, by decide +kernel⟩
theorem w_is_mat (B : Bt mg) (D : DefIn K mg "is_mat" (top 10)) (C_round_of : Cal P w K mg base CX0 1 "round_of" ["n", "m"] (sp_round_of))  : Cal P w K mg base CX0 2 "is_mat" ["told"] (sp_is_mat) := by
  obtain ⟨f, fd, F, g⟩ := D.ex
  refine ⟨f, fd, F.ok sc_is_mat (fun vs H Q E h => ?_) (fun cdv A outer s H vs Q E hr h => ?_), g, F.kp, F.binds (ps := ["told"]) fun _ _ _ _ _ _ us hl => match us, hl with | [_], _ => rfl⟩
  · obtain ⟨d, ⟨ds, t, n, M, rfl, _⟩, _⟩ := h
    exact t.length
  · obtain ⟨d, ⟨ds, t, n, M, rfl, hm, rfl⟩, k⟩ := h
    obtain ⟨w0, rfl, t1⟩ := t.i1
    unfold okMat at hm
    simp only [Bool.and_eq_true, decide_eq_true_eq] at hm
    obtain ⟨⟨⟨⟨h0, h6⟩, hl⟩, hp⟩, hs⟩ := hm
    refine ⟨_, (pss_cons (ps_asg (pv 0) (pg_tup rfl (pgs_cons (pg_name (i := 1) sc_is_mat.nd rfl (Or.inl rfl)) (pgs_cons (pg_name (i := 2) sc_is_mat.nd rfl (Or.inl rfl)) (pgs_cons (pg_name (i := 3) sc_is_mat.nd rfl (Or.inl rfl)) pgs_nil)))))
  (pss_cons (ps_set (i := 4) sc_is_mat.nd rfl (Or.inl rfl) (pe_callB call_lenA (by rfl) B.len PySem.boot_len (pa_cons (pv 3) pa_nil)))
  (pss_cons (ps_if (PW.pt (pw_or (pt_cmpR op_lt (pv 1) pe_int (nomark _)) (pw_or (pt_cmpR op_lt (pv 2) pe_int (nomark _)) (pw_or (pt_cmpR op_ne (pe_op op_add (pv 1) (pv 2)) (pv 4) (nomark _)) (pw_or1 (pt_cmpR op_eq (pv 4) pe_int (nomark _)))))))
  (pss_one (ps_ret pe_bl))
  pss_nil)
  (pss_cons (ps_for PassesOwn.never rfl (pi_enumT (by rfl) B.enumerate (pa_cons (pv 3) pa_nil)) (pg_tup rfl (pgs_cons (pg_name (i := 5) sc_is_mat.nd rfl (Or.inl rfl)) (pgs_cons (pg_name (i := 6) sc_is_mat.nd rfl (Or.inl rfl)) pgs_nil)))
  (pss_one (ps_if (PW.pt (pw_or (pt_cmpR op_lt (pv 6) pe_int (nomark _)) (pw_or (pt_cmpR op_ge (pv 6) (pv 4) (nomark _)) (pw_or (pt_cmpR op_eq (pv 6) (pv 5) (nomark _)) (pw_or1 (pt_cmpR op_ne (pe_ix ix_tup (pv 3) (pv 6) (fun _ _ => rfl)) (pv 5) (nomark _)))))))
  (pss_one (ps_ret pe_bl))
  pss_nil)))
  (pss_cons (ps_set (i := 7) sc_is_mat.nd rfl (Or.inl rfl) (pe_lst pa_nil))
  (pss_cons (ps_for PassesOwn.never rfl (pi_list (pe_callC C_round_of (hr.mono (by decide)) pass0 (pa_cons (pv 1) (pa_cons (pv 2) pa_nil)))) (pg_name (i := 5) sc_is_mat.nd rfl (Or.inl rfl))
  (pss_one (ps_if (PW.pt (pw_and (pt_cmpR (op_neD hr.units) (pv 7) (pe_lst pa_nil) (nomark _)) (pw_and1 (pt_cmpR op_eq (pe_ix ix_list (pv 7) (pe_un un_neg pe_int) (fun _ _ => rfl)) (pe_ix ix_tup (pv 3) (pv 5) (fun _ _ => rfl)) (nomark _)))))
  (pss_one (ps_expr (pe_bm0 PySem.F.plainAttrs_list PySem.F.slot_list_pop PySem.F.type_list_pop mt_pop (pv 7))))
  (pss_one (ps_expr (pe_bm PySem.F.plainAttrs_list PySem.F.slot_list_append PySem.F.type_list_append mt_append (pv 7) (pa_cons (pv 5) pa_nil)))))))
  (pss_one (ps_ret (pe_cmpR (op_eqD hr.units) (pv 7) (pe_lst pa_nil) (nomark _)))))))))), ?_⟩
    refine s_seq (s_asgG (evd_var rfl t1) fun v H1 e1 t1 => g_tup3 t1 fun x y z tx ty tz => ?_)
    cases tx.int_inv; cases ty.int_inv
    refine s_seq (s_asgI (evd_lenT (evd_var rfl tz)) fun H2 e2 => ?_)
    have el : ((M.map fun (k : Nat) => PyData.int (k : Int)).length : Int) = 2 * n := by rw [List.length_map, hl]; omega
    rw [el]
    refine s_seq (s_if (evt_or (evt_test (evd_IB (evd_var rfl (.int _)) evd_int)) fun _ => (evt_or (evt_test (evd_IB (evd_var rfl (.int _)) evd_int)) fun _ => (evt_or (evt_test (evd_neI (evd_II (evd_var rfl (.int _)) (evd_var rfl (.int _))) (evd_var rfl (.int _)))) fun _ => (evt_test (evd_eqI (evd_var rfl (.int _)) evd_int))))) (fun b => absurd b (by simp; omega)) fun _ H3 e3 => ?_)
    refine s_next (s_seq (s_forE (evd_var rfl (by walk_at "tp")) (fun Hs i σ' H' => ∃ a b, σ' = [some w0, some (.int n), some (.int n), some z, some (.int (2 * n)), a, b, none] ∧ Ex Hs H') (fun Hs _ => ⟨_, _, rfl, Ex.refl _⟩) (fun _ _ _ _ ⟨_, _, _, e⟩ => e.tk) ?_ ?_))
    · rintro Hs i d v σ' H' H'' es hd ⟨a, b, rfl, e⟩ e' tv
      obtain ⟨m, hm, rfl⟩ := nats_get' hd
      have hi : i < 2 * n := by have := (List.getElem?_eq_some_iff.mp hm).1; omega
      have hz := List.all_eq_true.mp hp i (List.mem_range.mpr hi)
      rw [hm] at hz
      simp only [Bool.and_eq_true, decide_eq_true_eq, Bool.not_eq_true', decide_eq_false_iff_not] at hz
      obtain ⟨⟨z1, z2⟩, z3⟩ := hz
      cases tv.int_inv
      have tz' : Tp H'' z (dN M) := tz.ex ((e2.trans e3).trans (es.trans (e.trans e')))
      refine s_if (evt_or (evt_test (evd_IB (evd_var rfl (.int _)) evd_int)) fun _ => (evt_or (evt_test (evd_IB (evd_var rfl (.int _)) (evd_var rfl (.int _)))) fun _ => (evt_or (evt_test (evd_eqI (evd_var rfl (.int _)) (evd_var rfl (.int _)))) fun _ => (evt_test (evd_neI (evd_ixT (evd_var rfl tz') (evd_var rfl (.int _)) (at_nat (nats_get z3))) (evd_var rfl (.int _))))))) (fun b => absurd b ?_) fun _ H4 e4 => ?_
      · simp; omega
      · exact ⟨_, _, rfl, e.trans (e'.trans e4)⟩
    · rintro Hs σ' H' es ⟨a, b, rfl, e⟩
      have tz' : Tp H' z (dN M) := tz.ex ((e2.trans e3).trans (es.trans e))
      have e0 : Ex H H' := e1.trans ((e2.trans e3).trans (es.trans e))
      refine s_seq (s_asgN (evn_lst eva_nil) fun p H4 np e4 hlw => ?_)
      have e04 := e0.trans e4
      refine s_seq (s_forN (evn_callND (eva_cons (evd_var rfl (.int _)) (eva_cons (evd_var rfl (.int _)) eva_nil)) ⟨n, rfl, by omega, rfl⟩)
        (fun q H5 i σ' H' => ∃ a b, σ' = [some w0, some (.int n), some (.int n), some z, some (.int (2 * n)), a, b, some (.ref p)] ∧ p ≠ q ∧ NoTup H5 p ∧ Ex H4 H5 ∧ ExB p H5 H' ∧ Ls H' p (nats (((ordN n).take i).foldl (stkF M) [])))
        (fun q H5 nq e5 hq => ⟨_, _, rfl, hlw.ne_none nq, (hlw.ex e5).noTup, e5, ExB.refl _ _, hlw.ex e5⟩) (fun q H5 i σ' H' ⟨_, _, _, ne, nt, _, b, l⟩ => ⟨b.tk nt, fun o e => b q o ne.symm e⟩) ?_ ?_)
      · rintro q H5 i d v σ' H' nq e5 hd ⟨a, b, rfl, ne, nt, _, eb, l⟩ tv
        obtain ⟨pg, hpg, rfl⟩ := nats_get' hd
        have hlt : pg < 2 * n := by
          have := List.mem_of_getElem? hpg
          unfold ordN at this
          simp [List.mem_range'] at this
          omega
        have hm : M[pg]? = some M[pg] := List.getElem?_eq_getElem (by omega)
        rw [fold_take hpg]
        have tz' : Tp H' z (dN M) := (tz'.ex (e4.trans e5)).mono (eb.tk nt)
        cases tv.int_inv
        generalize hW : List.foldl (stkF M) [] (List.take i (ordN n)) = W at l ⊢
        have hWl : W.length ≤ 1000 := by
          rw [← hW]
          have := fold_stk M (List.take i (ordN n)) []
          have := List.length_take_le i (ordN n)
          have : (ordN n).length = 2 * n := by unfold ordN; simp; omega
          simp at *; omega
        rcases List.eq_nil_or_concat W with rfl | ⟨W', x, rfl⟩
        · refine s_if (b := false) (evt_and (b := true) (evt_test (evd_neL0 rfl l (sh_nats _))) fun hb => absurd hb (by decide)) (fun b => by cases b) fun _ H6 e6 => ?_
          refine s_appB (evv_var rfl) (evd_var rfl (.int _)) (l.ex e6) (by decide) fun H7 b7 l7 => ?_
          refine ⟨_, _, rfl, ne, nt, e5, (eb.trans (e6.b _)).trans b7, ?_⟩
          exact l7
        · rw [List.concat_eq_append] at l hWl ⊢
          have es : stkF M (W' ++ [x]) pg = if x = M[pg] then W' else (W' ++ [x]) ++ [pg] := by
            unfold stkF; rw [hm]; simp
          rw [es]
          rw [← nats_app] at l
          refine s_if (evt_and (evt_test (evd_neL0 rfl l (by rw [nats_app]; exact sh_nats _))) fun hb => (evt_test (evd_eqI (evd_ixL (evv_var rfl) l (evd_neg evd_int) at_last) (evd_ixT (evd_var rfl tz') (evd_var rfl (.int _)) (at_nat (nats_get hm)))))) (fun b H6 e6 => ?_) (fun b H6 e6 => ?_)
          · have ex : x = M[pg] := by simp at b; omega
            rw [if_pos ex]
            exact s_pop (evv_var rfl) (l.ex e6) fun H7 b7 l7 => ⟨_, _, rfl, ne, nt, e5, (eb.trans (e6.b _)).trans b7, l7⟩
          · have ex : ¬ x = M[pg] := by
              intro e
              simp [e, nats] at b
            rw [if_neg ex]
            refine s_appB (evv_var rfl) (evd_var rfl (.int _)) (l.ex e6) (by simp [nats] at hWl ⊢; omega) fun H7 b7 l7 => ?_
            refine ⟨_, _, rfl, ne, nt, e5, (eb.trans (e6.b _)).trans b7, ?_⟩
            rw [← nats_app, ← nats_app]; exact l7
      · rintro q H5 σ' H' nq e5 ⟨a, b, rfl, ne, nt, _, eb, l⟩
        rw [nats_len, List.take_length, hs] at l
        exact s_ret (evd_eqL0 rfl l rfl) fun v H6 e6 tv => k v H6 (((e04.trans e5).b p |>.trans eb |>.ex (Ex.refl _) (e0.back np)).trans e6) tv
abbrev sp_checked_mat : Sp := spD fun ds d => ∃ n M, ds = [dMat n M] ∧ okMat n M = true ∧ d = dMat n M
theorem sc_checked_mat : FnScope ["mat"] ["mat"] (defScope (top 11)) := ⟨rfl, rfl, rfl, by decide +kernel, rfl, by decide +kernel, by decide +kernel⟩
theorem w_checked_mat (B : Bt mg) (D : DefIn K mg "checked_mat" (top 11)) (C_is_mat : Cal P w K mg base CX0 2 "is_mat" ["told"] (sp_is_mat))  : Cal P w K mg base CX0 3 "checked_mat" ["mat"] (sp_checked_mat) := by
  obtain ⟨f, fd, F, g⟩ := D.ex
  refine ⟨f, fd, F.ok sc_checked_mat (fun vs H Q E h => ?_) (fun cdv A outer s H vs Q E hr h => ?_), g, F.kp, F.binds (ps := ["mat"]) fun _ _ _ _ _ _ us hl => match us, hl with | [_], _ => rfl⟩
  · obtain ⟨d, ⟨ds, t, n, M, rfl, _⟩, _⟩ := h
    exact t.length
  · obtain ⟨d, ⟨ds, t, n, M, rfl, hm, rfl⟩, k⟩ := h
    obtain ⟨w0, rfl, t1⟩ := t.i1
    refine ⟨_, (pss_cons (ps_if (pt_not (pt_val (pe_callC C_is_mat (hr.mono (by decide)) pass0 (pa_cons (pv 0) pa_nil))))
  pss_never
  pss_nil)
  (pss_one (ps_ret (pv 0)))), ?_⟩
    refine s_seq (s_if (evt_not (evt_test (evd_callD (eva_cons (evd_var rfl t1) eva_nil) ⟨n, M, rfl, hm, rfl⟩))) (fun b => by cases b) fun _ H1 e1 => ?_)
    exact s_next (s_ret (evd_var rfl (by walk_at "tp")) fun v H2 e2 t2 => k v H2 (e1.trans e2) t2)
abbrev sp_straight : Sp := spD fun ds d => ∃ n : Nat, ds = [.int n] ∧ 1 ≤ n ∧ n ≤ 6 ∧ d = dMat n (strM n)
theorem sc_straight : FnScope ["n"] ["n"] (defScope (top 14)) := ⟨rfl, rfl, rfl, by decide +kernel, rfl, by decide +kernel, by decide +kernel⟩
theorem w_straight (B : Bt mg) (D : DefIn K mg "straight" (top 14)) (C_check_size : Cal P w K mg base CX0 1 "check_size" ["n"] (sp_check_size))  : Cal P w K mg base CX0 2 "straight" ["n"] (sp_straight) := by
  obtain ⟨f, fd, F, g⟩ := D.ex
  refine ⟨f, fd, F.ok sc_straight (fun vs H Q E h => ?_) (fun cdv A outer s H vs Q E hr h => ?_), g, F.kp, F.binds (ps := ["n"]) fun _ _ _ _ _ _ us hl => match us, hl with | [_], _ => rfl⟩
  · obtain ⟨d, ⟨ds, t, n, rfl, _⟩, _⟩ := h
    exact t.length
  · obtain ⟨d, ⟨ds, t, n, rfl, hn, h6, rfl⟩, k⟩ := h
    obtain ⟨w0, rfl, t1⟩ := t.i1
    cases t1.int_inv
    refine ⟨_, (pss_cons (ps_expr (pe_callC C_check_size (hr.mono (by decide)) pass0 (pa_cons (pv 0) pa_nil)))
  (pss_one (ps_ret (pe_tup (pa_cons (pv 0) (pa_cons (pv 0) (pa_cons (pe_tupleOf (by rfl) B.tuple (pe_op op_cat (pe_listRg rfl (by rfl) B.list (prg_2 (by rfl) B.range (pv 0) (pe_op op_mulW pe_int (pv 0)))) (pe_listRg rfl (by rfl) B.list (prg_1 (by rfl) B.range (pv 0))))) pa_nil))))))), ?_⟩
    refine s_seq (s_drop (evd_callD (eva_cons (evd_var rfl (.int _)) eva_nil) ⟨_, rfl, by omega, rfl⟩) fun H1 e1 => ?_)
    dsimp only
    refine s_ret (d := dMat n (strM n)) ?_ (fun v H2 e2 t2 => ?_)
    rotate_left
    · exact k v H2 (e1.trans e2) t2
    refine evd_tup (eva_cons (evd_var rfl (.int _)) (eva_cons (evd_var rfl (.int _)) (eva_cons (evd_tupN (ds := nats (strM n)) ?_) eva_nil)))
    unfold strM
    rw [← nats_app]
    exact evn_cat (evn_rg2 (evd_var rfl (.int _)) (evd_IC evd_int (evd_var rfl (.int _)) (mulW (by decide) (by omega))) (by omega) (by omega)) (evn_rg1 (evd_var rfl (.int _)) (by omega)) (by rw [nats_len, nats_len]; simp; omega)
abbrev sp_remade : Sp := spP fun H vs d => ∃ (n : Nat) (M pl : List Nat) (l : Addr) (v : V), vs = [.int n, .int n, v, .ref l] ∧ Tp H v (dN M) ∧ Ls H l (nats pl) ∧ n ≤ 6 ∧ M.length = 2 * n ∧ pl.length = 2 * n ∧ (∀ x ∈ M, x < 2 * n) ∧ (∀ x ∈ pl, x < 2 * n) ∧ d = dMat n (remM n pl M)
theorem sc_remade : FnScope ["n", "m", "mates", "place", "row", "peg", "mate"] ["n", "m", "mates", "place"] (defScope (top 13)) := ⟨rfl, rfl, rfl, by decide +kernel, rfl, by decide +kernel, by decide +kernel⟩
theorem w_remade (B : Bt mg) (D : DefIn K mg "remade" (top 13))   : Cal P w K mg base CX0 1 "remade" ["n", "m", "mates", "place"] (sp_remade) := by
  obtain ⟨f, fd, F, g⟩ := D.ex
  refine ⟨f, fd, F.ok sc_remade (fun vs H Q E h => ?_) (fun cdv A outer s H vs Q E hr h => ?_), g, F.kp, F.binds (ps := ["n", "m", "mates", "place"]) fun _ _ _ _ _ _ us hl => match us, hl with | [_, _, _, _], _ => rfl⟩
  · obtain ⟨d, ⟨n, M, pl, l, v, rfl, _⟩, _⟩ := h; rfl
  · obtain ⟨d, ⟨n, M, pl, l, v, rfl, tM, hl, h6, lM, lp, hM, hp, rfl⟩, k⟩ := h
    refine ⟨_, (pss_cons (ps_set (i := 4) sc_remade.nd rfl (Or.inl rfl) (pe_op op_rep (pe_lst (pa_cons pe_int pa_nil)) (pe_op op_add (pv 0) (pv 1))))
  (pss_cons (ps_for PassesOwn.never rfl (pi_enumT (by rfl) B.enumerate (pa_cons (pv 2) pa_nil)) (pg_tup rfl (pgs_cons (pg_name (i := 5) sc_remade.nd rfl (Or.inl rfl)) (pgs_cons (pg_name (i := 6) sc_remade.nd rfl (Or.inl rfl)) pgs_nil)))
  (pss_one (ps_asg (pe_ix ix_list (pv 3) (pv 6) (fun _ _ => rfl)) (pg_sub (pv 4) (pe_ix ix_list (pv 3) (pv 5) (fun _ _ => rfl)) set_list))))
  (pss_one (ps_ret (pe_tup (pa_cons (pv 0) (pa_cons (pv 1) (pa_cons (pe_tupleOf (by rfl) B.tuple (pv 4)) pa_nil)))))))), ?_⟩
    refine s_seq (s_asgN (evn_rep1 (evn_lst (eva_cons evd_int eva_nil)) (evd_II (evd_var rfl (.int _)) (evd_var rfl (.int _))) (by omega) (by omega)) fun p H1 np e1 hr1 => ?_)
    rw [nats_rep, show ((n : Int) + (n : Int)).toNat = 2 * n by omega] at hr1
    have hne : l ≠ p := hl.ne_none np
    refine s_seq (s_forE (evd_var rfl (by walk_at "tp")) (fun Hs i σ' H' => ∃ a b, σ' = [some (.int n), some (.int n), some v, some (.ref l), some (.ref p), a, b] ∧ Ex H1 Hs ∧ ExB p Hs H' ∧ NoTup Hs p ∧ Ls H' p (nats ((List.range i).foldl (remF pl M) (List.replicate (2 * n) 0))))
      (fun Hs es => ⟨_, _, rfl, es, ExB.refl _ _, (hr1.ex es).noTup, hr1.ex es⟩) (fun _ _ _ _ ⟨_, _, _, _, b, nt, _⟩ => b.tk nt) ?_ ?_)
    · rintro Hs i d x σ' H' H'' es hd ⟨a, b, rfl, _, eb, nt, lr⟩ e' tv
      obtain ⟨m, hm, rfl⟩ := nats_get' hd
      have hi : i < 2 * n := by have := (List.getElem?_eq_some_iff.mp hm).1; omega
      have hm' : m < 2 * n := hM m (List.mem_of_getElem? hm)
      cases tv.int_inv
      have hl' : Ls H'' l (nats pl) := (((hl.ex (e1.trans es)).keep (eb.tk nt) fun o e => eb l o hne e)).ex e'
      have g1 : pl[i]? = some pl[i] := List.getElem?_eq_getElem (by omega)
      have g2 : pl[m]? = some pl[m] := List.getElem?_eq_getElem (by omega)
      have hpi : pl[i] < 2 * n := hp _ (List.getElem_mem _)
      refine s_setB (evd_ixL (evv_var rfl) hl' (evd_var rfl (.int _)) (at_nat (nats_get g2))) (evv_var rfl) (evd_ixL (evv_var rfl) hl' (evd_var rfl (.int _)) (at_nat (nats_get g1))) (lr.ex e') (ixN_nat (j := pl[i]) ?_) fun H3 b3 l3 => ?_
      · rw [nats_len]
        have : ∀ (l : List Nat) (r : List Nat), (l.foldl (remF pl M) r).length = r.length := by
          intro l
          induction l with
          | nil => intro r; rfl
          | cons x l ih => intro r; rw [List.foldl_cons, ih]; unfold remF; simp
        rw [this]; simp; omega
      · refine ⟨_, _, rfl, es, (eb.trans (e'.b _)).trans b3, nt, ?_⟩
        rw [List.range_succ, List.foldl_append]
        rw [nats_set] at l3
        have er : remF pl M ((List.range i).foldl (remF pl M) (List.replicate (2 * n) 0)) i = ((List.range i).foldl (remF pl M) (List.replicate (2 * n) 0)).set pl[i] pl[m] := by
          unfold remF
          rw [List.getD_eq_getElem?_getD, List.getD_eq_getElem?_getD, List.getD_eq_getElem?_getD, hm, g1]; show List.set _ _ (pl[m]?.getD 0) = _; rw [g2]; rfl
        show Ls H3 p (nats (remF pl M _ i))
        rw [er]; exact l3
    · rintro Hs σ' H' es ⟨a, b, rfl, es, eb, nt, lr⟩
      rw [List.length_map, lM] at lr
      have e0 : Ex H H' := (eb.ex (e1.trans es) np)
      exact s_ret (evd_tup (eva_cons (evd_var rfl (.int _)) (eva_cons (evd_var rfl (.int _)) (eva_cons (evd_tupL (evv_var rfl) lr) eva_nil)))) fun v H2 e2 t2 => k v H2 (e0.trans e2) t2
abbrev sp_hook : Sp := spD fun ds d => ∃ n i : Nat, ds = [.int n, .int i] ∧ i + 1 < n ∧ n ≤ 6 ∧ d = dMat n (hookM n i)
theorem sc_hook : FnScope ["n", "i", "row"] ["n", "i"] (defScope (top 15)) := ⟨rfl, rfl, rfl, by decide +kernel, rfl, by decide +kernel, by decide +kernel⟩
theorem w_hook (B : Bt mg) (D : DefIn K mg "hook" (top 15)) (C_check_size : Cal P w K mg base CX0 1 "check_size" ["n"] (sp_check_size)) (C_straight : Cal P w K mg base CX0 2 "straight" ["n"] (sp_straight))  : Cal P w K mg base CX0 3 "hook" ["n", "i"] (sp_hook) := by
  obtain ⟨f, fd, F, g⟩ := D.ex
  refine ⟨f, fd, F.ok sc_hook (fun vs H Q E h => ?_) (fun cdv A outer s H vs Q E hr h => ?_), g, F.kp, F.binds (ps := ["n", "i"]) fun _ _ _ _ _ _ us hl => match us, hl with | [_, _], _ => rfl⟩
  · obtain ⟨d, ⟨ds, t, n, i, rfl, _⟩, _⟩ := h
    exact t.length
  · obtain ⟨d, ⟨ds, t, n, i, rfl, hi, h6, rfl⟩, k⟩ := h
    obtain ⟨w0, w1, rfl, t1, t2⟩ := t.i2
    cases t1.int_inv; cases t2.int_inv
    refine ⟨_, (pss_cons (ps_expr (pe_callC C_check_size (hr.mono (by decide)) pass0 (pa_cons (pv 0) pa_nil)))
  (pss_cons (ps_if (PW.pt (pw_or (pt_cmpR op_lt (pv 1) pe_int (nomark _)) (pw_or1 (pt_cmpR op_gt (pv 1) (pe_op op_sub (pv 0) pe_int) (nomark _)))))
  pss_never
  pss_nil)
  (pss_cons (ps_set (i := 2) sc_hook.nd rfl (Or.inl rfl) (pe_callTy call_listA (by rfl) B.list PyProof.Rows.boot_list (pa_cons (pe_ix ix_tup (pe_callC C_straight (hr.mono (by decide)) pass0 (pa_cons (pv 0) pa_nil)) pe_int (fun _ _ => rfl)) pa_nil)))
  (pss_cons (ps_asg (pe_tup (pa_cons (pe_op op_add (pv 1) pe_int) (pa_cons (pv 1) pa_nil))) (pg_tup rfl (pgs_cons (pg_sub (pv 2) (pv 1) set_list) (pgs_cons (pg_sub (pv 2) (pe_op op_add (pv 1) pe_int) set_list) pgs_nil))))
  (pss_cons (ps_asg (pe_tup (pa_cons (pe_op op_add (pe_op op_add (pv 0) (pv 1)) pe_int) (pa_cons (pe_op op_add (pv 0) (pv 1)) pa_nil))) (pg_tup rfl (pgs_cons (pg_sub (pv 2) (pe_op op_add (pv 0) (pv 1)) set_list) (pgs_cons (pg_sub (pv 2) (pe_op op_add (pe_op op_add (pv 0) (pv 1)) pe_int) set_list) pgs_nil))))
  (pss_one (ps_ret (pe_tup (pa_cons (pv 0) (pa_cons (pv 0) (pa_cons (pe_tupleOf (by rfl) B.tuple (pv 2)) pa_nil))))))))))), ?_⟩
    refine s_seq (s_drop (evd_callD (eva_cons (evd_var rfl (.int _)) eva_nil) ⟨_, rfl, by omega, rfl⟩) fun H1 e1 => ?_)
    refine s_seq (s_if (evt_or (evt_test (evd_IB (evd_var rfl (.int _)) evd_int)) fun _ => (evt_test (evd_IB (evd_var rfl (.int _)) (evd_II (evd_var rfl (.int _)) evd_int)))) (fun b => absurd b (by simp; omega)) fun _ H2 e2 => ?_)
    refine s_next (s_seq (s_asgN (evn_listT (ds := nats (strM n)) (evd_ixT (evd_callD (eva_cons (evd_var rfl (.int _)) eva_nil) ⟨n, rfl, by omega, h6, rfl⟩) evd_int rfl)) fun p H3 np e3 l3 => ?_))
    have ls : (strM n).length = 2 * n := by unfold strM; simp; omega
    refine s_seq (s_asgG (evd_tup (eva_cons (evd_II (evd_var rfl (.int _)) evd_int) (eva_cons (evd_var rfl (.int _)) eva_nil))) fun v H4 e4 t4 => ?_)
    refine g_two t4 fun x y tx ty => ?_
    refine g_sub (evv_var rfl) (evd_var rfl (.int _)) (l3.ex e4) (ixN_nat (by rw [nats_len, ls]; omega)) tx fun H5 b5 l5 => ?_
    have k5 : TK H4 H5 := b5.tk (l3.ex e4).noTup
    refine ⟨_, _, rfl, g_sub (j := i + 1) (evv_var rfl) (evd_II (evd_var rfl (.int _)) evd_int) l5 ?_ (ty.mono k5) fun H6 b6 l6 => ⟨rfl, ?_⟩⟩
    · exact ixN_nat (j := i + 1) (by rw [List.length_set, nats_len, ls]; omega)
    refine s_seq (s_asgG (evd_tup (eva_cons (evd_II (evd_II (evd_var rfl (.int _)) (evd_var rfl (.int _))) evd_int) (eva_cons (evd_II (evd_var rfl (.int _)) (evd_var rfl (.int _))) eva_nil))) fun v H7 e7 t7 => ?_)
    refine g_two t7 fun x y tx ty => ?_
    refine g_sub (j := n + i) (evv_var rfl) (evd_II (evd_var rfl (.int _)) (evd_var rfl (.int _))) (l6.ex e7) ?_ tx fun H8 b8 l8 => ?_
    · exact ixN_nat (j := n + i) (by rw [List.length_set, List.length_set, nats_len, ls]; omega)
    have k8 : TK H7 H8 := b8.tk (l6.ex e7).noTup
    refine ⟨_, _, rfl, g_sub (j := n + i + 1) (evv_var rfl) (evd_II (evd_II (evd_var rfl (.int _)) (evd_var rfl (.int _))) evd_int) l8 ?_ (ty.mono k8) fun H9 b9 l9 => ⟨rfl, ?_⟩⟩
    · exact ixN_nat (j := n + i + 1) (by rw [List.length_set, List.length_set, List.length_set, nats_len, ls]; omega)
    have e0 : Ex H H9 := ((((b5.trans b6).trans (e7.b _)).trans (b8.trans b9)).ex (((e1.trans e2).trans e3).trans e4) ((e1.trans e2).back np))
    have el : nats (hookM n i) = ((((nats (strM n)).set i (.int ((i : Int) + 1))).set (i + 1) (.int (i : Int))).set (n + i) (.int ((n : Int) + (i : Int) + 1))).set (n + i + 1) (.int ((n : Int) + (i : Int))) := by
      unfold hookM
      rw [← nats_set, ← nats_set, ← nats_set, ← nats_set]
      rfl
    rw [← el] at l9
    exact s_ret (evd_tup (eva_cons (evd_var rfl (.int _)) (eva_cons (evd_var rfl (.int _)) (eva_cons (evd_tupL (evv_var rfl) l9) eva_nil)))) fun v H2 e2 t2 => k v H2 (e0.trans e2) t2
abbrev sp_upside_down : Sp := spD fun ds d => ∃ n M, ds = [dMat n M] ∧ okMat n M = true ∧ d = dMat n (downM n M)
theorem sc_upside_down : FnScope ["mat", "n", "m", "mates"] ["mat"] (defScope (top 16)) := ⟨rfl, rfl, rfl, by decide +kernel, rfl, by decide +kernel, by decide +kernel⟩
theorem w_upside_down (B : Bt mg) (D : DefIn K mg "upside_down" (top 16)) (C_checked_mat : Cal P w K mg base CX0 3 "checked_mat" ["mat"] (sp_checked_mat)) (C_remade : Cal P w K mg base CX0 1 "remade" ["n", "m", "mates", "place"] (sp_remade))  : Cal P w K mg base CX0 4 "upside_down" ["mat"] (sp_upside_down) := by
  obtain ⟨f, fd, F, g⟩ := D.ex
  refine ⟨f, fd, F.ok sc_upside_down (fun vs H Q E h => ?_) (fun cdv A outer s H vs Q E hr h => ?_), g, F.kp, F.binds (ps := ["mat"]) fun _ _ _ _ _ _ us hl => match us, hl with | [_], _ => rfl⟩
  · obtain ⟨d, ⟨ds, t, n, M, rfl, _⟩, _⟩ := h
    exact t.length
  · obtain ⟨d, ⟨ds, t, n, M, rfl, hm, rfl⟩, k⟩ := h
    obtain ⟨w0, rfl, t1⟩ := t.i1
    refine ⟨_, (pss_cons (ps_asg (pe_callC C_checked_mat (hr.mono (by decide)) pass0 (pa_cons (pv 0) pa_nil)) (pg_tup rfl (pgs_cons (pg_name (i := 1) sc_upside_down.nd rfl (Or.inl rfl)) (pgs_cons (pg_name (i := 2) sc_upside_down.nd rfl (Or.inl rfl)) (pgs_cons (pg_name (i := 3) sc_upside_down.nd rfl (Or.inl rfl)) pgs_nil)))))
  (pss_one (ps_ret (pe_callC C_remade (hr.mono (by decide)) pass0 (pa_cons (pv 2) (pa_cons (pv 1) (pa_cons (pv 3) (pa_cons (pe_op op_cat (pe_listRg rfl (by rfl) B.list (prg_2 (by rfl) B.range (pv 2) (pe_op op_add (pv 2) (pv 1)))) (pe_listRg rfl (by rfl) B.list (prg_1 (by rfl) B.range (pv 2)))) pa_nil)))))))), ?_⟩
    refine s_seq (s_asgG (evd_callD (eva_cons (evd_var rfl t1) eva_nil) ⟨n, M, rfl, hm, rfl⟩) fun v H1 e1 t1 => g_tup3 t1 fun x y z tx ty tz => ?_)
    cases tx.int_inv; cases ty.int_inv
    unfold okMat at hm
    simp only [Bool.and_eq_true, decide_eq_true_eq] at hm
    obtain ⟨⟨⟨⟨h0, h6⟩, hl⟩, hp⟩, hs⟩ := hm
    have hM : ∀ x ∈ M, x < 2 * n := fun x hx => by
      obtain ⟨i, hi⟩ := List.mem_iff_getElem?.mp hx
      have hi2 : i < 2 * n := by have := (List.getElem?_eq_some_iff.mp hi).1; omega
      have hz := List.all_eq_true.mp hp i (List.mem_range.mpr hi2)
      rw [hi] at hz
      simp only [Bool.and_eq_true, decide_eq_true_eq] at hz
      exact hz.1.1
    dsimp only
    refine s_ret (d := dMat n (downM n M)) (evd_callP (as := [.dat (.int n), .dat (.int n), .dat (dN M), .lst (nats (List.range' n n ++ List.range n))]) ?_ ?_) (fun v H2 e2 t2 => ?_)
    rotate_right
    · exact k v H2 (e1.trans e2) t2
    · refine evm_dat (evd_var rfl (.int _)) (evm_dat (evd_var rfl (.int _)) (evm_dat (evd_var rfl tz) (evm_lst ?_ evm_nil)))
      rw [← nats_app]
      exact evn_cat (evn_rg2 (evd_var rfl (.int _)) (evd_II (evd_var rfl (.int _)) (evd_var rfl (.int _))) rfl (by omega)) (evn_rg1 (evd_var rfl (.int _)) (by omega)) (by rw [nats_len, nats_len]; simp; omega)
    · rintro vs H2 e2 ok
      match vs, ok with
      | [a, b, c, d], ⟨ta, tb, tc, ⟨l, hd, tl⟩, _⟩ =>
        cases (show Tp H2 a (.int n) from ta).int_inv; cases (show Tp H2 b (.int n) from tb).int_inv
        subst hd
        exact ⟨n, M, _, l, c, rfl, tc, tl, h6, hl, by simp; omega, hM, fun x hx => by simp [List.mem_range'] at hx; omega, rfl⟩
end
end Hk


namespace Hk
/-! ### what all mats of 2 .. 6 do: by trying them all -/
def nbeq : List Nat → List Nat → Bool
  | [], [] => true
  | a :: as, b :: bs => match Nat.beq a b with | true => nbeq as bs | false => false
  | _, _ => false
theorem nbeq_eq : ∀ {a b : List Nat}, nbeq a b = true → a = b
  | [], [], _ => rfl
  | [], _ :: _, h => by cases h
  | _ :: _, [], h => by cases h
  | a :: as, b :: bs, h => by
    unfold nbeq at h
    split at h
    · rename_i e; rw [Nat.eq_of_beq_eq_true e, nbeq_eq h]
    · cases h
def memB (M : List Nat) : List (List Nat) → Bool
  | [] => false
  | L :: Ls => match nbeq M L with | true => true | false => memB M Ls
theorem memB_mem {M : List Nat} : ∀ {Ls : List (List Nat)}, memB M Ls = true → M ∈ Ls
  | [], h => by cases h
  | L :: Ls, h => by
    unfold memB at h
    split at h
    · rename_i e; rw [nbeq_eq e]; exact List.mem_cons_self ..
    · exact List.mem_cons_of_mem _ (memB_mem h)
def allB (f : List Nat → Bool) : List (List Nat) → Bool
  | [] => true
  | L :: Ls => match f L with | true => allB f Ls | false => false
theorem allB_all {f : List Nat → Bool} : ∀ {Ls : List (List Nat)}, allB f Ls = true → ∀ L ∈ Ls, f L = true
  | [], _, L, hL => by cases hL
  | K :: Ls, h, L, hL => by
    unfold allB at h
    split at h
    · rename_i e
      rcases List.mem_cons.mp hL with rfl | hL
      · exact e
      · exact allB_all h L hL
    · cases h
theorem allB_app {f : List Nat → Bool} : ∀ {Ls Ks : List (List Nat)}, allB f Ls = true → allB f Ks = true → allB f (Ls ++ Ks) = true
  | [], _, _, h => h
  | L :: Ls, Ks, h1, h2 => by
    unfold allB at h1
    split at h1
    · rename_i e
      show (match f L with | true => allB f (Ls ++ Ks) | false => false) = true
      rw [e]; exact allB_app h1 h2
    · cases h1
theorem allB_step {f : List Nat → Bool} {Ls : List (List Nat)} (k m : Nat) (h1 : allB f ((Ls.drop k).take m) = true) (h2 : allB f (Ls.drop (k + m)) = true) : allB f (Ls.drop k) = true := by
  rw [← List.take_append_drop m (Ls.drop k), List.drop_drop]
  exact allB_app h1 h2
def oneP (n : Nat) (ms : List (List Nat)) (M L : List Nat) : Bool := match farAll n M L (2 * n) 0 (List.replicate n false) with
  | some (K, ps) => match memB K ms with
    | true => (match ringsP n M L n 0 0 ps, ringsL n M L n 0 0 ps with
     | some r, some r' => Nat.beq r r' && Nat.ble r n
     | _, _ => false)
    | false => false
  | none => false
def oneM (n : Nat) (M : List Nat) : Bool := allB (oneP n (matsL n) M) (matsL n)
theorem b2 : allB (oneM 2) (matsL 2) = true := by decide +kernel
theorem b3 : allB (oneM 3) (matsL 3) = true := by decide +kernel
theorem b4 : allB (oneM 4) (matsL 4) = true := by decide +kernel
theorem b5 : allB (oneM 5) (matsL 5) = true := by decide +kernel
theorem b6_0 : allB (oneM 6) (((matsL 6).drop 0).take 11) = true := by decide +kernel
theorem b6_1 : allB (oneM 6) (((matsL 6).drop 11).take 11) = true := by decide +kernel
theorem b6_2 : allB (oneM 6) (((matsL 6).drop 22).take 11) = true := by decide +kernel
theorem b6_3 : allB (oneM 6) (((matsL 6).drop 33).take 11) = true := by decide +kernel
theorem b6_4 : allB (oneM 6) (((matsL 6).drop 44).take 11) = true := by decide +kernel
theorem b6_5 : allB (oneM 6) (((matsL 6).drop 55).take 11) = true := by decide +kernel
theorem b6_6 : allB (oneM 6) (((matsL 6).drop 66).take 11) = true := by decide +kernel
theorem b6_7 : allB (oneM 6) (((matsL 6).drop 77).take 11) = true := by decide +kernel
theorem b6_8 : allB (oneM 6) (((matsL 6).drop 88).take 11) = true := by decide +kernel
theorem b6_9 : allB (oneM 6) (((matsL 6).drop 99).take 11) = true := by decide +kernel
theorem b6_10 : allB (oneM 6) (((matsL 6).drop 110).take 11) = true := by decide +kernel
theorem b6_11 : allB (oneM 6) (((matsL 6).drop 121).take 11) = true := by decide +kernel
theorem b6_end : (matsL 6).drop 132 = [] := by decide +kernel
theorem b6 : allB (oneM 6) (matsL 6) = true := by
  have h : allB (oneM 6) ((matsL 6).drop 0) = true := by
    refine allB_step 0 11 b6_0 ?_
    refine allB_step 11 11 b6_1 ?_
    refine allB_step 22 11 b6_2 ?_
    refine allB_step 33 11 b6_3 ?_
    refine allB_step 44 11 b6_4 ?_
    refine allB_step 55 11 b6_5 ?_
    refine allB_step 66 11 b6_6 ?_
    refine allB_step 77 11 b6_7 ?_
    refine allB_step 88 11 b6_8 ?_
    refine allB_step 99 11 b6_9 ?_
    refine allB_step 110 11 b6_10 ?_
    refine allB_step 121 11 b6_11 ?_
    rw [b6_end]; rfl
  rw [List.drop_zero] at h
  exact h
theorem bAll {n : Nat} (h2 : 2 ≤ n) (h6 : n ≤ 6) : allB (oneM n) (matsL n) = true := by
  match n, h2, h6 with
  | 2, _, _ => exact b2
  | 3, _, _ => exact b3
  | 4, _, _ => exact b4
  | 5, _, _ => exact b5
  | 6, _, _ => exact b6
/-- one mat put behind another one -/
theorem put_ok {n : Nat} (h2 : 2 ≤ n) (h6 : n ≤ 6) {M L : List Nat} (hM : M ∈ matsL n) (hL : L ∈ matsL n) : ∃ r K, putP n M L = some (r, K) ∧ putL n M L = some (r, K) ∧ r ≤ n ∧ K ∈ matsL n := by
  have h := allB_all (allB_all (bAll h2 h6) M hM) L hL
  unfold oneP at h
  split at h
  · rename_i K ps e
    split at h
    · rename_i hK
      split at h
      · rename_i r r' e1 e2
        simp only [Bool.and_eq_true] at h
        have er := Nat.eq_of_beq_eq_true h.1
        subst er
        refine ⟨r, K, ?_, ?_, Nat.le_of_ble_eq_true h.2, memB_mem hK⟩
        · unfold putP; rw [e]; dsimp only; rw [e1]
        · unfold putL; rw [e]; dsimp only; rw [e2]
      · cases h
    · cases h
  · cases h
def okB (n : Nat) : Bool := allB (okMat n) (matsL n)
theorem ok_all : (okB 1 && okB 2 && okB 3 && okB 4 && okB 5 && okB 6) = true := by decide +kernel
theorem ok_of {n : Nat} (h1 : 1 ≤ n) (h6 : n ≤ 6) {M : List Nat} (hM : M ∈ matsL n) : okMat n M = true := by
  have h := ok_all
  simp only [Bool.and_eq_true] at h
  obtain ⟨⟨⟨⟨⟨a, b⟩, c⟩, d⟩, e⟩, f⟩ := h
  match n, h1, h6 with
  | 1, _, _ => exact allB_all a M hM
  | 2, _, _ => exact allB_all b M hM
  | 3, _, _ => exact allB_all c M hM
  | 4, _, _ => exact allB_all d M hM
  | 5, _, _ => exact allB_all e M hM
  | 6, _, _ => exact allB_all f M hM
def dnB (n : Nat) : Bool := allB (fun M => memB (downM n M) (matsL n) && nbeq (downM n (downM n M)) M) (matsL n)
theorem dn_all : (dnB 2 && dnB 3 && dnB 4 && dnB 5 && dnB 6) = true := by decide +kernel
theorem dn_of {n : Nat} (h2 : 2 ≤ n) (h6 : n ≤ 6) {M : List Nat} (hM : M ∈ matsL n) : downM n M ∈ matsL n ∧ downM n (downM n M) = M := by
  have h := dn_all
  simp only [Bool.and_eq_true] at h
  obtain ⟨⟨⟨⟨b, c⟩, d⟩, e⟩, f⟩ := h
  have fin : ∀ m, dnB m = true → M ∈ matsL m → downM m M ∈ matsL m ∧ downM m (downM m M) = M := fun m hm hM => by
    have := allB_all hm M hM
    simp only [Bool.and_eq_true] at this
    exact ⟨memB_mem this.1, nbeq_eq this.2⟩
  match n, h2, h6 with
  | 2, _, _ => exact fin 2 b hM
  | 3, _, _ => exact fin 3 c hM
  | 4, _, _ => exact fin 4 d hM
  | 5, _, _ => exact fin 5 e hM
  | 6, _, _ => exact fin 6 f hM
def hkB (n : Nat) : Bool := memB (strM n) (matsL n) && (List.range (n - 1)).all fun i => memB (hookM n i) (matsL n)
theorem hk_all : (hkB 1 && hkB 2 && hkB 3 && hkB 4 && hkB 5 && hkB 6) = true := by decide +kernel
theorem hk_of {n : Nat} (h1 : 1 ≤ n) (h6 : n ≤ 6) : strM n ∈ matsL n ∧ ∀ i, i + 1 < n → hookM n i ∈ matsL n := by
  have h := hk_all
  simp only [Bool.and_eq_true] at h
  obtain ⟨⟨⟨⟨⟨a, b⟩, c⟩, d⟩, e⟩, f⟩ := h
  have fin : ∀ m, hkB m = true → strM m ∈ matsL m ∧ ∀ i, i + 1 < m → hookM m i ∈ matsL m := fun m hm => by
    unfold hkB at hm
    simp only [Bool.and_eq_true, List.all_eq_true] at hm
    exact ⟨memB_mem hm.1, fun i hi => memB_mem (hm.2 i (List.mem_range.mpr (by omega)))⟩
  match n, h1, h6 with
  | 1, _, _ => exact fin 1 a
  | 2, _, _ => exact fin 2 b
  | 3, _, _ => exact fin 3 c
  | 4, _, _ => exact fin 4 d
  | 5, _, _ => exact fin 5 e
  | 6, _, _ => exact fin 6 f
end Hk


namespace Hk
open PySem PySem.Spec PyProof.Rows L2
theorem farW_len {n : Nat} {M L : List Nat} {r : Nat} {ps' : List Bool} : ∀ {f : Nat} {b : Bool} {a : Nat} {ps : List Bool}, farW n M L f b a ps = some (r, ps') → ps'.length = ps.length
  | 0, _, _, _, h => by cases h
  | f + 1, true, a, ps, h => by
    unfold farW at h
    split at h
    · cases h; rfl
    · split at h
      · split at h
        · rw [farW_len h, List.length_set]
        · cases h
      · cases h
  | f + 1, false, a, ps, h => by
    unfold farW at h
    split at h
    · split at h
      · cases h; rfl
      · cases h
    · split at h
      · rw [farW_len h, List.length_set]
      · cases h
theorem farE_len {n : Nat} {M L : List Nat} {peg r : Nat} {ps ps' : List Bool} (h : farE n M L peg ps = some (r, ps')) : ps'.length = ps.length := by
  unfold farE at h
  split at h <;> split at h <;> first | exact farW_len h | cases h
local macro_rules | `(tactic| walk_at "tp") => `(tactic| first | assumption | exact .int _ | exact .bl _ | solve_by_elim (maxDepth := 6) [Tp.ex])
section
variable {P : Program} {w : World} {K : PySem.W.Frag} {mg : Str → Option Value} {base : Heap}
abbrev sp_far_end : Sp := fun vs H Q _ => ∃ (n : Nat) (M L : List Nat) (peg : Nat) (ps : List Bool) (l : Addr) (a b : V) (r : Nat) (ps' : List Bool), vs = [a, b, .int peg, .ref l] ∧ Tp H a (dMat n M) ∧ Tp H b (dMat n L) ∧ Ls H l (bools ps) ∧ ps.length = n ∧ farE n M L peg ps = some (r, ps') ∧ ∀ H', ExB l H H' → Ls H' l (bools ps') → Q (.int r) H'
theorem sc_far_end : FnScope ["one", "other", "peg", "passed", "n", "middle", "ahead", "at"] ["one", "other", "peg", "passed"] (defScope (top 18)) := ⟨rfl, rfl, rfl, by decide +kernel, rfl, by decide +kernel, by decide +kernel⟩
theorem w_far_end (B : Bt mg) (D : DefIn K mg "far_end" (top 18))   : Cal P w K mg base CX0 1 "far_end" ["one", "other", "peg", "passed"] (sp_far_end) := by
  obtain ⟨f, fd, F, g⟩ := D.ex
  refine ⟨f, fd, F.ok sc_far_end (fun vs H Q E h => ?_) (fun cdv A outer s H vs Q E hr h => ?_), g, F.kp, F.binds (ps := ["one", "other", "peg", "passed"]) fun _ _ _ _ _ _ us hl => match us, hl with | [_, _, _, _], _ => rfl⟩
  · obtain ⟨n, M, L, peg, ps, l, a, b, r, ps', rfl, _⟩ := h; rfl
  · obtain ⟨n, M, L, peg, ps, l, a, b, r, ps', rfl, tM, tL, hl, hlen, hf, k⟩ := h
    refine ⟨_, (pss_cons (ps_par (i := 4) (j := 5) rfl sc_far_end.nd rfl rfl (by decide) rfl rfl (pa_cons (pe_ix ix_tup (pv 0) pe_int (fun _ _ => rfl)) (pa_cons (pe_ix ix_tup (pv 0) pe_int (fun _ _ => rfl)) pa_nil)) (by rfl))
  (pss_cons (ps_set (i := 6) sc_far_end.nd rfl (Or.inl rfl) (pe_cmpR op_lt (pv 2) (pv 4) (nomark _)))
  (pss_cons (ps_set (i := 7) sc_far_end.nd rfl (Or.inl rfl) (pe_ifExp (pt_val (pv 6)) (pe_ix ix_tup (pe_ix ix_tup (pv 0) pe_int (fun _ _ => rfl)) (pv 2) (fun _ _ => rfl)) (pe_ix ix_tup (pe_ix ix_tup (pv 1) pe_int (fun _ _ => rfl)) (pe_op op_sub (pe_op op_add (pv 5) (pv 2)) (pv 4)) (fun _ _ => rfl))))
  (pss_one (ps_while PassesOwn.never (pt_val pe_bl)
  (pss_cons (ps_if (pt_val (pv 6))
  (pss_cons (ps_if (pt_cmpR op_lt (pv 7) (pv 4) (nomark _))
  (pss_one (ps_ret (pv 7)))
  pss_nil)
  (pss_cons (ps_aug (i := 7) sc_far_end.nd rfl (Or.inl rfl) (pv 4) ip_sub)
  (pss_cons (ps_asg pe_bl (pg_sub (pv 3) (pv 7) set_list))
  (pss_one (ps_set (i := 7) sc_far_end.nd rfl (Or.inl rfl) (pe_ix ix_tup (pe_ix ix_tup (pv 1) pe_int (fun _ _ => rfl)) (pv 7) (fun _ _ => rfl)))))))
  (pss_cons (ps_if (pt_cmpR op_ge (pv 7) (pv 5) (nomark _))
  (pss_one (ps_ret (pe_op op_sub (pe_op op_add (pv 4) (pv 7)) (pv 5))))
  pss_nil)
  (pss_cons (ps_asg pe_bl (pg_sub (pv 3) (pv 7) set_list))
  (pss_one (ps_set (i := 7) sc_far_end.nd rfl (Or.inl rfl) (pe_ix ix_tup (pe_ix ix_tup (pv 0) pe_int (fun _ _ => rfl)) (pe_op op_add (pv 4) (pv 7)) (fun _ _ => rfl)))))))
  (pss_one (ps_set (i := 6) sc_far_end.nd rfl (Or.inl rfl) (pe_not (pv 6)))))))))), ?_⟩
    refine s_seq (s_parI (eva_cons (evd_ixT (evd_var rfl tM) evd_int rfl) (eva_cons (evd_ixT (evd_var rfl tM) evd_int rfl) eva_nil)) fun H1 e1 => ?_)
    refine s_seq (s_asgB (evd_IB (evd_var rfl (.int _)) (evd_var rfl (.int _))) fun H2 e2 => ?_)
    have e02 : Ex H H2 := e1.trans e2
    have start : ∃ at0, farW n M L (2 * n + 2) (decide (peg < n)) at0 ps = some (r, ps') ∧ (if peg < n then M[peg]? else L[peg]?) = some at0 := by
      unfold farE at hf
      by_cases hp : peg < n
      · rw [if_pos hp] at hf
        cases e : M[peg]? with
        | none => rw [e] at hf; cases hf
        | some at0 => rw [e] at hf; exact ⟨at0, by rw [decide_eq_true hp]; exact hf, by rw [if_pos hp]⟩
      · rw [if_neg hp] at hf
        cases e : L[peg]? with
        | none => rw [e] at hf; cases hf
        | some at0 => rw [e] at hf; exact ⟨at0, by rw [decide_eq_false hp]; exact hf, by rw [if_neg hp]⟩
    obtain ⟨at0, hfw, hat⟩ := start
    have hb : decide ((peg : Int) < (n : Int)) = decide (peg < n) := decide_eq_decide.mpr (by omega)
    rw [hb]
    have tM2 : Tp H2 a (dMat n M) := tM.ex e02
    have tL2 : Tp H2 b (dMat n L) := tL.ex e02
    refine s_seq (s_asgI (n := (at0 : Int)) (evd_if (evt_test (evd_var rfl (.bl _))) (fun hq => (evd_ixT (evd_ixT (evd_var rfl tM2) evd_int rfl) (evd_var rfl (.int _)) ?_)) (fun hq => (evd_ixT (evd_ixT (evd_var rfl tL2) evd_int rfl) (evd_II (evd_II (evd_var rfl (.int _)) (evd_var rfl (.int _))) (evd_var rfl (.int _))) ?_))) fun H3 e3 => ?_)
    · rw [if_pos (of_decide_eq_true hq)] at hat
      exact at_nat (nats_get hat)
    · rw [if_neg (of_decide_eq_false hq)] at hat
      rw [show (n : Int) + (peg : Int) - (n : Int) = (peg : Int) by omega]
      exact at_nat (nats_get hat)
    refine s_while (fun m σ' H' => ∃ (bb : Bool) (at_ : Nat) (qs : List Bool), σ' = [some a, some b, some (.int peg), some (.ref l), some (.int n), some (.int n), some (.bl bb), some (.int at_)] ∧ ExB l H H' ∧ Ls H' l (bools qs) ∧ qs.length = n ∧ farW n M L m bb at_ qs = some (r, ps'))
      (2 * n + 2) ⟨_, at0, ps, rfl, (e02.trans e3).b l, hl.ex (e02.trans e3), hlen, hfw⟩ ?_
    rintro m σ' H' ⟨bb, at_, qs, rfl, eb, hq, hql, hfw⟩
    have nt : NoTup H l := hl.noTup
    have tM' : Tp H' a (dMat n M) := tM.mono (eb.tk nt)
    have tL' : Tp H' b (dMat n L) := tL.mono (eb.tk nt)
    refine ⟨true, evt_test evd_bl, fun _ H4 e4 => ⟨fun σ2 H2 => ∃ m', m' < m ∧ _, fun _ _ h => h, ?_⟩, fun q => by cases q⟩
    cases m with
    | zero => cases hfw
    | succ f =>
    cases bb with
    | true =>
      refine s_seq (s_if (b := true) (evt_test (evd_var rfl (.bl _))) (fun _ H5 e5 => ?_) fun q => by cases q)
      refine s_seq (s_if (evt_test (evd_IB (evd_var rfl (.int _)) (evd_var rfl (.int _)))) (fun q H6 e6 => ?_) fun q H6 e6 => ?_)
      · have hlt : at_ < n := by simpa using q
        unfold farW at hfw
        rw [if_pos hlt] at hfw
        cases hfw
        exact s_retV (evv_var rfl) fun H7 e7 => k H7 (eb.trans ((((e4.trans e5).trans e6).trans e7).b l)) (hq.ex (((e4.trans e5).trans e6).trans e7))
      · have hlt : ¬ at_ < n := by simpa using q
        unfold farW at hfw
        rw [if_neg hlt] at hfw
        by_cases h2 : at_ - n < n
        · rw [if_pos h2] at hfw
          cases hL : L[at_ - n]? with
          | none => rw [hL] at hfw; cases hfw
          | some b' =>
            rw [hL] at hfw
            refine s_next (s_seq (s_augI rfl (evd_var rfl (.int _)) fun H7 e7 => ?_))
            have ei : (at_ : Int) - (n : Int) = ((at_ - n : Nat) : Int) := by omega
            refine s_seq (s_setB (j := at_ - n) evd_bl (evv_var rfl) (evd_var rfl (.int _)) (hq.ex (((e4.trans e5).trans e6).trans e7)) (by rw [ei]; exact ixN_nat (by rw [bools_len, hql]; exact h2)) fun H8 b8 l8 => ?_)
            rw [bools_set] at l8
            have tL8 : Tp H8 b (dMat n L) := (tL'.ex (((e4.trans e5).trans e6).trans e7)).mono (b8.tk (hq.ex (((e4.trans e5).trans e6).trans e7)).noTup)
            refine s_seq (s_asgI (n := (b' : Int)) (evd_ixT (evd_ixT (evd_var rfl tL8) evd_int rfl) (evd_var rfl (.int _)) (by rw [ei]; exact at_nat (nats_get hL))) fun H9 e9 => ?_)
            refine s_asgB (b := false) (evd_not (a := true) (evd_var rfl (.bl _))) fun H10 e10 => ⟨f, Nat.lt_succ_self f, false, b', _, rfl, ?_, l8.ex (e9.trans e10), by rw [List.length_set]; exact hql, hfw⟩
            exact ((eb.trans ((((e4.trans e5).trans e6).trans e7).b l)).trans b8).trans ((e9.trans e10).b l)
        · rw [if_neg h2] at hfw; cases hfw
    | false =>
      refine s_seq (s_if (b := false) (evt_test (evd_var rfl (.bl _))) (fun q => by cases q) fun _ H5 e5 => ?_)
      refine s_seq (s_if (evt_test (evd_IB (evd_var rfl (.int _)) (evd_var rfl (.int _)))) (fun q H6 e6 => ?_) fun q H6 e6 => ?_)
      · have hlt : n ≤ at_ := by simpa using q
        unfold farW at hfw
        rw [if_pos hlt] at hfw
        by_cases h2 : at_ < 2 * n
        · rw [if_pos h2] at hfw
          cases hfw
          refine s_retV (EvD.int (evd_II (evd_II (evd_var rfl (.int _)) (evd_var rfl (.int _))) (evd_var rfl (.int _)))) fun H7 e7 => ?_
          rw [show (n : Int) + (r : Int) - (n : Int) = (r : Int) by omega]
          exact k H7 (eb.trans ((((e4.trans e5).trans e6).trans e7).b l)) (hq.ex (((e4.trans e5).trans e6).trans e7))
        · rw [if_neg h2] at hfw; cases hfw
      · have hlt : ¬ n ≤ at_ := by simpa using q
        unfold farW at hfw
        rw [if_neg hlt] at hfw
        cases hL : M[n + at_]? with
        | none => rw [hL] at hfw; cases hfw
        | some b' =>
          rw [hL] at hfw
          refine s_next (s_seq (s_setB (j := at_) evd_bl (evv_var rfl) (evd_var rfl (.int _)) (hq.ex ((e4.trans e5).trans e6)) (ixN_nat (by rw [bools_len, hql]; omega)) fun H8 b8 l8 => ?_))
          rw [bools_set] at l8
          have tM8 : Tp H8 a (dMat n M) := (tM'.ex ((e4.trans e5).trans e6)).mono (b8.tk (hq.ex ((e4.trans e5).trans e6)).noTup)
          refine s_seq (s_asgI (n := (b' : Int)) (evd_ixT (evd_ixT (evd_var rfl tM8) evd_int rfl) (evd_II (evd_var rfl (.int _)) (evd_var rfl (.int _))) (at_nat (i := n + at_) (nats_get hL))) fun H9 e9 => ?_)
          refine s_asgB (b := true) (evd_not (a := false) (evd_var rfl (.bl _))) fun H10 e10 => ⟨f, Nat.lt_succ_self f, true, b', _, rfl, ?_, l8.ex (e9.trans e10), by rw [List.length_set]; exact hql, hfw⟩
          exact ((eb.trans (((e4.trans e5).trans e6).b l)).trans b8).trans ((e9.trans e10).b l)
abbrev sp_loose_rings : Sp := fun vs H Q _ => ∃ (n : Nat) (M L : List Nat) (ps : List Bool) (l : Addr) (a b : V) (R : Nat), vs = [a, b, .ref l] ∧ Tp H a (dMat n M) ∧ Tp H b (dMat n L) ∧ Ls H l (bools ps) ∧ ps.length = n ∧ n ≤ 6 ∧ ringsP n M L n 0 0 ps = some R ∧ ∀ H', ExB l H H' → Q (.int R) H'
theorem sc_loose_rings : FnScope ["one", "other", "passed", "n", "rings", "start", "at"] ["one", "other", "passed"] (defScope (top 19)) := ⟨rfl, rfl, rfl, by decide +kernel, rfl, by decide +kernel, by decide +kernel⟩
theorem w_loose_rings (B : Bt mg) (D : DefIn K mg "loose_rings" (top 19))   : Cal P w K mg base CX0 1 "loose_rings" ["one", "other", "passed"] (sp_loose_rings) := by
  obtain ⟨f, fd, F, g⟩ := D.ex
  refine ⟨f, fd, F.ok sc_loose_rings (fun vs H Q E h => ?_) (fun cdv A outer s H vs Q E hr h => ?_), g, F.kp, F.binds (ps := ["one", "other", "passed"]) fun _ _ _ _ _ _ us hl => match us, hl with | [_, _, _], _ => rfl⟩
  · obtain ⟨n, M, L, ps, l, a, b, R, rfl, _⟩ := h; rfl
  · obtain ⟨n, M, L, ps, l, a, b, R, rfl, tM, tL, hl, hlen, h6, hf, k⟩ := h
    have nt : NoTup H l := hl.noTup
    refine ⟨_, (pss_cons (ps_set (i := 3) sc_loose_rings.nd rfl (Or.inl rfl) (pe_ix ix_tup (pv 0) pe_int (fun _ _ => rfl)))
  (pss_cons (ps_set (i := 4) sc_loose_rings.nd rfl (Or.inl rfl) pe_int)
  (pss_cons (ps_for PassesOwn.never rfl (pi_range1 (by rfl) B.range (pa_cons (pe_ix ix_tup (pv 0) pe_int (fun _ _ => rfl)) pa_nil)) (pg_name (i := 5) sc_loose_rings.nd rfl (Or.inl rfl))
  (pss_one (ps_if (pt_not (pt_val (pe_ix ix_list (pv 2) (pv 5) (fun _ _ => rfl))))
  (pss_cons (ps_aug (i := 4) sc_loose_rings.nd rfl (Or.inl rfl) pe_int ip_add)
  (pss_cons (ps_set (i := 6) sc_loose_rings.nd rfl (Or.inl rfl) (pv 5))
  (pss_one (ps_while PassesOwn.never (pt_not (pt_val (pe_ix ix_list (pv 2) (pv 6) (fun _ _ => rfl))))
  (pss_cons (ps_asg pe_bl (pg_sub (pv 2) (pv 6) set_list))
  (pss_cons (ps_set (i := 6) sc_loose_rings.nd rfl (Or.inl rfl) (pe_op op_sub (pe_ix ix_tup (pe_ix ix_tup (pv 0) pe_int (fun _ _ => rfl)) (pe_op op_add (pv 3) (pv 6)) (fun _ _ => rfl)) (pv 3)))
  (pss_cons (ps_asg pe_bl (pg_sub (pv 2) (pv 6) set_list))
  (pss_one (ps_set (i := 6) sc_loose_rings.nd rfl (Or.inl rfl) (pe_ix ix_tup (pe_ix ix_tup (pv 1) pe_int (fun _ _ => rfl)) (pv 6) (fun _ _ => rfl)))))))))))
  pss_nil)))
  (pss_one (ps_ret (pv 4)))))), ?_⟩
    refine s_seq (s_asgI (evd_ixT (evd_var rfl tM) evd_int rfl) fun H1 e1 => ?_)
    refine s_seq (s_asgI evd_int fun H2 e2 => ?_)
    have tM2 : Tp H2 a (dMat n M) := tM.ex (e1.trans e2)
    refine s_seq (s_forR1 (evd_ixT (evd_var rfl tM2) evd_int rfl) (by omega) (fun i σ' H' => ∃ (r : Nat) (c d : Option V) (qs : List Bool), σ' = [some a, some b, some (.ref l), some (.int n), some (.int r), c, d] ∧ ExB l H H' ∧ Ls H' l (bools qs) ∧ qs.length = n ∧ ringsP n M L (n - i) i r qs = some R)
      (fun H3 e3 => ⟨0, _, _, ps, rfl, ((e1.trans e2).trans e3).b l, hl.ex ((e1.trans e2).trans e3), hlen, hf⟩) ?_ ?_)
    · rintro i σ' H' hi ⟨r, c, d, qs, rfl, eb, hq, hql, hr1⟩
      have hi : i < n := by omega
      obtain ⟨m, hm⟩ : ∃ m, n - i = m + 1 := ⟨n - i - 1, by omega⟩
      have hm1 : n - (i + 1) = m := by omega
      rw [hm] at hr1
      rw [hm1]
      have hg : qs[i]? = some qs[i] := List.getElem?_eq_getElem (by omega)
      unfold ringsP at hr1
      rw [hg] at hr1
      refine s_if (evt_not (evt_test (evd_ixL (evv_var rfl) hq (evd_var rfl (.int _)) (at_nat (bools_get hg))))) (fun q H3 e3 => ?_) (fun q H3 e3 => ?_)
      · have hb : qs[i] = false := by simpa using q
        rw [hb] at hr1
        dsimp only at hr1
        cases hrp : ringP n M L (n + 1) i qs with
        | none => rw [hrp] at hr1; cases hr1
        | some qs' =>
          rw [hrp] at hr1
          refine s_seq (s_augI rfl evd_int fun H4 e4 => ?_)
          refine s_seq (s_asgI (evd_var rfl (.int _)) fun H5 e5 => ?_)
          refine s_while (fun m σ' H' => ∃ (at_ : Nat) (qs2 : List Bool), σ' = [some a, some b, some (.ref l), some (.int n), some (.int ((r : Int) + 1)), some (.int i), some (.int at_)] ∧ ExB l H H' ∧ Ls H' l (bools qs2) ∧ qs2.length = n ∧ ringP n M L m at_ qs2 = some qs')
            (n + 1) ⟨i, qs, rfl, eb.trans (((e3.trans e4).trans e5).b l), hq.ex ((e3.trans e4).trans e5), hql, hrp⟩ ?_
          rintro f σ' H' ⟨at_, qs2, rfl, eb, hq, hql, hf⟩
          cases f with
          | zero => cases hf
          | succ f =>
          unfold ringP at hf
          cases hg : qs2[at_]? with
          | none => rw [hg] at hf; cases hf
          | some bb =>
          rw [hg] at hf
          refine ⟨!bb, evt_not (evt_test (evd_ixL (evv_var rfl) hq (evd_var rfl (.int _)) (at_nat (bools_get hg)))), fun q H6 e6 => ⟨fun σ2 H2 => ∃ m', m' < f + 1 ∧ _, fun _ _ h => h, ?_⟩, fun q H6 e6 => ?_⟩
          · have hb : bb = false := by simpa using q
            subst hb
            dsimp only at hf
            have hlt : at_ < n := by have := (List.getElem?_eq_some_iff.mp hg).1; omega
            cases hM : M[n + at_]? with
            | none => rw [hM] at hf; cases hf
            | some x =>
            rw [hM] at hf
            dsimp only at hf
            by_cases hx : n ≤ x ∧ x - n < n
            · rw [if_pos hx] at hf
              cases hL : L[x - n]? with
              | none => rw [hL] at hf; cases hf
              | some y =>
              rw [hL] at hf
              dsimp only at hf
              refine s_seq (s_setB (j := at_) evd_bl (evv_var rfl) (evd_var rfl (.int _)) (hq.ex e6) (ixN_nat (by rw [bools_len, hql]; exact hlt)) fun H7 b7 l7 => ?_)
              rw [bools_set] at l7
              have eb7 := (eb.trans (e6.b l)).trans b7
              refine s_seq (s_asgI (evd_II (evd_ixT (evd_ixT (evd_var rfl (tM.mono (eb7.tk nt))) evd_int rfl) (evd_II (evd_var rfl (.int _)) (evd_var rfl (.int _))) (at_nat (i := n + at_) (nats_get hM))) (evd_var rfl (.int _))) fun H8 e8 => ?_)
              have ex : (x : Int) - (n : Int) = ((x - n : Nat) : Int) := by omega
              rw [ex]
              refine s_seq (s_setB (j := x - n) evd_bl (evv_var rfl) (evd_var rfl (.int _)) (l7.ex e8) (ixN_nat (by rw [bools_len, List.length_set, hql]; exact hx.2)) fun H9 b9 l9 => ?_)
              rw [bools_set] at l9
              have eb9 := (eb7.trans (e8.b l)).trans b9
              refine s_asgI (evd_ixT (evd_ixT (evd_var rfl (tL.mono (eb9.tk nt))) evd_int rfl) (evd_var rfl (.int _)) (at_nat (nats_get hL))) fun H10 e10 => ?_
              exact ⟨f, Nat.lt_succ_self f, y, _, rfl, eb9.trans (e10.b l), l9.ex e10, by rw [List.length_set, List.length_set]; exact hql, hf⟩
            · rw [if_neg hx] at hf; cases hf
          · have hb : bb = true := by simpa using q
            subst hb
            cases hf
            exact ⟨r + 1, _, _, qs', rfl, eb.trans (e6.b l), hq.ex e6, hql, hr1⟩
      · have hb : qs[i] = true := by simpa using q
        rw [hb] at hr1
        exact s_next ⟨r, _, _, qs, rfl, eb.trans (e3.b l), hq.ex e3, hql, hr1⟩
    · rintro σ' H' ⟨r, c, d, qs, rfl, eb, hq, hql, hr1⟩
      rw [show n - (Int.toNat (n : Int)) = 0 by omega] at hr1
      cases hr1
      exact s_retV (evv_var rfl) fun H3 e3 => k H3 (eb.trans (e3.b l))
abbrev sp_put_behind : Sp := spD fun ds d => ∃ n M L r Kk, ds = [dMat n M, dMat n L] ∧ n ≤ 6 ∧ putP n M L = some (r, Kk) ∧ d = .tuple [.int (r : Nat), .int n, .int n, dN Kk]
theorem sc_put_behind : FnScope ["one", "other", "n", "k", "passed", "mates", "peg"] ["one", "other"] (defScope (top 20)) := ⟨rfl, rfl, rfl, by decide +kernel, rfl, by decide +kernel, by decide +kernel⟩
theorem w_put_behind (B : Bt mg) (D : DefIn K mg "put_behind" (top 20)) (C_far_end : Cal P w K mg base CX0 1 "far_end" ["one", "other", "peg", "passed"] (sp_far_end)) (C_loose_rings : Cal P w K mg base CX0 1 "loose_rings" ["one", "other", "passed"] (sp_loose_rings))  : Cal P w K mg base CX0 2 "put_behind" ["one", "other"] (sp_put_behind) := by
  obtain ⟨f, fd, F, g⟩ := D.ex
  refine ⟨f, fd, F.ok sc_put_behind (fun vs H Q E h => ?_) (fun cdv A outer s H vs Q E hr h => ?_), g, F.kp, F.binds (ps := ["one", "other"]) fun _ _ _ _ _ _ us hl => match us, hl with | [_, _], _ => rfl⟩
  · obtain ⟨d, ⟨ds, t, n, M, L, r, Kk, rfl, _⟩, _⟩ := h
    exact t.length
  · obtain ⟨d, ⟨ds, t, n, M, L, r, Kk, rfl, h6, hp, rfl⟩, k⟩ := h
    obtain ⟨a, b, rfl, tM, tL⟩ := t.i2
    refine ⟨_, (pss_cons (ps_par (i := 2) (j := 3) rfl sc_put_behind.nd rfl rfl (by decide) rfl rfl (pa_cons (pe_ix ix_tup (pv 0) pe_int (fun _ _ => rfl)) (pa_cons (pe_ix ix_tup (pv 1) pe_int (fun _ _ => rfl)) pa_nil)) (by rfl))
  (pss_cons (ps_set (i := 4) sc_put_behind.nd rfl (Or.inl rfl) (pe_op op_rep (pe_lst (pa_cons pe_bl pa_nil)) (pe_ix ix_tup (pv 0) pe_int (fun _ _ => rfl))))
  (pss_cons (ps_set (i := 5) sc_put_behind.nd rfl (Or.inl rfl) (pe_lst pa_nil))
  (pss_cons (ps_for PassesOwn.never rfl (pi_range1 (by rfl) B.range (pa_cons (pe_op op_add (pv 2) (pv 3)) pa_nil)) (pg_name (i := 6) sc_put_behind.nd rfl (Or.inl rfl))
  (pss_one (ps_expr (pe_bm PySem.F.plainAttrs_list PySem.F.slot_list_append PySem.F.type_list_append mt_append (pv 5) (pa_cons (pe_callC C_far_end (hr.mono (by decide)) pass0 (pa_cons (pv 0) (pa_cons (pv 1) (pa_cons (pv 6) (pa_cons (pv 4) pa_nil))))) pa_nil)))))
  (pss_one (ps_ret (pe_tup (pa_cons (pe_callC C_loose_rings (hr.mono (by decide)) pass0 (pa_cons (pv 0) (pa_cons (pv 1) (pa_cons (pv 4) pa_nil)))) (pa_cons (pv 2) (pa_cons (pv 3) (pa_cons (pe_tupleOf (by rfl) B.tuple (pv 5)) pa_nil))))))))))), ?_⟩
    unfold putP at hp
    cases hfa : farAll n M L (2 * n) 0 (List.replicate n false) with
    | none => rw [hfa] at hp; cases hp
    | some z =>
    obtain ⟨asF, psF⟩ := z
    rw [hfa] at hp
    dsimp only at hp
    cases hrr : ringsP n M L n 0 0 psF with
    | none => rw [hrr] at hp; cases hp
    | some R =>
    rw [hrr] at hp
    cases hp
    refine s_seq (s_parI (eva_cons (evd_ixT (evd_var rfl tM) evd_int rfl) (eva_cons (evd_ixT (evd_var rfl tL) evd_int rfl) eva_nil)) fun H1 e1 => ?_)
    have tM1 := tM.ex e1
    have tL1 := tL.ex e1
    refine s_seq (s_asgN (evn_rep1 (evn_lst (eva_cons evd_bl eva_nil)) (evd_ixT (evd_var rfl tM1) evd_int rfl) (by omega) (by omega)) fun p H2 np e2 hpl => ?_)
    rw [bools_rep, Int.toNat_natCast] at hpl
    refine s_seq (s_asgN (evn_lst eva_nil) fun q H3 nq e3 hql => ?_)
    have hpl3 := hpl.ex e3
    have pq : p ≠ q := hpl.ne_none nq
    have e13 : Ex H H3 := (e1.trans e2).trans e3
    refine s_seq (s_forR1 (evd_II (evd_var rfl (.int _)) (evd_var rfl (.int _))) (by omega) (fun i σ' H' => ∃ (c : Option V) (as rest : List Nat) (ps : List Bool), σ' = [some a, some b, some (.int n), some (.int n), some (.ref p), some (.ref q), c] ∧ Ex H H' ∧ Ls H' p (bools ps) ∧ ps.length = n ∧ Ls H' q (nats as) ∧ as.length = i ∧ farAll n M L (2 * n - i) i ps = some (rest, psF) ∧ as ++ rest = Kk)
      (fun H4 e4 => ⟨_, [], Kk, _, rfl, e13.trans e4, hpl3.ex e4, by simp, hql.ex e4, rfl, hfa, rfl⟩) ?_ ?_)
    · rintro i σ' H' hi ⟨c, as, rest, ps, rfl, e', hlp, hps, hlq, has, hff, happ⟩
      obtain ⟨m, hm⟩ : ∃ m, 2 * n - i = m + 1 := ⟨2 * n - i - 1, by omega⟩
      have hm1 : 2 * n - (i + 1) = m := by omega
      rw [hm] at hff
      rw [hm1]
      unfold farAll at hff
      cases hfe : farE n M L i ps with
      | none => rw [hfe] at hff; cases hff
      | some z =>
      obtain ⟨x, ps'⟩ := z
      rw [hfe] at hff
      dsimp only at hff
      cases hfr : farAll n M L m (i + 1) ps' with
      | none => rw [hfr] at hff; cases hff
      | some z =>
      obtain ⟨rest', psF'⟩ := z
      rw [hfr] at hff
      cases hff
      refine s_appE rfl hlq ?_
      refine ⟨a, rfl, b, rfl, .int i, rfl, .ref p, rfl, n, M, L, i, ps, p, a, b, x, ps', rfl, tM.ex e', tL.ex e', hlp, hps, hfe, fun H5 b5 l5 => ?_⟩
      have hlq5 : Ls H5 q (nats as) := hlq.keepB b5 pq.symm hlp.noTup
      refine app_at hlq5 (.int _) (by rw [nats_len, has]; omega) fun H6 b6 l6 => ?_
      have e6 : Ex H H6 := b6.ex (b5.ex e' (e1.back np)) ((e1.trans e2).back nq)
      exact ⟨_, as ++ [x], rest', ps', rfl, e6, l5.keepB b6 pq hlq5.noTup, by rw [farE_len hfe]; exact hps, by rw [← nats_app]; exact l6, by simp [has], hfr, by rw [List.append_assoc]; exact happ⟩
    · rintro σ' H' ⟨c, as, rest, ps, rfl, e', hlp, hps, hlq, has, hff, happ⟩
      have e2n : Int.toNat ((n : Int) + (n : Int)) = 2 * n := by omega
      rw [e2n, Nat.sub_self] at hff
      cases hff
      rw [List.append_nil] at happ
      rw [happ] at hlq
      -- the tuple of the answer: loose_rings first
      refine ⟨a, rfl, b, rfl, .ref p, rfl, n, M, L, psF, p, a, b, r, rfl, tM.ex e', tL.ex e', hlp, hps, h6, hrr, fun H5 b5 => ?_⟩
      have hlq5 : Ls H5 q (nats Kk) := hlq.keepB b5 pq.symm hlp.noTup
      have e5 : Ex H H5 := b5.ex e' (e1.back np)
      refine (eva_cons (evd_var rfl (.int n)) (eva_cons (evd_var rfl (.int n)) (eva_cons (evd_tupL (evv_var rfl) hlq5) eva_nil))) H5 (Ex.refl _) _ fun vs H6 e6 tv => ?_
      refine ⟨by have z := tv.length; simp at z; rw [sizeLine_eq]; simp; omega, fun x hx => ?_⟩
      refine k _ _ ((e5.trans e6).trans (Ex.new hx)) (.tup (.inl upd_same) ((TpAll.cons (.int _) tv).ex (Ex.new hx)))
abbrev sp_chained : Sp := spD fun ds d => ∃ (n : Nat) (M L : List Nat) (r : Nat) (Kk : List Nat) (i j : Int), ds = [.tuple [.int i, dMat n M], .tuple [.int j, dMat n L]] ∧ n ≤ 6 ∧ putP n M L = some (r, Kk) ∧ d = .tuple [.int (i + j + r), dMat n Kk]
theorem sc_chained : FnScope ["one", "other", "rings", "n", "k", "mates"] ["one", "other"] (defScope (top 21)) := ⟨rfl, rfl, rfl, by decide +kernel, rfl, by decide +kernel, by decide +kernel⟩
theorem w_chained (B : Bt mg) (D : DefIn K mg "chained" (top 21)) (C_put_behind : Cal P w K mg base CX0 2 "put_behind" ["one", "other"] (sp_put_behind))  : Cal P w K mg base CX0 3 "chained" ["one", "other"] (sp_chained) := by
  obtain ⟨f, fd, F, g⟩ := D.ex
  refine ⟨f, fd, F.ok sc_chained (fun vs H Q E h => ?_) (fun cdv A outer s H vs Q E hr h => ?_), g, F.kp, F.binds (ps := ["one", "other"]) fun _ _ _ _ _ _ us hl => match us, hl with | [_, _], _ => rfl⟩
  · obtain ⟨d, ⟨ds, t, n, M, L, r, Kk, i, j, rfl, _⟩, _⟩ := h
    exact t.length
  · obtain ⟨d, ⟨ds, t, n, M, L, r, Kk, i, j, rfl, h6, hp, rfl⟩, k⟩ := h
    obtain ⟨a, b, rfl, tM, tL⟩ := t.i2
    refine ⟨_, (pss_cons (ps_asg (pe_callC C_put_behind (hr.mono (by decide)) pass0 (pa_cons (pe_ix ix_tup (pv 0) pe_int (fun _ _ => rfl)) (pa_cons (pe_ix ix_tup (pv 1) pe_int (fun _ _ => rfl)) pa_nil))) (pg_tup rfl (pgs_cons (pg_name (i := 2) sc_chained.nd rfl (Or.inl rfl)) (pgs_cons (pg_name (i := 3) sc_chained.nd rfl (Or.inl rfl)) (pgs_cons (pg_name (i := 4) sc_chained.nd rfl (Or.inl rfl)) (pgs_cons (pg_name (i := 5) sc_chained.nd rfl (Or.inl rfl)) pgs_nil))))))
  (pss_one (ps_ret (pe_tup (pa_cons (pe_op op_add (pe_op op_add (pe_ix ix_tup (pv 0) pe_int (fun _ _ => rfl)) (pe_ix ix_tup (pv 1) pe_int (fun _ _ => rfl))) (pv 2)) (pa_cons (pe_tup (pa_cons (pv 3) (pa_cons (pv 4) (pa_cons (pv 5) pa_nil)))) pa_nil)))))), ?_⟩
    refine s_seq (s_asgG (evd_callD (eva_cons (evd_ixT (evd_var rfl tM) evd_int rfl) (eva_cons (evd_ixT (evd_var rfl tL) evd_int rfl) eva_nil)) ⟨n, M, L, r, Kk, rfl, h6, hp, rfl⟩) fun v H1 e1 tv => g_tup4 tv fun x y z z' tx ty tz tz' => ?_)
    cases tx.int_inv; cases ty.int_inv; cases tz.int_inv
    exact s_ret (evd_tup (eva_cons (evd_II (evd_II (evd_ixT (evd_var rfl (tM.ex e1)) evd_int rfl) (evd_ixT (evd_var rfl (tL.ex e1)) evd_int rfl)) (evd_var rfl (.int _))) (eva_cons (evd_tup (eva_cons (evd_var rfl (.int _)) (eva_cons (evd_var rfl (.int _)) (eva_cons (evd_var rfl tz') eva_nil)))) eva_nil))) fun v H2 e2 t2 => k v H2 (e1.trans e2) t2
end
end Hk


namespace Hk
open PySem PySem.Spec PyProof.Rows L2
theorem Ls.inj {H : Hp} {l : Addr} {ds es : List PyData} (a : Ls H l ds) (b : Ls H l es) : ds = es := by
  obtain ⟨xs, hx, r⟩ := a
  obtain ⟨ys, hy, r'⟩ := b
  rw [hx] at hy; cases hy
  exact TpAll.inj r r'
local macro_rules | `(tactic| walk_at "tp") => `(tactic| first | assumption | exact .int _ | exact .bl _ | solve_by_elim (maxDepth := 6) [Tp.ex])
section
variable {P : Program} {w : World} {K : PySem.W.Frag} {mg : Str → Option Value} {base : Heap}
abbrev sp_law_put : Sp := spD fun ds d => ∃ n M L r Kk, ds = [dMat n M, dMat n L] ∧ n ≤ 6 ∧ putL n M L = some (r, Kk) ∧ d = .tuple [.int (r : Nat), dMat n Kk]
theorem sc_law_put : FnScope ["_law_ahead", "_law_behind", "_law_above", "_law_middle", "_law_below", "_law_mates", "_law_seen", "_law_rings", "_law_start", "_law_upper", "_law_peg", "_law_step"] ["_law_ahead", "_law_behind"] (defScope (top 54)) := ⟨rfl, rfl, rfl, by decide +kernel, rfl, by decide +kernel, by decide +kernel⟩
theorem w_law_put (B : Bt mg) (D : DefIn K mg "_law_put" (top 54))   : Cal P w K mg base CX0 1 "_law_put" ["_law_ahead", "_law_behind"] (sp_law_put) := by
  obtain ⟨f, fd, F, g⟩ := D.ex
  refine ⟨f, fd, F.ok sc_law_put (fun vs H Q E h => ?_) (fun cdv A outer s H vs Q E hr h => ?_), g, F.kp, F.binds (ps := ["_law_ahead", "_law_behind"]) fun _ _ _ _ _ _ us hl => match us, hl with | [_, _], _ => rfl⟩
  · obtain ⟨d, ⟨ds, t, n, M, L, r, Kk, rfl, _⟩, _⟩ := h
    exact t.length
  · obtain ⟨d, ⟨ds, t, n, M, L, r, Kk, rfl, h6, hp, rfl⟩, k⟩ := h
    obtain ⟨a, b, rfl, tM, tL⟩ := t.i2
    unfold putL at hp
    cases hfa : farAll n M L (2 * n) 0 (List.replicate n false) with
    | none => rw [hfa] at hp; cases hp
    | some z =>
    obtain ⟨asF, psF⟩ := z
    rw [hfa] at hp
    dsimp only at hp
    cases hrr : ringsL n M L n 0 0 psF with
    | none => rw [hrr] at hp; cases hp
    | some R =>
    rw [hrr] at hp
    cases hp
    refine ⟨_, (pss_cons (ps_par3 (i := 2) (j := 3) (l := 4) rfl sc_law_put.nd rfl rfl rfl (by decide) (by decide) (by decide) rfl rfl rfl (pa_cons (pe_ix ix_tup (pv 0) pe_int (fun _ _ => rfl)) (pa_cons (pe_ix ix_tup (pv 0) pe_int (fun _ _ => rfl)) (pa_cons (pe_ix ix_tup (pv 1) pe_int (fun _ _ => rfl)) pa_nil))) (by rfl))
  (pss_cons (ps_par3 (i := 5) (j := 6) (l := 7) rfl sc_law_put.nd rfl rfl rfl (by decide) (by decide) (by decide) rfl rfl rfl (pa_cons (pe_op op_rep (pe_lst (pa_cons pe_int pa_nil)) (pe_op op_add (pv 2) (pv 4))) (pa_cons (pe_op op_rep (pe_lst (pa_cons pe_bl pa_nil)) (pv 3)) (pa_cons pe_int pa_nil))) (by rfl))
  (pss_cons (ps_for PassesOwn.never rfl (pi_range1 (by rfl) B.range (pa_cons (pe_op op_add (pv 2) (pv 4)) pa_nil)) (pg_name (i := 8) sc_law_put.nd rfl (Or.inl rfl))
  (pss_cons (ps_par (i := 9) (j := 10) rfl sc_law_put.nd rfl rfl (by decide) rfl rfl (pa_cons (pe_cmpR op_lt (pv 8) (pv 2) (nomark _)) (pa_cons (pv 8) pa_nil)) (by rfl))
  (pss_cons (ps_if (pt_cmpR op_ge (pv 8) (pv 2) (nomark _))
  (pss_one (ps_set (i := 10) sc_law_put.nd rfl (Or.inl rfl) (pe_op op_add (pe_op op_sub (pv 8) (pv 2)) (pv 3))))
  pss_nil)
  (pss_cons (ps_for PassesOwn.never rfl (pi_range1 (by rfl) B.range (pa_cons (pe_op op_add (pe_op op_mulW pe_int (pv 3)) pe_int) pa_nil)) (pg_name (i := 11) sc_law_put.nd rfl (Or.inl rfl))
  (pss_cons (ps_set (i := 10) sc_law_put.nd rfl (Or.inl rfl) (pe_ifExp (pt_val (pv 9)) (pe_ix ix_tup (pe_ix ix_tup (pv 0) pe_int (fun _ _ => rfl)) (pv 10) (fun _ _ => rfl)) (pe_ix ix_tup (pe_ix ix_tup (pv 1) pe_int (fun _ _ => rfl)) (pv 10) (fun _ _ => rfl))))
  (pss_cons (ps_if (PW.pt (pw_or (PW.pt (pw_and (pt_val (pv 9)) (pw_and1 (pt_cmpR op_lt (pv 10) (pv 2) (nomark _))))) (pw_or1 (PW.pt (pw_and (pt_not (pt_val (pv 9))) (pw_and1 (pt_cmpR op_ge (pv 10) (pv 3) (nomark _))))))))
  (pss_one ps_break)
  pss_nil)
  (pss_cons (ps_set (i := 10) sc_law_put.nd rfl (Or.inl rfl) (pe_ifExp (pt_val (pv 9)) (pe_op op_sub (pv 10) (pv 2)) (pe_op op_add (pv 10) (pv 2))))
  (pss_cons (ps_set (i := 9) sc_law_put.nd rfl (Or.inl rfl) (pe_not (pv 9)))
  (pss_one (ps_asg pe_bl (pg_sub (pv 6) (pe_ifExp (pt_val (pv 9)) (pe_op op_sub (pv 10) (pv 2)) (pv 10)) set_list))))))))
  (pss_one (ps_asg (pe_ifExp (pt_val (pv 9)) (pv 10) (pe_op op_add (pe_op op_sub (pv 10) (pv 3)) (pv 2))) (pg_sub (pv 5) (pv 8) set_list)))))))
  (pss_cons (ps_for PassesOwn.never rfl (pi_range1 (by rfl) B.range (pa_cons (pv 3) pa_nil)) (pg_name (i := 8) sc_law_put.nd rfl (Or.inl rfl))
  (pss_cons (ps_set (i := 7) sc_law_put.nd rfl (Or.inl rfl) (pe_op op_add (pv 7) (pe_callTy call_int1 (by rfl) B.int PyProof.Rows.boot_int (pa_cons (pe_not (pe_ix ix_list (pv 6) (pv 8) (fun _ _ => rfl))) pa_nil))))
  (pss_cons (ps_set (i := 10) sc_law_put.nd rfl (Or.inl rfl) (pv 8))
  (pss_one (ps_for PassesOwn.never rfl (pi_range1 (by rfl) B.range (pa_cons (pv 3) pa_nil)) (pg_name (i := 11) sc_law_put.nd rfl (Or.inl rfl))
  (pss_one (ps_if (pt_not (pt_val (pe_ix ix_list (pv 6) (pv 10) (fun _ _ => rfl))))
  (pss_cons (ps_asg pe_bl (pg_sub (pv 6) (pv 10) set_list))
  (pss_cons (ps_set (i := 10) sc_law_put.nd rfl (Or.inl rfl) (pe_ix ix_tup (pe_ix ix_tup (pv 1) pe_int (fun _ _ => rfl)) (pv 10) (fun _ _ => rfl)))
  (pss_cons (ps_asg pe_bl (pg_sub (pv 6) (pv 10) set_list))
  (pss_one (ps_set (i := 10) sc_law_put.nd rfl (Or.inl rfl) (pe_op op_sub (pe_ix ix_tup (pe_ix ix_tup (pv 0) pe_int (fun _ _ => rfl)) (pe_op op_add (pv 2) (pv 10)) (fun _ _ => rfl)) (pv 2)))))))
  pss_nil)))))))
  (pss_one (ps_ret (pe_tup (pa_cons (pv 7) (pa_cons (pe_tup (pa_cons (pv 2) (pa_cons (pv 4) (pa_cons (pe_tupleOf (by rfl) B.tuple (pv 5)) pa_nil)))) pa_nil))))))))), ?_⟩
    refine s_seq (s_par3I (eva_cons (evd_ixT (evd_var rfl tM) evd_int rfl) (eva_cons (evd_ixT (evd_var rfl tM) evd_int rfl) (eva_cons (evd_ixT (evd_var rfl tL) evd_int rfl) eva_nil))) fun H1 e1 => ?_)
    refine s_seq ((evn_rep1 (evn_lst (eva_cons evd_int eva_nil)) (evd_II (evd_var rfl (.int _)) (evd_var rfl (.int _))) (by omega) (by omega)) H1 (Ex.refl _) _ fun p H2 np e2 lp => ?_)
    refine (evn_rep1 (evn_lst (eva_cons evd_bl eva_nil)) (evd_var rfl (.int _)) (by omega) (by omega)) H2 (Ex.refl _) _ fun q H3 nq e3 lq => ⟨_, _, _, rfl, ?_⟩
    rw [nats_rep, show ((n : Int) + (n : Int)).toNat = 2 * n by omega] at lp
    rw [bools_rep, Int.toNat_natCast] at lq
    have pq : p ≠ q := lp.ne_none nq
    have e03 := (e1.trans e2).trans e3
    have np0 : H p = none := e1.back np
    have nq0 : H q = none := (e1.trans e2).back nq
    refine s_seq (s_forR1 (evd_II (evd_var rfl (.int _)) (evd_var rfl (.int _))) (by omega) (fun i σ' H' => ∃ (c d e f : Option V) (as rest : List Nat) (ps : List Bool), σ' = [some a, some b, some (.int n), some (.int n), some (.int n), some (.ref p), some (.ref q), some (.int 0), c, d, e, f] ∧ Ex H H' ∧ Ls H' q (bools ps) ∧ ps.length = n ∧ Ls H' p (nats (as ++ List.replicate (2 * n - i) 0)) ∧ as.length = i ∧ farAll n M L (2 * n - i) i ps = some (rest, psF) ∧ as ++ rest = Kk)
      (fun H4 e4 => ⟨_, _, _, _, [], Kk, _, rfl, e03.trans e4, lq.ex e4, by simp, (lp.ex e3).ex e4, rfl, hfa, rfl⟩) ?_ ?_)
    · rintro i σ' H' hi ⟨c, d, e, f, as, rest, ps, rfl, e', hq, hps, hpl, has, hff, happ⟩
      have hi : i < 2 * n := by omega
      obtain ⟨m, hm⟩ : ∃ m, 2 * n - i = m + 1 := ⟨2 * n - i - 1, by omega⟩
      have hm1 : 2 * n - (i + 1) = m := by omega
      rw [hm] at hff hpl
      rw [hm1]
      unfold farAll at hff
      cases hfe : farE n M L i ps with
      | none => rw [hfe] at hff; cases hff
      | some z =>
      obtain ⟨x, ps'⟩ := z
      rw [hfe] at hff
      dsimp only at hff
      cases hfr : farAll n M L m (i + 1) ps' with
      | none => rw [hfr] at hff; cases hff
      | some z =>
      obtain ⟨rest', psF'⟩ := z
      rw [hfr] at hff
      cases hff
      refine s_seq (s_parD (eva_cons (evd_IB (evd_var rfl (.int _)) (evd_var rfl (.int _))) (eva_cons (evd_var rfl (.int _)) eva_nil)) fun v v' H4 e4 tv tv' => ?_)
      cases tv.bl_inv; cases tv'.int_inv
      have hb : decide ((i : Int) < (n : Int)) = decide (i < n) := decide_eq_decide.mpr (by omega)
      rw [hb]
      -- if start >= above
      refine s_seq (s_ifJ (b := decide (n ≤ i)) (fun σ6 H6 => σ6 = [some a, some b, some (.int n), some (.int n), some (.int n), some (.ref p), some (.ref q), some (.int 0), some (.int i), some (.bl (decide (i < n))), some (.int i), f] ∧ Ex H' H6) (EvT.is (evt_test (evd_IB (evd_var rfl (.int _)) (evd_var rfl (.int _)))) (decide_eq_decide.mpr (by omega))) ?_ (fun hq' H5 e5 J => s_asgI (n := (i : Int)) (EvD.is (evd_II (evd_II (evd_var rfl (.int _)) (evd_var rfl (.int _))) (evd_var rfl (.int _))) (by congr 1; omega)) fun H6 e6 => J _ _ ⟨rfl, (e4.trans e5).trans e6⟩) (fun _ H5 e5 J => s_next (J _ _ ⟨rfl, e4.trans e5⟩)))
      rintro σ6 H6 ⟨rfl, e6⟩
      have start : ∃ at0, farW n M L (2 * n + 2) (decide (i < n)) at0 ps = some (x, ps') ∧ (if decide (i < n) = true then M[i]? else L[i]?) = some at0 := by
        unfold farE at hfe
        by_cases hp : i < n
        · rw [if_pos hp] at hfe
          cases e : M[i]? with
          | none => rw [e] at hfe; cases hfe
          | some at0 => rw [e] at hfe; exact ⟨at0, by rw [decide_eq_true hp]; exact hfe, by rw [decide_eq_true hp]; simp⟩
        · rw [if_neg hp] at hfe
          cases e : L[i]? with
          | none => rw [e] at hfe; cases hfe
          | some at0 => rw [e] at hfe; exact ⟨at0, by rw [decide_eq_false hp]; exact hfe, by rw [decide_eq_false hp]; simp⟩
      obtain ⟨at0, hfw, hat⟩ := start
      have e06 := e'.trans e6
      refine s_seq (s_forR1J (n := 2 * (n : Int) + 2) (fun σ7 H7 => ∃ g bb, σ7 = [some a, some b, some (.int n), some (.int n), some (.int n), some (.ref p), some (.ref q), some (.int 0), some (.int i), some (.bl bb), some (.int x), g] ∧ Ex H H7 ∧ Ls H7 q (bools ps') ∧ Ls H7 p (nats (as ++ List.replicate (m + 1) 0))) (evd_II (evd_IC evd_int (evd_var rfl (.int _)) (mulW (by decide) (by omega))) evd_int) (by omega) ?_ (fun j σ' H' => ∃ (g : Option V) (bb : Bool) (pg at_ : Nat) (qs : List Bool), σ' = [some a, some b, some (.int n), some (.int n), some (.int n), some (.ref p), some (.ref q), some (.int 0), some (.int i), some (.bl bb), some (.int pg), g] ∧ Ex H H' ∧ Ls H' q (bools qs) ∧ qs.length = n ∧ Ls H' p (nats (as ++ List.replicate (m + 1) 0)) ∧ (if bb = true then M[pg]? else L[pg]?) = some at_ ∧ farW n M L (2 * n + 2 - j) bb at_ qs = some (x, ps'))
        (fun H7 e7 => ⟨_, _, i, at0, ps, rfl, e06.trans e7, hq.ex (e6.trans e7), hps, hpl.ex (e6.trans e7), hat, hfw⟩) ?_ ?_)
      · rintro σ7 H7 ⟨g, bb, rfl, e7, hq7, hp7⟩
        refine s_setB (j := i) (d := .int x) (evd_if (evt_test (evd_var rfl (.bl _))) (fun hq => evd_var rfl (.int _)) (fun hq => EvD.is (evd_II (evd_II (evd_var rfl (.int _)) (evd_var rfl (.int _))) (evd_var rfl (.int _))) (by congr 1; omega))) (evv_var rfl) (evd_var rfl (.int _)) hp7 (ixN_nat (by rw [nats_len]; simp; omega)) fun H8 b8 l8 => ?_
        have e8 := b8.ex e7 np0
        refine ⟨_, _, _, _, as ++ [x], rest', ps', rfl, e8, hq7.keepB b8 pq.symm hp7.noTup, by rw [farE_len hfe]; exact hps, ?_, by simp [has], hfr, by rw [List.append_assoc]; exact happ⟩
        rw [nats_set] at l8
        have ea : (as ++ List.replicate (m + 1) 0).set i x = as ++ [x] ++ List.replicate m 0 := by
          rw [List.set_append_right _ _ (by omega), has, Nat.sub_self, List.replicate_succ, List.set_cons_zero, List.append_assoc]; rfl
        rw [ea] at l8
        exact l8
      · rintro J j σ' H' hj ⟨g, bb, pg, at_, qs, rfl, e', hq, hps, hpl, hat, hfw⟩
        obtain ⟨f, hf⟩ : ∃ f, 2 * n + 2 - j = f + 1 := ⟨2 * n + 1 - j, by omega⟩
        have hf1 : 2 * n + 2 - (j + 1) = f := by omega
        rw [hf] at hfw
        rw [hf1]
        have tM' := tM.ex e'
        have tL' := tL.ex e'
        refine s_seq (s_asgI (n := (at_ : Int)) (evd_if (evt_test (evd_var rfl (.bl _))) (fun hq => (evd_ixT (evd_ixT (evd_var rfl tM') evd_int rfl) (evd_var rfl (.int _)) ?_)) (fun hq => (evd_ixT (evd_ixT (evd_var rfl tL') evd_int rfl) (evd_var rfl (.int _)) ?_))) fun H3 e3 => ?_)
        · rw [if_pos hq] at hat
          exact at_nat (nats_get hat)
        · rw [hq] at hat
          exact at_nat (nats_get hat)
        refine s_seq (s_if (evt_or (evt_and (evt_test (evd_var rfl (.bl _))) fun _ => (evt_test (evd_IB (evd_var rfl (.int _)) (evd_var rfl (.int _))))) fun _ => (evt_and (evt_not (evt_test (evd_var rfl (.bl _)))) fun _ => (evt_test (evd_IB (evd_var rfl (.int _)) (evd_var rfl (.int _)))))) (fun hb H4 e4 => ?_) (fun hb H4 e4 => ?_))
        · have hx : at_ = x ∧ qs = ps' := by
            cases bb with
            | true =>
              have h1 : at_ < n := by simpa using hb
              unfold farW at hfw
              rw [if_pos h1] at hfw; cases hfw; exact ⟨rfl, rfl⟩
            | false =>
              have h1 : n ≤ at_ := by simpa using hb
              unfold farW at hfw
              rw [if_pos h1] at hfw
              split at hfw
              · cases hfw; exact ⟨rfl, rfl⟩
              · cases hfw
          obtain ⟨rfl, rfl⟩ := hx
          have e34 := e3.trans e4
          exact J _ _ ⟨_, _, rfl, e'.trans e34, hq.ex e34, hpl.ex e34⟩
        · refine s_next ?_
          cases bb with
          | true =>
            have h1 : ¬ at_ < n := by simpa using hb
            unfold farW at hfw
            rw [if_neg h1] at hfw
            by_cases h2 : at_ - n < n
            · rw [if_pos h2] at hfw
              cases hL : L[at_ - n]? with
              | none => rw [hL] at hfw; cases hfw
              | some b' =>
              rw [hL] at hfw
              refine s_seq (s_asgI (n := ((at_ - n : Nat) : Int)) (EvD.is (evd_if (d := .int ((at_ : Int) - n)) (evt_test (evd_var rfl (.bl true))) (fun _ => (evd_II (evd_var rfl (.int _)) (evd_var rfl (.int _)))) (fun q => by cases q)) (by congr 1; omega)) fun H5 e5 => ?_)
              refine s_seq (s_asgB (b := false) (evd_not (a := true) (evd_var rfl (.bl _))) fun H6 e6 => ?_)
              have e7 := ((e3.trans e4).trans e5).trans e6
              refine s_setB (j := at_ - n) evd_bl (evv_var rfl) (evd_if (b := false) (evt_test (evd_var rfl (.bl _))) (fun q => by cases q) (fun _ => evd_var rfl (.int _))) (hq.ex e7) (ixN_nat (by rw [bools_len, hps]; exact h2)) fun H8 b8 l8 => ?_
              rw [bools_set] at l8
              exact ⟨_, false, at_ - n, b', _, rfl, b8.ex (e'.trans e7) nq0, l8, by rw [List.length_set]; exact hps, (hpl.ex e7).keepB b8 pq (hq.ex e7).noTup, hL, hfw⟩
            · rw [if_neg h2] at hfw; cases hfw
          | false =>
            have h1 : ¬ n ≤ at_ := by simpa using hb
            unfold farW at hfw
            rw [if_neg h1] at hfw
            cases hL : M[n + at_]? with
            | none => rw [hL] at hfw; cases hfw
            | some b' =>
            rw [hL] at hfw
            refine s_seq (s_asgI (n := ((n + at_ : Nat) : Int)) (EvD.is (evd_if (d := .int ((at_ : Int) + n)) (evt_test (evd_var rfl (.bl false))) (fun q => by cases q) (fun _ => (evd_II (evd_var rfl (.int _)) (evd_var rfl (.int _))))) (by congr 1; omega)) fun H5 e5 => ?_)
            refine s_seq (s_asgB (b := true) (evd_not (a := false) (evd_var rfl (.bl _))) fun H6 e6 => ?_)
            have e7 := ((e3.trans e4).trans e5).trans e6
            refine s_setB (j := at_) (i := ((n + at_ : Nat) : Int) - (n : Int)) evd_bl (evv_var rfl) (evd_if (b := true) (evt_test (evd_var rfl (.bl _))) (fun _ => (evd_II (evd_var rfl (.int _)) (evd_var rfl (.int _)))) (fun q => by cases q)) (hq.ex e7) (by rw [show ((n + at_ : Nat) : Int) - (n : Int) = (at_ : Int) by omega]; exact ixN_nat (by rw [bools_len, hps]; omega)) fun H8 b8 l8 => ?_
            rw [bools_set] at l8
            exact ⟨_, true, n + at_, b', _, rfl, b8.ex (e'.trans e7) nq0, l8, by rw [List.length_set]; exact hps, (hpl.ex e7).keepB b8 pq (hq.ex e7).noTup, hL, hfw⟩
      · rintro σ' H' ⟨g, bb, pg, at_, qs, rfl, e', hq, hps, hpl, hat, hfw⟩
        rw [show 2 * n + 2 - Int.toNat (2 * (n : Int) + 2) = 0 by omega] at hfw
        cases hfw
    · rintro σ' H' ⟨c, d, e, f, as, rest, ps, rfl, e', hq, hps, hpl, has, hff, happ⟩
      have e2n : Int.toNat ((n : Int) + (n : Int)) = 2 * n := by omega
      rw [e2n, Nat.sub_self] at hff
      cases hff
      rw [e2n, Nat.sub_self, List.replicate_zero, List.append_nil] at hpl
      rw [List.append_nil] at happ
      rw [happ] at hpl
      refine s_seq (s_forR1 (evd_var rfl (.int _)) (by omega) (fun i σ' H' => ∃ (r0 : Nat) (c d e f : Option V) (qs : List Bool), σ' = [some a, some b, some (.int n), some (.int n), some (.int n), some (.ref p), some (.ref q), some (.int r0), c, d, e, f] ∧ Ex H H' ∧ Ls H' q (bools qs) ∧ qs.length = n ∧ Ls H' p (nats Kk) ∧ ringsL n M L (n - i) i r0 qs = some r)
        (fun H4 e4 => ⟨0, _, _, _, _, _, rfl, e'.trans e4, hq.ex e4, hps, hpl.ex e4, hrr⟩) ?_ ?_)
      · rintro i σ' H' hi ⟨r0, c, d, e, f, qs, rfl, e', hq, hql, hpl, hrl⟩
        have hi : i < n := by omega
        obtain ⟨m, hm⟩ : ∃ m, n - i = m + 1 := ⟨n - i - 1, by omega⟩
        have hm1 : n - (i + 1) = m := by omega
        rw [hm] at hrl
        rw [hm1]
        have hg : qs[i]? = some qs[i] := List.getElem?_eq_getElem (by omega)
        unfold ringsL at hrl
        rw [hg] at hrl
        dsimp only at hrl
        cases hrp : ringL n M L n i qs with
        | none => rw [hrp] at hrl; cases hrl
        | some qs' =>
        rw [hrp] at hrl
        refine s_seq (s_asgI (n := ((r0 + if qs[i] then 0 else 1 : Nat) : Int)) (EvD.is (evd_II (evd_var rfl (.int _)) (evd_intB (evd_not (evd_ixL (evv_var rfl) hq (evd_var rfl (.int _)) (at_nat (bools_get hg)))))) (by congr 1; cases qs[i] <;> rfl)) fun H4 e4 => ?_)
        refine s_seq (s_asgI (evd_var rfl (.int _)) fun H5 e5 => ?_)
        refine s_forR1 (evd_var rfl (.int _)) (by omega) (fun j σ' H' => ∃ (f : Option V) (at_ : Nat) (qs2 : List Bool), σ' = [some a, some b, some (.int n), some (.int n), some (.int n), some (.ref p), some (.ref q), some (.int ((r0 + if qs[i] then 0 else 1 : Nat) : Int)), some (.int i), d, some (.int at_), f] ∧ Ex H H' ∧ Ls H' q (bools qs2) ∧ qs2.length = n ∧ Ls H' p (nats Kk) ∧ ringL n M L (n - j) at_ qs2 = some qs')
          (fun H6 e6 => ⟨_, i, qs, rfl, e'.trans ((e4.trans e5).trans e6), hq.ex ((e4.trans e5).trans e6), hql, hpl.ex ((e4.trans e5).trans e6), hrp⟩) ?_ ?_
        · rintro j σ' H' hj ⟨f, at_, qs2, rfl, e', hq, hql, hpl, hrp⟩
          obtain ⟨mm, hmm⟩ : ∃ mm, n - j = mm + 1 := ⟨n - j - 1, by omega⟩
          have hmm1 : n - (j + 1) = mm := by omega
          rw [hmm] at hrp
          rw [hmm1]
          unfold ringL at hrp
          cases hg : qs2[at_]? with
          | none => rw [hg] at hrp; cases hrp
          | some bb =>
          rw [hg] at hrp
          refine s_if (evt_not (evt_test (evd_ixL (evv_var rfl) hq (evd_var rfl (.int _)) (at_nat (bools_get hg))))) (fun hb H7 e7 => ?_) (fun hb H7 e7 => ?_)
          · have hb : bb = false := by simpa using hb
            subst hb
            dsimp only at hrp
            have hlt : at_ < n := by have := (List.getElem?_eq_some_iff.mp hg).1; omega
            cases hL : L[at_]? with
            | none => rw [hL] at hrp; cases hrp
            | some y =>
            rw [hL] at hrp
            dsimp only at hrp
            by_cases hy : y < n
            · rw [if_pos hy] at hrp
              cases hM : M[n + y]? with
              | none => rw [hM] at hrp; cases hrp
              | some x =>
              rw [hM] at hrp
              dsimp only at hrp
              by_cases hx : n ≤ x
              · rw [if_pos hx] at hrp
                refine s_seq (s_setB (j := at_) evd_bl (evv_var rfl) (evd_var rfl (.int _)) (hq.ex e7) (ixN_nat (by rw [bools_len, hql]; exact hlt)) fun H8 b8 l8 => ?_)
                rw [bools_set] at l8
                have e8 := b8.ex (e'.trans e7) nq0
                refine s_seq (s_asgI (evd_ixT (evd_ixT (evd_var rfl (tL.ex e8)) evd_int rfl) (evd_var rfl (.int _)) (at_nat (nats_get hL))) fun H9 e9 => ?_)
                refine s_seq (s_setB (j := y) evd_bl (evv_var rfl) (evd_var rfl (.int _)) (l8.ex e9) (ixN_nat (by rw [bools_len, List.length_set, hql]; exact hy)) fun H10 b10 l10 => ?_)
                rw [bools_set] at l10
                have e10 := b10.ex (e8.trans e9) nq0
                have hpl10 : Ls H10 p (nats Kk) := (((hpl.ex e7).keepB b8 pq (hq.ex e7).noTup).ex e9).keepB b10 pq (l8.ex e9).noTup
                refine s_asgI (n := ((x - n : Nat) : Int)) (EvD.is (evd_II (evd_ixT (evd_ixT (evd_var rfl (tM.ex e10)) evd_int rfl) (evd_II (evd_var rfl (.int _)) (evd_var rfl (.int _))) (at_nat (i := n + y) (nats_get hM))) (evd_var rfl (.int _))) (by congr 1; omega)) fun H11 e11 => ?_
                exact ⟨_, x - n, _, rfl, e10.trans e11, l10.ex e11, by rw [List.length_set, List.length_set]; exact hql, hpl10.ex e11, hrp⟩
              · rw [if_neg hx] at hrp; cases hrp
            · rw [if_neg hy] at hrp; cases hrp
          · have hb : bb = true := by simpa using hb
            subst hb
            exact s_next ⟨_, at_, qs2, rfl, e'.trans e7, hq.ex e7, hql, hpl.ex e7, hrp⟩
        · rintro σ' H' ⟨f, at_, qs2, rfl, e', hq, hql, hpl, hrp⟩
          rw [show n - Int.toNat (n : Int) = 0 by omega] at hrp
          cases hrp
          exact ⟨_, _, _, _, _, _, rfl, e', hq, hql, hpl, hrl⟩
      · rintro σ' H' ⟨r0, c, d, e, f, qs, rfl, e', hq, hql, hpl, hrl⟩
        rw [show n - Int.toNat (n : Int) = 0 by omega] at hrl
        cases hrl
        exact s_ret (evd_tup (eva_cons (evd_var rfl (.int _)) (eva_cons (evd_tup (eva_cons (evd_var rfl (.int _)) (eva_cons (evd_var rfl (.int _)) (eva_cons (evd_tupL (evv_var rfl) hpl) eva_nil)))) eva_nil))) fun v H5 e5 t5 => k v H5 (e'.trans e5) t5
end
end Hk


namespace Hk
open PySem PySem.Spec PyProof.Rows L2
theorem cutD_take {ds : List PyData} {s : Nat} (h : s ≤ ds.length) : cutD ds none (some (s : Int)) = ds.take s := by
  unfold cutD
  rw [HT.sIx_none, HT.sIx_nat, Nat.min_eq_left h, Nat.sub_zero, List.drop_zero]
def intL (l : List Int) : List PyData := l.map PyData.int
theorem intL_len (l : List Int) : (intL l).length = l.length := by unfold intL; simp
theorem intL_at {l : List Int} {i : Nat} {k : Int} (h : l[i]? = some k) : atI (intL l) (i : Int) = some (.int k) := at_nat (ints_get h)
theorem intL_set (l : List Int) (i : Nat) (k : Int) : (intL l).set i (.int k) = intL (l.set i k) := by unfold intL; rw [List.map_set]
theorem intL_app (l m : List Int) : intL l ++ intL m = intL (l ++ m) := by unfold intL; rw [List.map_append]
theorem intL_rep (n : Nat) : List.replicate n (PyData.int 0) = intL (List.replicate n 0) := by unfold intL; rw [List.map_replicate]
theorem intL_take (l : List Int) (n : Nat) : (intL l).take n = intL (l.take n) := by unfold intL; rw [List.map_take]
section
variable {K : PySem.W.Frag} {σ : L2.St} {H : Hp} {ta tb : TE}
theorem evt_yes : EvT tYes σ H true := fun H1 e Q q => q H1 (Ex.refl _)
theorem evv_ixL {l : Addr} {xs : List V} {i : Int} {v : V} (ha : EvV ta σ H (.ref l)) (hx : H l = some (.lst xs)) (hb : EvD tb σ H (.int i)) (h : atI xs i = some v) : EvV (tOp (rIxL K) ta tb) σ H v :=
  fun H1 e1 Q q => ha H1 e1 _ fun H2 e2 => hb H2 (e1.trans e2) _ fun y H3 e3 ty => ⟨l, xs, i, v, rfl, ty.int_inv, SqL.of (((e1.trans e2).trans e3) _ _ hx), h, q H3 (e2.trans e3)⟩
end
/-- bounded coefficients -/
def Bd (p : List Int) : Prop := ∀ c ∈ p, c.natAbs < 2 ^ 900
theorem Bd.get {p : List Int} (h : Bd p) (i : Nat) : (p.getD i 0).natAbs < 2 ^ 1000 := by
  rw [List.getD_eq_getElem?_getD]
  cases e : p[i]? with
  | none => exact Nat.two_pow_pos _
  | some c => exact Nat.lt_trans (h c (List.mem_of_getElem? e)) (Nat.pow_lt_pow_right (by decide) (by decide))
local macro_rules | `(tactic| walk_at "tp") => `(tactic| first | assumption | exact .int _ | exact .bl _ | solve_by_elim (maxDepth := 6) [Tp.ex])
section
variable {P : Program} {w : World} {K : PySem.W.Frag} {mg : Str → Option Value} {base : Heap}
abbrev sp_law_straight : Sp := spD fun ds d => ∃ n : Nat, ds = [.int n] ∧ n ≤ 6 ∧ d = dMat n (strM n)
theorem sc_law_straight : FnScope ["_law_size"] ["_law_size"] (defScope (top 56)) := ⟨rfl, rfl, rfl, by decide +kernel, rfl, by decide +kernel, by decide +kernel⟩
theorem w_law_straight (B : Bt mg) (D : DefIn K mg "_law_straight" (top 56))   : Cal P w K mg base CX0 1 "_law_straight" ["_law_size"] (sp_law_straight) := by
  obtain ⟨f, fd, F, g⟩ := D.ex
  refine ⟨f, fd, F.ok sc_law_straight (fun vs H Q E h => ?_) (fun cdv A outer s H vs Q E hr h => ?_), g, F.kp, F.binds (ps := ["_law_size"]) fun _ _ _ _ _ _ us hl => match us, hl with | [_], _ => rfl⟩
  · obtain ⟨d, ⟨ds, t, n, rfl, _⟩, _⟩ := h
    exact t.length
  · obtain ⟨d, ⟨ds, t, n, rfl, h6, rfl⟩, k⟩ := h
    obtain ⟨w0, rfl, t1⟩ := t.i1
    cases t1.int_inv
    refine ⟨_, (pss_one (ps_ret (pe_tup (pa_cons (pv 0) (pa_cons (pv 0) (pa_cons (pe_tupleOf (by rfl) B.tuple (pe_op op_cat (pe_listRg rfl (by rfl) B.list (prg_2 (by rfl) B.range (pv 0) (pe_op op_mulW pe_int (pv 0)))) (pe_listRg rfl (by rfl) B.list (prg_1 (by rfl) B.range (pv 0))))) pa_nil)))))), ?_⟩
    refine s_ret (d := dMat n (strM n)) ?_ (fun v H2 e2 t2 => k v H2 e2 t2)
    refine evd_tup (eva_cons (evd_var rfl (.int _)) (eva_cons (evd_var rfl (.int _)) (eva_cons (evd_tupN (ds := nats (strM n)) ?_) eva_nil)))
    unfold strM
    rw [← nats_app]
    exact evn_cat (evn_rg2 (evd_var rfl (.int _)) (evd_IC evd_int (evd_var rfl (.int _)) (mulW (by decide) (by omega))) (by omega) (by omega)) (evn_rg1 (evd_var rfl (.int _)) (by omega)) (by rw [nats_len, nats_len]; simp; omega)
abbrev sp_law_hook : Sp := spD fun ds d => ∃ n i : Nat, ds = [.int n, .int i] ∧ i + 1 < n ∧ n ≤ 6 ∧ d = dMat n (hookM n i)
theorem sc_law_hook : FnScope ["_law_size", "_law_i", "_law_mates"] ["_law_size", "_law_i"] (defScope (top 55)) := ⟨rfl, rfl, rfl, by decide +kernel, rfl, by decide +kernel, by decide +kernel⟩
theorem w_law_hook (B : Bt mg) (D : DefIn K mg "_law_hook" (top 55))   : Cal P w K mg base CX0 1 "_law_hook" ["_law_size", "_law_i"] (sp_law_hook) := by
  obtain ⟨f, fd, F, g⟩ := D.ex
  refine ⟨f, fd, F.ok sc_law_hook (fun vs H Q E h => ?_) (fun cdv A outer s H vs Q E hr h => ?_), g, F.kp, F.binds (ps := ["_law_size", "_law_i"]) fun _ _ _ _ _ _ us hl => match us, hl with | [_, _], _ => rfl⟩
  · obtain ⟨d, ⟨ds, t, n, i, rfl, _⟩, _⟩ := h
    exact t.length
  · obtain ⟨d, ⟨ds, t, n, i, rfl, hi, h6, rfl⟩, k⟩ := h
    obtain ⟨w0, w1, rfl, t1, t2⟩ := t.i2
    cases t1.int_inv; cases t2.int_inv
    refine ⟨_, (pss_cons (ps_set (i := 2) sc_law_hook.nd rfl (Or.inl rfl) (pe_op op_cat (pe_listRg rfl (by rfl) B.list (prg_2 (by rfl) B.range (pv 0) (pe_op op_mulW pe_int (pv 0)))) (pe_listRg rfl (by rfl) B.list (prg_1 (by rfl) B.range (pv 0)))))
  (pss_cons (ps_asg (pe_tup (pa_cons (pe_op op_add (pv 1) pe_int) (pa_cons (pv 1) (pa_cons (pe_op op_add (pe_op op_add (pv 0) (pv 1)) pe_int) (pa_cons (pe_op op_add (pv 0) (pv 1)) pa_nil))))) (pg_tup rfl (pgs_cons (pg_sub (pv 2) (pv 1) set_list) (pgs_cons (pg_sub (pv 2) (pe_op op_add (pv 1) pe_int) set_list) (pgs_cons (pg_sub (pv 2) (pe_op op_add (pv 0) (pv 1)) set_list) (pgs_cons (pg_sub (pv 2) (pe_op op_add (pe_op op_add (pv 0) (pv 1)) pe_int) set_list) pgs_nil))))))
  (pss_one (ps_ret (pe_tup (pa_cons (pv 0) (pa_cons (pv 0) (pa_cons (pe_tupleOf (by rfl) B.tuple (pv 2)) pa_nil)))))))), ?_⟩
    refine s_seq (s_asgN (ds := nats (strM n)) ?_ fun p H3 np e3 l3 => ?_)
    · unfold strM
      rw [← nats_app]
      exact evn_cat (evn_rg2 (evd_var rfl (.int _)) (evd_IC evd_int (evd_var rfl (.int _)) (mulW (by decide) (by omega))) (by omega) (by omega)) (evn_rg1 (evd_var rfl (.int _)) (by omega)) (by rw [nats_len, nats_len]; simp; omega)
    have ls : (strM n).length = 2 * n := by unfold strM; simp; omega
    refine s_seq (s_asgG (evd_tup (eva_cons (evd_II (evd_var rfl (.int _)) evd_int) (eva_cons (evd_var rfl (.int _)) (eva_cons (evd_II (evd_II (evd_var rfl (.int _)) (evd_var rfl (.int _))) evd_int) (eva_cons (evd_II (evd_var rfl (.int _)) (evd_var rfl (.int _))) eva_nil))))) fun v H4 e4 t4 => ?_)
    refine g_four t4 fun x y z z' tx ty tz tz' => ?_
    refine g_sub (evv_var rfl) (evd_var rfl (.int _)) (l3.ex e4) (ixN_nat (by rw [nats_len, ls]; omega)) tx fun H5 b5 l5 => ?_
    have k5 : TK H4 H5 := b5.tk (l3.ex e4).noTup
    refine ⟨_, _, rfl, g_sub (j := i + 1) (evv_var rfl) (evd_II (evd_var rfl (.int _)) evd_int) l5 ?_ (ty.mono k5) fun H6 b6 l6 => ?_⟩
    · exact ixN_nat (j := i + 1) (by rw [List.length_set, nats_len, ls]; omega)
    have k6 : TK H5 H6 := b6.tk l5.noTup
    refine ⟨_, _, rfl, g_sub (j := n + i) (evv_var rfl) (evd_II (evd_var rfl (.int _)) (evd_var rfl (.int _))) l6 ?_ (tz.mono (k5.trans k6)) fun H8 b8 l8 => ?_⟩
    · exact ixN_nat (j := n + i) (by rw [List.length_set, List.length_set, nats_len, ls]; omega)
    have k8 : TK H6 H8 := b8.tk l6.noTup
    refine ⟨_, _, rfl, g_sub (j := n + i + 1) (evv_var rfl) (evd_II (evd_II (evd_var rfl (.int _)) (evd_var rfl (.int _))) evd_int) l8 ?_ (tz'.mono ((k5.trans k6).trans k8)) fun H9 b9 l9 => ⟨rfl, ?_⟩⟩
    · exact ixN_nat (j := n + i + 1) (by rw [List.length_set, List.length_set, List.length_set, nats_len, ls]; omega)
    have e0 : Ex H H9 := (((b5.trans b6).trans (b8.trans b9)).ex (e3.trans e4) np)
    have el : nats (hookM n i) = ((((nats (strM n)).set i (.int ((i : Int) + 1))).set (i + 1) (.int (i : Int))).set (n + i) (.int ((n : Int) + (i : Int) + 1))).set (n + i + 1) (.int ((n : Int) + (i : Int))) := by
      unfold hookM
      rw [← nats_set, ← nats_set, ← nats_set, ← nats_set]
      rfl
    rw [← el] at l9
    exact s_ret (evd_tup (eva_cons (evd_var rfl (.int _)) (eva_cons (evd_var rfl (.int _)) (eva_cons (evd_tupL (evv_var rfl) l9) eva_nil)))) fun v H2 e2 t2 => k v H2 (e0.trans e2) t2
abbrev sp_law_down : Sp := spD fun ds d => ∃ n M, ds = [dMat n M] ∧ n ≤ 6 ∧ M.length = 2 * n ∧ (∀ x ∈ M, x < 2 * n) ∧ d = dMat n (downM n M)
theorem sc_law_down : FnScope ["_law_thing", "_law_n", "_law_m", "_law_mates", "_law_spots", "_law_row_here", "_law_p"] ["_law_thing"] (defScope (top 57)) := ⟨rfl, rfl, rfl, by decide +kernel, rfl, by decide +kernel, by decide +kernel⟩
theorem w_law_down (B : Bt mg) (D : DefIn K mg "_law_down" (top 57))   : Cal P w K mg base CX0 1 "_law_down" ["_law_thing"] (sp_law_down) := by
  obtain ⟨f, fd, F, g⟩ := D.ex
  refine ⟨f, fd, F.ok sc_law_down (fun vs H Q E h => ?_) (fun cdv A outer s H vs Q E hr h => ?_), g, F.kp, F.binds (ps := ["_law_thing"]) fun _ _ _ _ _ _ us hl => match us, hl with | [_], _ => rfl⟩
  · obtain ⟨d, ⟨ds, t, n, M, rfl, _⟩, _⟩ := h
    exact t.length
  · obtain ⟨d, ⟨ds, t, n, M, rfl, h6, lM, hM, rfl⟩, k⟩ := h
    obtain ⟨w0, rfl, t1⟩ := t.i1
    refine ⟨_, (pss_cons (ps_asg (pv 0) (pg_tup rfl (pgs_cons (pg_name (i := 1) sc_law_down.nd rfl (Or.inl rfl)) (pgs_cons (pg_name (i := 2) sc_law_down.nd rfl (Or.inr rfl)) (pgs_cons (pg_name (i := 3) sc_law_down.nd rfl (Or.inl rfl)) pgs_nil)))))
  (pss_cons (ps_set (i := 4) sc_law_down.nd rfl (Or.inl rfl) (pe_op op_cat (pe_lc (own := [("_law_p", 6)]) (g := (gName 6)) rfl sc_law_down.nd (pi_range1 (by rfl) B.range (pa_cons (pv 1) pa_nil)) (blkOk_by (N := ["_law_thing", "_law_n", "_law_m", "_law_mates", "_law_spots", "_law_row_here", "_law_p"]) (sc := defScope (top 57)) (by decide +kernel)) (fun _ _ _ _ _ => (pg_name (i := 6) sc_law_down.nd rfl (Or.inl rfl))) (fun _ _ _ _ _ => pts_nil) (fun _ _ _ _ _ => (pe_op op_add (pv 2) (pv 6)))) (pe_listRg rfl (by rfl) B.list (prg_1 (by rfl) B.range (pv 2)))))
  (pss_cons (ps_set (i := 5) sc_law_down.nd rfl (Or.inl rfl) (pe_op op_rep (pe_lst (pa_cons pe_int pa_nil)) (pe_op op_add (pv 1) (pv 2))))
  (pss_cons (ps_for PassesOwn.never rfl (pi_range1 (by rfl) B.range (pa_cons (pe_op op_add (pv 1) (pv 2)) pa_nil)) (pg_name (i := 6) sc_law_down.nd rfl (Or.inl rfl))
  (pss_one (ps_asg (pe_ix ix_list (pv 4) (pe_ix ix_tup (pv 3) (pv 6) (fun _ _ => rfl)) (fun _ _ => rfl)) (pg_sub (pv 5) (pe_ix ix_list (pv 4) (pv 6) (fun _ _ => rfl)) set_list))))
  (pss_one (ps_ret (pe_tup (pa_cons (pv 2) (pa_cons (pv 1) (pa_cons (pe_tupleOf (by rfl) B.tuple (pv 5)) pa_nil)))))))))), ?_⟩
    refine s_seq (s_asgG (evd_var rfl t1) fun v H1 e1 t1 => g_tup3 t1 fun x y z tx ty tz => ?_)
    cases tx.int_inv; cases ty.int_inv
    have hpl : List.range' n n = (List.range n).map fun k => n + k := by rw [List.range'_eq_map_range]
    dsimp only
    refine s_seq (s_asgN (ds := nats (List.range' n n ++ List.range n)) ?_ fun l H2 nl e2 ll => ?_)
    · rw [← nats_app]
      refine evn_cat ?_ (evn_rg1 (evd_var rfl (.int _)) (by omega)) (by rw [nats_len, nats_len]; simp; omega)
      have e0 : nats (List.range' n n) = (((List.range n).map fun (k : Nat) => PyData.int ((n : Int) + (k : Int))).map some).filterMap id := by
        rw [filt_all, hpl]; unfold nats; rw [List.map_map]; exact List.map_congr_left fun k _ => by show PyData.int _ = PyData.int _; congr 1
      rw [e0]
      refine evn_lcR (n := n) (evd_var rfl (.int _)) (by simp) (by simp; omega) fun i o H' e' ho => ⟨_, fun R r => r, rfl, ?_, ?_⟩
      · have : o = some (.int ((n : Int) + (i : Int))) := by
          rw [List.getElem?_map, List.getElem?_map] at ho
          have hi : i < n := by
            by_cases h : i < n
            · exact h
            · rw [List.getElem?_eq_none (by simp; omega)] at ho; cases ho
          rw [List.getElem?_range hi] at ho
          exact (Option.some.inj ho).symm
        rw [this]; exact evt_yes
      · rintro e rfl
        have : e = (.int ((n : Int) + (i : Int))) := by
          rw [List.getElem?_map, List.getElem?_map] at ho
          have hi : i < n := by
            by_cases h : i < n
            · exact h
            · rw [List.getElem?_eq_none (by simp; omega)] at ho; cases ho
          rw [List.getElem?_range hi] at ho
          exact (Option.some.inj (Option.some.inj ho)).symm
        rw [this]
        exact evd_II (evd_var rfl (.int _)) (evd_var rfl (.int _))
    generalize hpp : List.range' n n ++ List.range n = pl at ll
    have lp : pl.length = 2 * n := by rw [← hpp]; simp; omega
    have hp : ∀ x ∈ pl, x < 2 * n := by rw [← hpp]; intro x hx; simp [List.mem_range'] at hx; omega
    refine s_seq (s_asgN (evn_rep1 (evn_lst (eva_cons evd_int eva_nil)) (evd_II (evd_var rfl (.int _)) (evd_var rfl (.int _))) (by omega) (by omega)) fun p H3 np e3 hr1 => ?_)
    rw [nats_rep, show ((n : Int) + (n : Int)).toNat = 2 * n by omega] at hr1
    have hl := ll.ex e3
    have hne : l ≠ p := ll.ne_none np
    have e03 := (e1.trans e2).trans e3
    have np0 : H p = none := (e1.trans e2).back np
    refine s_seq (s_forR1 (n := (n : Int) + n) (evd_II (evd_var rfl (.int _)) (evd_var rfl (.int _))) (by omega) (fun i σ' H' => ∃ a, σ' = [some w0, some (.int n), some (.int n), some z, some (.ref l), some (.ref p), a] ∧ Ex H H' ∧ Ls H' l (nats pl) ∧ Tp H' z (dN M) ∧ Ls H' p (nats ((List.range i).foldl (remF pl M) (List.replicate (2 * n) 0))))
      (fun Hs es => ⟨_, rfl, e03.trans es, hl.ex es, tz.ex ((e2.trans e3).trans es), hr1.ex es⟩) ?_ ?_)
    · rintro i σ' H' hi ⟨a, rfl, e', hl', tz', lr⟩
      have hi : i < 2 * n := by omega
      obtain ⟨m, hm⟩ : ∃ m, M[i]? = some m := ⟨M[i], List.getElem?_eq_getElem (by omega)⟩
      have hm' : m < 2 * n := hM m (List.mem_of_getElem? hm)
      have g1 : pl[i]? = some pl[i] := List.getElem?_eq_getElem (by omega)
      have g2 : pl[m]? = some pl[m] := List.getElem?_eq_getElem (by omega)
      have hpi : pl[i] < 2 * n := hp _ (List.getElem_mem _)
      refine s_setB (evd_ixL (evv_var rfl) hl' (evd_ixT (evd_var rfl tz') (evd_var rfl (.int _)) (at_nat (nats_get hm))) (at_nat (nats_get g2))) (evv_var rfl) (evd_ixL (evv_var rfl) hl' (evd_var rfl (.int _)) (at_nat (nats_get g1))) lr (ixN_nat (j := pl[i]) ?_) fun H3 b3 l3 => ?_
      · rw [nats_len]
        have : ∀ (l : List Nat) (r : List Nat), (l.foldl (remF pl M) r).length = r.length := by
          intro l
          induction l with
          | nil => intro r; rfl
          | cons x l ih => intro r; rw [List.foldl_cons, ih]; unfold remF; simp
        rw [this]; simp; omega
      · refine ⟨_, rfl, b3.ex e' np0, hl'.keepB b3 hne lr.noTup, tz'.mono (b3.tk lr.noTup), ?_⟩
        rw [List.range_succ, List.foldl_append]
        rw [nats_set] at l3
        have er : remF pl M ((List.range i).foldl (remF pl M) (List.replicate (2 * n) 0)) i = ((List.range i).foldl (remF pl M) (List.replicate (2 * n) 0)).set pl[i] pl[m] := by
          unfold remF
          rw [List.getD_eq_getElem?_getD, List.getD_eq_getElem?_getD, List.getD_eq_getElem?_getD, hm, g1]; show List.set _ _ (pl[m]?.getD 0) = _; rw [g2]; rfl
        show Ls H3 p (nats (remF pl M _ i))
        rw [er]; exact l3
    · rintro σ' H' ⟨a, rfl, e', hl', tz', lr⟩
      rw [show ((n : Int) + (n : Int)).toNat = 2 * n by omega] at lr
      have er : (List.range (2 * n)).foldl (remF pl M) (List.replicate (2 * n) 0) = downM n M := by unfold downM remM; rw [hpp]
      rw [er] at lr
      exact s_ret (evd_tup (eva_cons (evd_var rfl (.int _)) (eva_cons (evd_var rfl (.int _)) (eva_cons (evd_tupL (evv_var rfl) lr) eva_nil)))) fun v H2 e2 t2 => k v H2 (e'.trans e2) t2
abbrev sp_cut_p : Sp := spP fun H vs d => ∃ (l : Addr) (xs : List Int), vs = [.ref l] ∧ Ls H l (intL xs) ∧ xs.length ≤ 1000 ∧ d = dP (cutL xs)
theorem sc_cut_p : FnScope ["row", "size"] ["row"] (defScope (top 23)) := ⟨rfl, rfl, rfl, by decide +kernel, rfl, by decide +kernel, by decide +kernel⟩
theorem w_cut_p (B : Bt mg) (D : DefIn K mg "cut_p" (top 23))   : Cal P w K mg base CX0 1 "cut_p" ["row"] (sp_cut_p) := by
  obtain ⟨f, fd, F, g⟩ := D.ex
  refine ⟨f, fd, F.ok sc_cut_p (fun vs H Q E h => ?_) (fun cdv A outer s H vs Q E hr h => ?_), g, F.kp, F.binds (ps := ["row"]) fun _ _ _ _ _ _ us hl => match us, hl with | [_], _ => rfl⟩
  · obtain ⟨d, ⟨l, xs, rfl, _⟩, _⟩ := h; rfl
  · obtain ⟨d, ⟨l, xs, rfl, hl, hz, rfl⟩, k⟩ := h
    refine ⟨_, (pss_cons (ps_set (i := 1) sc_cut_p.nd rfl (Or.inl rfl) (pe_callB call_lenA (by rfl) B.len PySem.boot_len (pa_cons (pv 0) pa_nil)))
  (pss_cons (ps_while PassesOwn.never (PW.pt (pw_and (pt_cmpR op_gt (pv 1) pe_int (nomark _)) (pw_and1 (pt_cmpR op_eq (pe_ix ix_list (pv 0) (pe_op op_sub (pv 1) pe_int) (fun _ _ => rfl)) pe_int (nomark _)))))
  (pss_one (ps_aug (i := 1) sc_cut_p.nd rfl (Or.inl rfl) pe_int ip_sub)))
  (pss_one (ps_ret (pe_tupleOf (by rfl) B.tuple (pe_slice sl_list (pv 0) po_none (po_some (pv 1)))))))), ?_⟩
    refine s_seq (s_asgI (n := (xs.length : Int)) (EvD.is (evd_lenL (evv_var rfl) hl) (by rw [intL_len])) fun H1 e1 => ?_)
    refine s_seq (s_while (fun m σ' H' => ∃ s : Nat, m = s ∧ σ' = [some (.ref l), some (.int s)] ∧ Ex H H' ∧ s ≤ xs.length ∧ cutL (xs.take s) = cutL xs) xs.length ⟨xs.length, rfl, rfl, e1, Nat.le_refl _, by rw [List.take_length]⟩ ?_)
    rintro m σ' H' ⟨s, rfl, rfl, e', hs, hc⟩
    have hl' := hl.ex e'
    have hg : 0 < m → xs[m - 1]? = some (xs.getD (m - 1) 0) := fun h => by
      rw [List.getD_eq_getElem?_getD, List.getElem?_eq_getElem (by omega : m - 1 < xs.length)]; rfl
    refine ⟨_, evt_and (evt_test (evd_IB (evd_var rfl (.int _)) evd_int)) fun hb => (evt_test (evd_eqI (evd_ixL (evv_var rfl) hl' (evd_II (evd_var rfl (.int _)) evd_int) (by
      have h0 : 0 < m := by simpa using hb
      rw [show (m : Int) - 1 = ((m - 1 : Nat) : Int) by omega]
      exact intL_at (hg h0))) evd_int)), fun hb H2 e2 => ⟨fun σ2 H2 => ∃ m', m' < m ∧ _, fun _ _ h => h, ?_⟩, fun hb H2 e2 => ?_⟩
    · simp at hb
      have h1 : (m : Int) - 1 = ((m - 1 : Nat) : Int) := by omega
      refine s_augI rfl evd_int fun H3 e3 => ?_
      rw [h1]
      refine ⟨m - 1, by omega, m - 1, rfl, rfl, e'.trans (e2.trans e3), by omega, ?_⟩
      rw [← hc]
      have : xs.take m = xs.take (m - 1) ++ [0] := by
        obtain ⟨q, rfl⟩ : ∃ q, m = q + 1 := ⟨m - 1, by omega⟩
        rw [show q + 1 - 1 = q by omega] at hg hb ⊢
        rw [List.take_succ_eq_append_getElem (by omega : q < xs.length)]
        have := hg (by omega)
        rw [List.getElem?_eq_getElem (by omega : q < xs.length)] at this
        rw [Option.some.inj this, List.getD_eq_getElem?_getD, hb.2]
      rw [this, cutL_zero]
    · have hcut : cutL xs = xs.take m := by
        rw [← hc]
        rcases Nat.eq_zero_or_pos m with h0 | h0
        · subst h0; rfl
        · obtain ⟨q, rfl⟩ : ∃ q, m = q + 1 := ⟨m - 1, by omega⟩
          rw [show q + 1 - 1 = q by omega] at hg hb
          have := hg (by omega)
          rw [List.getElem?_eq_getElem (by omega : q < xs.length)] at this
          rw [List.take_succ_eq_append_getElem (by omega : q < xs.length)]
          refine cutL_ne _ ?_
          rw [Option.some.inj this, List.getD_eq_getElem?_getD]
          intro e
          simp [e] at hb
      have es : cutD (intL xs) none (some (m : Int)) = (cutL xs).map PyData.int := by
        rw [cutD_take (by rw [intL_len]; exact hs), intL_take, hcut]; rfl
      refine s_ret (EvD.is (evd_tupN (evn_slL (evv_var rfl) (hl'.ex e2) evo_none (evo_some (evd_var rfl (.int _))))) (by rw [es]; rfl)) fun v H3 e3 t3 => k v H3 ((e'.trans e2).trans e3) t3
abbrev sp_law_cut : Sp := spP fun H vs d => ∃ (l : Addr) (xs : List Int), vs = [.ref l] ∧ Ls H l (intL xs) ∧ xs.length ≤ 1000 ∧ d = dP (cutL xs)
theorem sc_law_cut : FnScope ["_law_row_here", "_law_size"] ["_law_row_here"] (defScope (top 50)) := ⟨rfl, rfl, rfl, by decide +kernel, rfl, by decide +kernel, by decide +kernel⟩
theorem w_law_cut (B : Bt mg) (D : DefIn K mg "_law_cut" (top 50))   : Cal P w K mg base CX0 1 "_law_cut" ["_law_row_here"] (sp_law_cut) := by
  obtain ⟨f, fd, F, g⟩ := D.ex
  refine ⟨f, fd, F.ok sc_law_cut (fun vs H Q E h => ?_) (fun cdv A outer s H vs Q E hr h => ?_), g, F.kp, F.binds (ps := ["_law_row_here"]) fun _ _ _ _ _ _ us hl => match us, hl with | [_], _ => rfl⟩
  · obtain ⟨d, ⟨l, xs, rfl, _⟩, _⟩ := h; rfl
  · obtain ⟨d, ⟨l, xs, rfl, hl, hz, rfl⟩, k⟩ := h
    refine ⟨_, (pss_cons (ps_set (i := 1) sc_law_cut.nd rfl (Or.inl rfl) (pe_callB call_lenA (by rfl) B.len PySem.boot_len (pa_cons (pv 0) pa_nil)))
  (pss_cons (ps_while PassesOwn.never (PW.pt (pw_and (pt_cmpR op_gt (pv 1) pe_int (nomark _)) (pw_and1 (pt_cmpR op_eq (pe_ix ix_list (pv 0) (pe_op op_sub (pv 1) pe_int) (fun _ _ => rfl)) pe_int (nomark _)))))
  (pss_one (ps_set (i := 1) sc_law_cut.nd rfl (Or.inl rfl) (pe_op op_sub (pv 1) pe_int))))
  (pss_one (ps_ret (pe_tupleOf (by rfl) B.tuple (pe_slice sl_list (pv 0) po_none (po_some (pv 1)))))))), ?_⟩
    refine s_seq (s_asgI (n := (xs.length : Int)) (EvD.is (evd_lenL (evv_var rfl) hl) (by rw [intL_len])) fun H1 e1 => ?_)
    refine s_seq (s_while (fun m σ' H' => ∃ s : Nat, m = s ∧ σ' = [some (.ref l), some (.int s)] ∧ Ex H H' ∧ s ≤ xs.length ∧ cutL (xs.take s) = cutL xs) xs.length ⟨xs.length, rfl, rfl, e1, Nat.le_refl _, by rw [List.take_length]⟩ ?_)
    rintro m σ' H' ⟨s, rfl, rfl, e', hs, hc⟩
    have hl' := hl.ex e'
    have hg : 0 < m → xs[m - 1]? = some (xs.getD (m - 1) 0) := fun h => by
      rw [List.getD_eq_getElem?_getD, List.getElem?_eq_getElem (by omega : m - 1 < xs.length)]; rfl
    refine ⟨_, evt_and (evt_test (evd_IB (evd_var rfl (.int _)) evd_int)) fun hb => (evt_test (evd_eqI (evd_ixL (evv_var rfl) hl' (evd_II (evd_var rfl (.int _)) evd_int) (by
      have h0 : 0 < m := by simpa using hb
      rw [show (m : Int) - 1 = ((m - 1 : Nat) : Int) by omega]
      exact intL_at (hg h0))) evd_int)), fun hb H2 e2 => ⟨fun σ2 H2 => ∃ m', m' < m ∧ _, fun _ _ h => h, ?_⟩, fun hb H2 e2 => ?_⟩
    · simp at hb
      have h1 : (m : Int) - 1 = ((m - 1 : Nat) : Int) := by omega
      refine s_asgI (evd_II (evd_var rfl (.int _)) evd_int) fun H3 e3 => ?_
      rw [h1]
      refine ⟨m - 1, by omega, m - 1, rfl, rfl, e'.trans (e2.trans e3), by omega, ?_⟩
      rw [← hc]
      have : xs.take m = xs.take (m - 1) ++ [0] := by
        obtain ⟨q, rfl⟩ : ∃ q, m = q + 1 := ⟨m - 1, by omega⟩
        rw [show q + 1 - 1 = q by omega] at hg hb ⊢
        rw [List.take_succ_eq_append_getElem (by omega : q < xs.length)]
        have := hg (by omega)
        rw [List.getElem?_eq_getElem (by omega : q < xs.length)] at this
        rw [Option.some.inj this, List.getD_eq_getElem?_getD, hb.2]
      rw [this, cutL_zero]
    · have hcut : cutL xs = xs.take m := by
        rw [← hc]
        rcases Nat.eq_zero_or_pos m with h0 | h0
        · subst h0; rfl
        · obtain ⟨q, rfl⟩ : ∃ q, m = q + 1 := ⟨m - 1, by omega⟩
          rw [show q + 1 - 1 = q by omega] at hg hb
          have := hg (by omega)
          rw [List.getElem?_eq_getElem (by omega : q < xs.length)] at this
          rw [List.take_succ_eq_append_getElem (by omega : q < xs.length)]
          refine cutL_ne _ ?_
          rw [Option.some.inj this, List.getD_eq_getElem?_getD]
          intro e
          simp [e] at hb
      have es : cutD (intL xs) none (some (m : Int)) = (cutL xs).map PyData.int := by
        rw [cutD_take (by rw [intL_len]; exact hs), intL_take, hcut]; rfl
      refine s_ret (EvD.is (evd_tupN (evn_slL (evv_var rfl) (hl'.ex e2) evo_none (evo_some (evd_var rfl (.int _))))) (by rw [es]; rfl)) fun v H3 e3 t3 => k v H3 ((e'.trans e2).trans e3) t3
end
end Hk


namespace Hk
open PySem PySem.Spec PyProof.Rows L2
theorem dP_len (p : List Int) : (p.map PyData.int).length = p.length := by simp
theorem intL_getD {p : List Int} {i : Nat} (h : i < p.length) : atI (p.map PyData.int) (i : Int) = some (.int (p.getD i 0)) := by
  refine at_nat (ints_get ?_)
  rw [List.getElem?_eq_getElem h, List.getD_eq_getElem?_getD, List.getElem?_eq_getElem h]; rfl
theorem getD_some {p : List Int} {i : Nat} {c : Int} (h : p[i]? = some c) : p.getD i 0 = c := by rw [List.getD_eq_getElem?_getD, h]; rfl
theorem lt_of_get {α : Type} {p : List α} {i : Nat} {c : α} (h : p[i]? = some c) : i < p.length := (List.getElem?_eq_some_iff.mp h).1
theorem foldAt_take {os : List (Nat × Int)} {i : Nat} {o : Nat × Int} (h : os[i]? = some o) (z : List Int) : (os.take (i + 1)).foldl addAt z = addAt ((os.take i).foldl addAt z) o := fold_take h
theorem opsR_get {a b : List Int} {j k : Nat} (h : k < b.length) : (opsR a b j)[k]? = some (j + k, a.getD j 0 * b.getD k 0) := by
  unfold opsR; rw [List.getElem?_map, List.getElem?_range h]; rfl
theorem opsR_len (a b : List Int) (j : Nat) : (opsR a b j).length = b.length := by unfold opsR; simp
/-- adding 0s changes nothing -/
theorem fold_zero {a b : List Int} {j : Nat} (h : a.getD j 0 = 0) (z : List Int) (hz : j + b.length ≤ z.length) : (opsR a b j).foldl addAt z = z := by
  have : ∀ (os : List (Nat × Int)) (z : List Int), (∀ o ∈ os, o.2 = 0 ∧ o.1 < z.length) → os.foldl addAt z = z := by
    intro os
    induction os with
    | nil => intro z _; rfl
    | cons o os ih =>
      intro z hh
      have h0 := hh o (List.mem_cons_self ..)
      have e : addAt z o = z := by
        unfold addAt
        rw [h0.1, Int.add_zero, List.getD_eq_getElem?_getD, List.getElem?_eq_getElem h0.2]
        simp
      rw [List.foldl_cons, e]
      exact ih z fun o' ho' => hh o' (List.mem_cons_of_mem _ ho')
  refine this _ _ fun o ho => ⟨?_, by have := opsR_lt ho; omega⟩
  unfold opsR at ho
  obtain ⟨k, _, rfl⟩ := List.mem_map.mp ho
  show a.getD j 0 * _ = 0
  rw [h, Int.zero_mul]
theorem addAt_row {z : List Int} {i : Nat} (h : i < z.length) : (intL z)[i]? = some (.int (z.getD i 0)) := by
  refine ints_get ?_
  rw [List.getElem?_eq_getElem h, List.getD_eq_getElem?_getD, List.getElem?_eq_getElem h]; rfl
/-- values at small integers -/
theorem val_bound {x : Int} (hx : x.natAbs ≤ 20) : ∀ (p : List Int) (f : Int) (b : Nat), (∀ c ∈ p, c.natAbs < 2 ^ 900) → f.natAbs < 2 ^ (901 + b) → (p.foldl (fun f c => f * x + c) f).natAbs < 2 ^ (901 + b + 5 * p.length)
  | [], f, b, _, hf => hf
  | c :: p, f, b, hp, hf => by
    rw [List.foldl_cons, List.length_cons, show 901 + b + 5 * (p.length + 1) = 901 + (b + 5) + 5 * p.length by omega]
    refine val_bound hx p _ (b + 5) (fun c hc => hp c (List.mem_cons_of_mem _ hc)) ?_
    have h1 : (f * x + c).natAbs ≤ f.natAbs * x.natAbs + c.natAbs := by
      rw [← Int.natAbs_mul]; exact Int.natAbs_add_le _ _
    have h2 := hp c (List.mem_cons_self ..)
    have h3 : f.natAbs * x.natAbs ≤ f.natAbs * 20 := Nat.mul_le_mul_left _ hx
    have h4 : (2 : Nat) ^ (901 + (b + 5)) = 2 ^ (901 + b) * 32 := by rw [show 901 + (b + 5) = (901 + b) + 5 by omega, Nat.pow_add]
    have h5 : (2 : Nat) ^ 900 ≤ 2 ^ (901 + b) := Nat.pow_le_pow_right (by decide) (by omega)
    rw [h4]
    generalize 2 ^ (901 + b) = X at *
    generalize (2 : Nat) ^ 900 = Y at *
    omega
local macro_rules | `(tactic| walk_at "tp") => `(tactic| first | assumption | exact .int _ | exact .bl _ | solve_by_elim (maxDepth := 6) [Tp.ex])
section
variable {P : Program} {w : World} {K : PySem.W.Frag} {mg : Str → Option Value} {base : Heap}
abbrev sp_add_p : Sp := spD fun ds d => ∃ p q : List Int, ds = [dP p, dP q] ∧ p.length ≤ 1000 ∧ q.length ≤ 1000 ∧ d = dP (addP p q)
theorem sc_add_p : FnScope ["one", "other", "row", "power", "coefficient"] ["one", "other"] (defScope (top 24)) := ⟨rfl, rfl, rfl, by decide +kernel, rfl, by decide +kernel, by decide +kernel⟩
theorem w_add_p (B : Bt mg) (D : DefIn K mg "add_p" (top 24)) (C_cut_p : Cal P w K mg base CX0 1 "cut_p" ["row"] (sp_cut_p))  : Cal P w K mg base CX0 2 "add_p" ["one", "other"] (sp_add_p) := by
  obtain ⟨f, fd, F, g⟩ := D.ex
  refine ⟨f, fd, F.ok sc_add_p (fun vs H Q E h => ?_) (fun cdv A outer s H vs Q E hr h => ?_), g, F.kp, F.binds (ps := ["one", "other"]) fun _ _ _ _ _ _ us hl => match us, hl with | [_, _], _ => rfl⟩
  · obtain ⟨d, ⟨ds, t, p, q, rfl, _⟩, _⟩ := h
    exact t.length
  · obtain ⟨d, ⟨ds, t, p, q, rfl, lp, lq, rfl⟩, k⟩ := h
    obtain ⟨v0, w0, rfl, t0, t1⟩ := t.i2
    refine ⟨_, (pss_cons (ps_if (pt_cmpR op_lt (pe_callB call_lenA (by rfl) B.len PySem.boot_len (pa_cons (pv 0) pa_nil)) (pe_callB call_lenA (by rfl) B.len PySem.boot_len (pa_cons (pv 1) pa_nil)) (nomark _))
  (pss_one (ps_par (i := 0) (j := 1) rfl sc_add_p.nd rfl rfl (by decide) rfl rfl (pa_cons (pv 1) (pa_cons (pv 0) pa_nil)) (by rfl)))
  pss_nil)
  (pss_cons (ps_set (i := 2) sc_add_p.nd rfl (Or.inl rfl) (pe_callTy call_listA (by rfl) B.list PyProof.Rows.boot_list (pa_cons (pv 0) pa_nil)))
  (pss_cons (ps_for PassesOwn.never rfl (pi_enumT (by rfl) B.enumerate (pa_cons (pv 1) pa_nil)) (pg_tup rfl (pgs_cons (pg_name (i := 3) sc_add_p.nd rfl (Or.inl rfl)) (pgs_cons (pg_name (i := 4) sc_add_p.nd rfl (Or.inl rfl)) pgs_nil)))
  (pss_one (ps_augS (pv 2) (pv 3) get_list (pv 4) ip_add set_list)))
  (pss_one (ps_ret (pe_callC C_cut_p (hr.mono (by decide)) pass0 (pa_cons (pv 2) pa_nil))))))), ?_⟩
    refine s_seq (s_ifJ (fun σ' H' => ∃ p' q' : List Int, ∃ v w, σ' = [some v, some w, none, none, none] ∧ Ex H H' ∧ Tp H' v (dP p') ∧ Tp H' w (dP q') ∧ q'.length ≤ p'.length ∧ p'.length ≤ 1000 ∧ addP p' q' = addP p q) (evt_test (evd_IB (evd_lenT (evd_var rfl t0)) (evd_lenT (evd_var rfl t1)))) ?_ (fun hb H1 e1 J => ?_) (fun hb H1 e1 J => ?_))
    · rintro σ' H' ⟨p', q', v, w, rfl, e', tv, tw, hle, hl, he⟩
      refine s_seq (s_asgN (evn_listT (evd_var rfl tv)) fun l H1 nl e1 ll => ?_)
      have nl0 : H l = none := e'.back nl
      refine s_seq (s_forE (evd_var rfl (tw.ex e1)) (fun Hs i σ' H2 => ∃ a b, σ' = [some v, some w, some (.ref l), a, b] ∧ Ex H1 Hs ∧ ExB l Hs H2 ∧ NoTup Hs l ∧ Ls H2 l (intL (addL p' (q'.take i)))) (fun Hs es => ⟨_, _, rfl, es, ExB.refl _ _, (ll.ex es).noTup, by rw [List.take_zero, addL_nil]; exact ll.ex es⟩) (fun _ _ _ _ ⟨_, _, _, _, b, nt, _⟩ => b.tk nt) ?_ ?_)
      · rintro Hs i d x σ2 H2 H3 es hd ⟨a, b, rfl, es', eb, nt, lr⟩ e2 tx
        obtain ⟨c, hc, rfl⟩ := ints_get' hd
        cases tx.int_inv
        have hi := lt_of_get hc
        have hlr : (addL p' (q'.take i)).length = p'.length := by rw [addL_len, List.length_take]; omega
        refine s_augS (j := i) (evv_var rfl) (evd_var rfl (.int _)) (lr.ex e2) (ixN_nat (by rw [intL_len, hlr]; omega)) (addAt_row (by rw [hlr]; omega)) (evd_var rfl (.int _)) fun H4 b4 l4 => ?_
        rw [intL_set, addL_step hc hle] at l4
        exact ⟨_, _, rfl, es', (eb.trans (e2.b l)).trans b4, nt, l4⟩
      · rintro Hs σ2 H2 es ⟨a, b, rfl, es', eb, nt, lr⟩
        rw [dP_len, List.take_length] at lr
        have e02 : Ex H H2 := eb.ex (e'.trans (e1.trans es)) nl0
        refine s_ret (d := dP (addP p q)) (evd_callP (as := [.val (.ref l)]) (evm_val (evv_var rfl) evm_nil) fun vs H3 e3 ok => ?_) fun v H3 e3 t3 => k v H3 (e02.trans e3) t3
        match vs, ok with
        | [_], ⟨rfl, _⟩ => exact ⟨l, _, rfl, lr.ex e3, by rw [addL_len]; omega, by rw [← he]; rfl⟩
    · have hlt : p.length < q.length := by simp [dP_len] at hb; omega
      refine s_parD (eva_cons (evd_var rfl (t1.ex e1)) (eva_cons (evd_var rfl (t0.ex e1)) eva_nil)) fun v w H2 e2 tv tw => J _ _ ⟨q, p, v, w, rfl, e1.trans e2, tv, tw, by omega, lq, by unfold addP; rw [addL_comm]⟩
    · have hlt : ¬ p.length < q.length := by simp [dP_len] at hb; omega
      exact s_next (J _ _ ⟨p, q, v0, w0, rfl, e1, t0.ex e1, t1.ex e1, by omega, lp, rfl⟩)
abbrev sp_times_p : Sp := spD fun ds d => ∃ p q : List Int, ds = [dP p, dP q] ∧ p.length ≤ 1000 ∧ q.length ≤ 1000 ∧ okP p ∧ okP q ∧ Bd p ∧ Bd q ∧ d = dP (mulP p q)
theorem sc_times_p : FnScope ["one", "other", "row", "power", "coefficient", "more", "factor"] ["one", "other"] (defScope (top 25)) := ⟨rfl, rfl, rfl, by decide +kernel, rfl, by decide +kernel, by decide +kernel⟩
theorem w_times_p (B : Bt mg) (D : DefIn K mg "times_p" (top 25))   : Cal P w K mg base CX0 1 "times_p" ["one", "other"] (sp_times_p) := by
  obtain ⟨f, fd, F, g⟩ := D.ex
  refine ⟨f, fd, F.ok sc_times_p (fun vs H Q E h => ?_) (fun cdv A outer s H vs Q E hr h => ?_), g, F.kp, F.binds (ps := ["one", "other"]) fun _ _ _ _ _ _ us hl => match us, hl with | [_, _], _ => rfl⟩
  · obtain ⟨d, ⟨ds, t, p, q, rfl, _⟩, _⟩ := h
    exact t.length
  · obtain ⟨d, ⟨ds, t, p, q, rfl, lp, lq, op, oq, bp, bq, rfl⟩, k⟩ := h
    obtain ⟨v0, w0, rfl, t0, t1⟩ := t.i2
    refine ⟨_, (pss_cons (ps_if (PW.pt (pw_or (pt_cmpR (op_eqD hr.units) (pv 0) (pe_tup pa_nil) (nomark _)) (pw_or1 (pt_cmpR (op_eqD hr.units) (pv 1) (pe_tup pa_nil) (nomark _)))))
  (pss_one (ps_ret (pe_tup pa_nil)))
  pss_nil)
  (pss_cons (ps_set (i := 2) sc_times_p.nd rfl (Or.inl rfl) (pe_op op_rep (pe_lst (pa_cons pe_int pa_nil)) (pe_op op_sub (pe_op op_add (pe_callB call_lenA (by rfl) B.len PySem.boot_len (pa_cons (pv 0) pa_nil)) (pe_callB call_lenA (by rfl) B.len PySem.boot_len (pa_cons (pv 1) pa_nil))) pe_int)))
  (pss_cons (ps_for PassesOwn.never rfl (pi_enumT (by rfl) B.enumerate (pa_cons (pv 0) pa_nil)) (pg_tup rfl (pgs_cons (pg_name (i := 3) sc_times_p.nd rfl (Or.inl rfl)) (pgs_cons (pg_name (i := 4) sc_times_p.nd rfl (Or.inl rfl)) pgs_nil)))
  (pss_one (ps_if (pt_cmpR op_ne (pv 4) pe_int (nomark _))
  (pss_one (ps_for PassesOwn.never rfl (pi_enumT (by rfl) B.enumerate (pa_cons (pv 1) pa_nil)) (pg_tup rfl (pgs_cons (pg_name (i := 5) sc_times_p.nd rfl (Or.inl rfl)) (pgs_cons (pg_name (i := 6) sc_times_p.nd rfl (Or.inl rfl)) pgs_nil)))
  (pss_one (ps_augS (pv 2) (pe_op op_add (pv 3) (pv 5)) get_list (pe_op op_mulW (pv 4) (pv 6)) ip_add set_list))))
  pss_nil)))
  (pss_one (ps_ret (pe_tupleOf (by rfl) B.tuple (pv 2))))))), ?_⟩
    refine s_seq (s_if (evt_or (evt_test (evd_eqD (evd_var rfl t0) (evd_tup eva_nil) (sh_P p) sh_nil (eqv_nil_P p))) fun _ => (evt_test (evd_eqD (evd_var rfl t1) (evd_tup eva_nil) (sh_P q) sh_nil (eqv_nil_P q)))) (fun hb H1 e1 => ?_) (fun hb H1 e1 => ?_))
    · have e0 : mulP p q = [] := by
        simp at hb
        rcases hb with rfl | rfl
        · exact mulP_nil_l q
        · exact mulP_nil_r p
      refine s_ret (d := dP (mulP p q)) (EvD.is (evd_tup eva_nil) (by rw [e0]; rfl)) fun v H2 e2 t2 => k v H2 (e1.trans e2) t2
    · have hp : p ≠ [] ∧ q ≠ [] := by simp at hb; exact hb
      have hp0 := List.length_pos_iff.mpr hp.1
      have hq0 := List.length_pos_iff.mpr hp.2
      have t0' := t0.ex e1
      have t1' := t1.ex e1
      refine s_next (s_seq (s_asgN (evn_rep1 (n := (p.length : Int) + q.length - 1) (evn_lst (eva_cons evd_int eva_nil)) (EvD.is (evd_II (evd_II (evd_lenT (evd_var rfl t0')) (evd_lenT (evd_var rfl t1'))) evd_int) (by rw [dP_len, dP_len])) (by omega) (by omega)) fun l H2 nl e2 ll => ?_))
      rw [intL_rep, show ((p.length : Int) + q.length - 1).toNat = p.length + q.length - 1 by omega] at ll
      have nl0 := e1.back nl
      generalize hsz : p.length + q.length - 1 = sz at ll
      have fl : ∀ os : List (Nat × Int), (os.foldl addAt (List.replicate sz 0)).length = sz := fun os => by rw [foldAt_len]; simp
      refine s_seq (s_forE (evd_var rfl (t0'.ex e2)) (fun Hs i σ' H' => ∃ a b c d, σ' = [some v0, some w0, some (.ref l), a, b, c, d] ∧ Ex H2 Hs ∧ ExB l Hs H' ∧ NoTup Hs l ∧ Ls H' l (intL ((ops p q i).foldl addAt (List.replicate sz 0)))) (fun Hs es => ⟨_, _, _, _, rfl, es, ExB.refl _ _, (ll.ex es).noTup, ll.ex es⟩) (fun _ _ _ _ ⟨_, _, _, _, _, _, b, nt, _⟩ => b.tk nt) ?_ ?_)
      · rintro Hs i d x σ2 H3 H4 es hd ⟨a, b, c, d', rfl, es', eb, nt, lr⟩ e4 tx
        obtain ⟨cc, hc, rfl⟩ := ints_get' hd
        cases tx.int_inv
        have hi := lt_of_get hc
        have nt4 : NoTup H4 l := (lr.ex e4).noTup
        have t1s : Tp H4 w0 (dP q) := ((t1'.ex (e2.trans es')).mono (eb.tk nt)).ex e4
        rw [ops_succ, List.foldl_append]
        refine s_if (evt_test (evd_neI (evd_var rfl (.int _)) evd_int)) (fun hb H5 e5 => ?_) (fun hb H5 e5 => ?_)
        · refine s_forE (evd_var rfl (t1s.ex e5)) (fun Ht m σ' H' => ∃ c d, σ' = [some v0, some w0, some (.ref l), some (.int i), some (.int cc), c, d] ∧ Ex H5 Ht ∧ ExB l Ht H' ∧ NoTup Ht l ∧ Ls H' l (intL (((opsR p q i).take m).foldl addAt ((ops p q i).foldl addAt (List.replicate sz 0))))) (fun Ht et => ⟨_, _, rfl, et, ExB.refl _ _, (((lr.ex e4).ex e5).ex et).noTup, ((lr.ex e4).ex e5).ex et⟩) (fun _ _ _ _ ⟨_, _, _, _, b, nt, _⟩ => b.tk nt) ?_ ?_
          · rintro Ht m d x σ2 H6 H7 et hd2 ⟨c, d', rfl, et', eb', nt', lr'⟩ e7 tx
            obtain ⟨ff, hf, rfl⟩ := ints_get' hd2
            cases tx.int_inv
            have hm := lt_of_get hf
            have hlt : i + m < sz := by omega
            have lz : (((opsR p q i).take m).foldl addAt ((ops p q i).foldl addAt (List.replicate sz 0))).length = sz := by rw [foldAt_len, fl]
            refine s_augS (j := i + m) (c := cc * ff) (evv_var rfl) (evd_II (evd_var rfl (.int _)) (evd_var rfl (.int _))) (lr'.ex e7) (ixN_nat (j := i + m) (by rw [intL_len, lz]; exact hlt)) (addAt_row (by rw [lz]; exact hlt)) (evd_IC (evd_var rfl (.int _)) (evd_var rfl (.int _)) (mulW (by have := bp.get i; rw [getD_some hc] at this; exact this) (by have := bq.get m; rw [getD_some hf] at this; exact this))) fun H8 b8 l8 => ?_
            refine ⟨_, _, rfl, et', (eb'.trans (e7.b l)).trans b8, nt', ?_⟩
            rw [foldAt_take (opsR_get hm)]
            rw [intL_set] at l8
            unfold addAt
            show Ls H8 l (intL (List.set _ (i + m) (_ + p.getD i 0 * q.getD m 0)))
            rw [getD_some hc, getD_some hf]
            exact l8
          · rintro Ht σ2 H6 et ⟨c, d', rfl, et', eb', nt', lr'⟩
            rw [dP_len, ← opsR_len p q i, List.take_length] at lr'
            exact ⟨_, _, _, _, rfl, es', (eb.trans (((e4.trans e5).trans et').b l)).trans eb', nt, lr'⟩
        · have h0 : cc = 0 := by simpa using hb
          rw [fold_zero (by rw [getD_some hc, h0]) _ (by rw [fl]; omega)]
          exact s_next ⟨_, _, _, _, rfl, es', eb.trans ((e4.trans e5).b l), nt, (lr.ex e4).ex e5⟩
      · rintro Hs σ2 H3 es ⟨a, b, c, d', rfl, es', eb, nt, lr⟩
        rw [dP_len] at lr
        have e02 : Ex H H3 := eb.ex ((e1.trans e2).trans es') nl0
        have er : (ops p q p.length).foldl addAt (List.replicate sz 0) = mulP p q := by
          rw [← mulRow_cut op oq hp.1 hp.2, hsz]; rfl
        rw [er] at lr
        exact s_ret (evd_tupL (evv_var rfl) lr) fun v H4 e4 t4 => k v H4 (e02.trans e4) t4
abbrev sp_is_poly : Sp := spD fun ds d => ∃ p : List Int, ds = [dP p] ∧ d = .bool (!decide (p.getLast? = some 0))
theorem sc_is_poly : FnScope ["told"] ["told"] (defScope (top 26)) := ⟨rfl, rfl, rfl, by decide +kernel, rfl, by decide +kernel, by decide +kernel⟩
theorem w_is_poly (B : Bt mg) (D : DefIn K mg "is_poly" (top 26))   : Cal P w K mg base CX0 1 "is_poly" ["told"] (sp_is_poly) := by
  obtain ⟨f, fd, F, g⟩ := D.ex
  refine ⟨f, fd, F.ok sc_is_poly (fun vs H Q E h => ?_) (fun cdv A outer s H vs Q E hr h => ?_), g, F.kp, F.binds (ps := ["told"]) fun _ _ _ _ _ _ us hl => match us, hl with | [_], _ => rfl⟩
  · obtain ⟨d, ⟨ds, t, p, rfl, _⟩, _⟩ := h
    exact t.length
  · obtain ⟨d, ⟨ds, t, p, rfl, rfl⟩, k⟩ := h
    obtain ⟨v0, rfl, t0⟩ := t.i1
    refine ⟨_, (pss_one (ps_ret (pe_or (pe_cmpR (op_eqD hr.units) (pv 0) (pe_tup pa_nil) (nomark _)) (pe_one (pe_cmpR op_ne (pe_ix ix_tup (pv 0) (pe_un un_neg pe_int) (fun _ _ => rfl)) pe_int (nomark _)))))), ?_⟩
    have hb : (!decide (p.getLast? = some 0)) = (decide (p = []) || !decide (p.getD (p.length - 1) 0 = 0)) := by
      rcases List.eq_nil_or_concat p with rfl | ⟨m, x, rfl⟩
      · rfl
      · rw [List.concat_eq_append]; simp [List.getD_eq_getElem?_getD]
    refine s_ret (EvD.is (evd_or (evd_eqD (evd_var rfl t0) (evd_tup eva_nil) (sh_P p) sh_nil (eqv_nil_P p)) fun hp => (evd_neI (evd_ixT (evd_var rfl t0) (evd_neg evd_int) (d := .int (p.getD (p.length - 1) 0)) ?_) evd_int)) (by rw [hb])) fun v H2 e2 t2 => k v H2 e2 t2
    rcases List.eq_nil_or_concat p with rfl | ⟨m, x, rfl⟩
    · simp at hp
    · rw [List.concat_eq_append, List.map_append]
      have : (m ++ [x]).getD ((m ++ [x]).length - 1) 0 = x := by simp [List.getD_eq_getElem?_getD]
      rw [this]; exact at_last
abbrev sp_checked_poly : Sp := spD fun ds d => ∃ p : List Int, ds = [dP p] ∧ okP p ∧ d = dP p
theorem sc_checked_poly : FnScope ["told"] ["told"] (defScope (top 27)) := ⟨rfl, rfl, rfl, by decide +kernel, rfl, by decide +kernel, by decide +kernel⟩
theorem w_checked_poly (B : Bt mg) (D : DefIn K mg "checked_poly" (top 27)) (C_is_poly : Cal P w K mg base CX0 1 "is_poly" ["told"] (sp_is_poly))  : Cal P w K mg base CX0 2 "checked_poly" ["told"] (sp_checked_poly) := by
  obtain ⟨f, fd, F, g⟩ := D.ex
  refine ⟨f, fd, F.ok sc_checked_poly (fun vs H Q E h => ?_) (fun cdv A outer s H vs Q E hr h => ?_), g, F.kp, F.binds (ps := ["told"]) fun _ _ _ _ _ _ us hl => match us, hl with | [_], _ => rfl⟩
  · obtain ⟨d, ⟨ds, t, p, rfl, _⟩, _⟩ := h
    exact t.length
  · obtain ⟨d, ⟨ds, t, p, rfl, op, rfl⟩, k⟩ := h
    obtain ⟨v0, rfl, t0⟩ := t.i1
    refine ⟨_, (pss_cons (ps_if (pt_not (pt_val (pe_callC C_is_poly (hr.mono (by decide)) pass0 (pa_cons (pv 0) pa_nil))))
  pss_never
  pss_nil)
  (pss_one (ps_ret (pv 0)))), ?_⟩
    have ho : (!decide (p.getLast? = some 0)) = true := by unfold okP at op; simpa using op
    refine s_seq (s_if (evt_not (evt_test (evd_callD (eva_cons (evd_var rfl t0) eva_nil) ⟨p, rfl, rfl⟩))) (fun b => by rw [ho] at b; cases b) fun _ H1 e1 => ?_)
    exact s_next (s_ret (evd_var rfl (t0.ex e1)) fun v H2 e2 t2 => k v H2 (e1.trans e2) t2)
abbrev sp_at : Sp := spD fun ds d => ∃ (p : List Int) (x : Int), ds = [dP p, .int x] ∧ okP p ∧ Bd p ∧ p.length ≤ 10 ∧ x.natAbs ≤ 20 ∧ d = .int (valP x p)
theorem sc_at : FnScope ["one", "number", "found", "coefficient"] ["one", "number"] (defScope (top 28)) := ⟨rfl, rfl, rfl, by decide +kernel, rfl, by decide +kernel, by decide +kernel⟩
theorem w_at (B : Bt mg) (D : DefIn K mg "at" (top 28)) (C_checked_poly : Cal P w K mg base CX0 2 "checked_poly" ["told"] (sp_checked_poly))  : Cal P w K mg base CX0 3 "at" ["one", "number"] (sp_at) := by
  obtain ⟨f, fd, F, g⟩ := D.ex
  refine ⟨f, fd, F.ok sc_at (fun vs H Q E h => ?_) (fun cdv A outer s H vs Q E hr h => ?_), g, F.kp, F.binds (ps := ["one", "number"]) fun _ _ _ _ _ _ us hl => match us, hl with | [_, _], _ => rfl⟩
  · obtain ⟨d, ⟨ds, t, p, x, rfl, _⟩, _⟩ := h
    exact t.length
  · obtain ⟨d, ⟨ds, t, p, x, rfl, op, bp, lp, hx, rfl⟩, k⟩ := h
    obtain ⟨v0, w0, rfl, t0, t1⟩ := t.i2
    cases t1.int_inv
    refine ⟨_, (pss_cons (ps_set (i := 2) sc_at.nd rfl (Or.inl rfl) pe_int)
  (pss_cons (ps_for PassesOwn.never rfl (RT.pi_revA (by rfl) B.reversed (pe_callC C_checked_poly (hr.mono (by decide)) pass0 (pa_cons (pv 0) pa_nil))) (pg_name (i := 3) sc_at.nd rfl (Or.inl rfl))
  (pss_one (ps_set (i := 2) sc_at.nd rfl (Or.inl rfl) (pe_op op_add (pe_op op_mulW (pv 2) (pv 1)) (pv 3)))))
  (pss_one (ps_ret (pv 2))))), ?_⟩
    refine s_seq (s_asgI evd_int fun H1 e1 => ?_)
    refine s_seq (s_forRev (evd_callD (eva_cons (evd_var rfl (t0.ex e1)) eva_nil) ⟨p, rfl, op, rfl⟩) (fun Hs i σ' H' => ∃ a, σ' = [some v0, some (.int x), some (.int ((p.reverse.take i).foldl (fun f c => f * x + c) 0)), a] ∧ Ex H H' ∧ Ex Hs H') (fun Hs es => ⟨_, rfl, e1.trans es, Ex.refl _⟩) (fun _ _ _ _ ⟨_, _, _, e⟩ => e.tk) ?_ ?_)
    · rintro Hs i d y σ2 H2 es hd ⟨a, rfl, e0, e2⟩ ty
      rw [← List.map_reverse] at hd
      obtain ⟨c, hc, rfl⟩ := ints_get' hd
      cases ty.int_inv
      rw [fold_take hc]
      refine s_asgI (evd_II (evd_IC (evd_var rfl (.int _)) (evd_var rfl (.int _)) ?_) (evd_var rfl (.int _))) fun H3 e3 => ⟨_, rfl, e0.trans e3, e2.trans e3⟩
      · have hb := val_bound hx (p.reverse.take i) 0 0 (fun c hc => bp c (List.mem_reverse.mp (List.mem_of_mem_take hc))) (Nat.two_pow_pos _)
        refine mulW (Nat.lt_of_lt_of_le hb (Nat.pow_le_pow_right (by decide) ?_)) (Nat.lt_of_le_of_lt hx (Nat.lt_of_lt_of_le (show 20 < 2 ^ 5 by decide) (Nat.pow_le_pow_right (by decide) (by decide))))
        rw [List.length_take, List.length_reverse]; omega
    · rintro Hs σ2 H2 es ⟨a, rfl, e0, e2⟩
      rw [dP_len, ← List.length_reverse, List.take_length]
      exact s_ret (evd_var rfl (.int _)) fun v H3 e3 t3 => k v H3 (e0.trans e3) t3
abbrev sp_law_value : Sp := spD fun ds d => ∃ (p : List Int) (x : Int), ds = [dP p, .int x] ∧ Bd p ∧ p.length ≤ 10 ∧ x.natAbs ≤ 20 ∧ d = .int (valP x p)
theorem sc_law_value : FnScope ["_law_row_here", "_law_x", "_law_found", "_law_coefficient"] ["_law_row_here", "_law_x"] (defScope (top 61)) := ⟨rfl, rfl, rfl, by decide +kernel, rfl, by decide +kernel, by decide +kernel⟩
theorem w_law_value (B : Bt mg) (D : DefIn K mg "_law_value" (top 61))   : Cal P w K mg base CX0 1 "_law_value" ["_law_row_here", "_law_x"] (sp_law_value) := by
  obtain ⟨f, fd, F, g⟩ := D.ex
  refine ⟨f, fd, F.ok sc_law_value (fun vs H Q E h => ?_) (fun cdv A outer s H vs Q E hr h => ?_), g, F.kp, F.binds (ps := ["_law_row_here", "_law_x"]) fun _ _ _ _ _ _ us hl => match us, hl with | [_, _], _ => rfl⟩
  · obtain ⟨d, ⟨ds, t, p, x, rfl, _⟩, _⟩ := h
    exact t.length
  · obtain ⟨d, ⟨ds, t, p, x, rfl, bp, lp, hx, rfl⟩, k⟩ := h
    obtain ⟨v0, w0, rfl, t0, t1⟩ := t.i2
    cases t1.int_inv
    refine ⟨_, (pss_cons (ps_set (i := 2) sc_law_value.nd rfl (Or.inl rfl) pe_int)
  (pss_cons (ps_for PassesOwn.never rfl (RT.pi_revA (by rfl) B.reversed (pv 0)) (pg_name (i := 3) sc_law_value.nd rfl (Or.inl rfl))
  (pss_one (ps_set (i := 2) sc_law_value.nd rfl (Or.inl rfl) (pe_op op_add (pe_op op_mulW (pv 2) (pv 1)) (pv 3)))))
  (pss_one (ps_ret (pv 2))))), ?_⟩
    refine s_seq (s_asgI evd_int fun H1 e1 => ?_)
    refine s_seq (s_forRev (evd_var rfl (t0.ex e1)) (fun Hs i σ' H' => ∃ a, σ' = [some v0, some (.int x), some (.int ((p.reverse.take i).foldl (fun f c => f * x + c) 0)), a] ∧ Ex H H' ∧ Ex Hs H') (fun Hs es => ⟨_, rfl, e1.trans es, Ex.refl _⟩) (fun _ _ _ _ ⟨_, _, _, e⟩ => e.tk) ?_ ?_)
    · rintro Hs i d y σ2 H2 es hd ⟨a, rfl, e0, e2⟩ ty
      rw [← List.map_reverse] at hd
      obtain ⟨c, hc, rfl⟩ := ints_get' hd
      cases ty.int_inv
      rw [fold_take hc]
      refine s_asgI (evd_II (evd_IC (evd_var rfl (.int _)) (evd_var rfl (.int _)) ?_) (evd_var rfl (.int _))) fun H3 e3 => ⟨_, rfl, e0.trans e3, e2.trans e3⟩
      · have hb := val_bound hx (p.reverse.take i) 0 0 (fun c hc => bp c (List.mem_reverse.mp (List.mem_of_mem_take hc))) (Nat.two_pow_pos _)
        refine mulW (Nat.lt_of_lt_of_le hb (Nat.pow_le_pow_right (by decide) ?_)) (Nat.lt_of_le_of_lt hx (Nat.lt_of_lt_of_le (show 20 < 2 ^ 5 by decide) (Nat.pow_le_pow_right (by decide) (by decide))))
        rw [List.length_take, List.length_reverse]; omega
    · rintro Hs σ2 H2 es ⟨a, rfl, e0, e2⟩
      rw [dP_len, ← List.length_reverse, List.take_length]
      exact s_ret (evd_var rfl (.int _)) fun v H3 e3 t3 => k v H3 (e0.trans e3) t3
abbrev sp_law_times : Sp := spD fun ds d => ∃ p q : List Int, ds = [dP p, dP q] ∧ p.length ≤ 400 ∧ q.length ≤ 400 ∧ Bd p ∧ Bd q ∧ d = dP (mulP p q)
theorem sc_law_times : FnScope ["_law_a", "_law_b", "_law_found", "_law_j", "_law_k"] ["_law_a", "_law_b"] (defScope (top 52)) := ⟨rfl, rfl, rfl, by decide +kernel, rfl, by decide +kernel, by decide +kernel⟩
theorem w_law_times (B : Bt mg) (D : DefIn K mg "_law_times" (top 52)) (C_law_cut : Cal P w K mg base CX0 1 "_law_cut" ["_law_row_here"] (sp_law_cut))  : Cal P w K mg base CX0 2 "_law_times" ["_law_a", "_law_b"] (sp_law_times) := by
  obtain ⟨f, fd, F, g⟩ := D.ex
  refine ⟨f, fd, F.ok sc_law_times (fun vs H Q E h => ?_) (fun cdv A outer s H vs Q E hr h => ?_), g, F.kp, F.binds (ps := ["_law_a", "_law_b"]) fun _ _ _ _ _ _ us hl => match us, hl with | [_, _], _ => rfl⟩
  · obtain ⟨d, ⟨ds, t, p, q, rfl, _⟩, _⟩ := h
    exact t.length
  · obtain ⟨d, ⟨ds, t, p, q, rfl, lp, lq, bp, bq, rfl⟩, k⟩ := h
    obtain ⟨v0, w0, rfl, t0, t1⟩ := t.i2
    refine ⟨_, (pss_cons (ps_set (i := 2) sc_law_times.nd rfl (Or.inl rfl) (pe_op op_rep (pe_lst (pa_cons pe_int pa_nil)) (pe_op op_add (pe_callB call_lenA (by rfl) B.len PySem.boot_len (pa_cons (pv 0) pa_nil)) (pe_callB call_lenA (by rfl) B.len PySem.boot_len (pa_cons (pv 1) pa_nil)))))
  (pss_cons (ps_for PassesOwn.never rfl (pi_range1 (by rfl) B.range (pa_cons (pe_callB call_lenA (by rfl) B.len PySem.boot_len (pa_cons (pv 0) pa_nil)) pa_nil)) (pg_name (i := 3) sc_law_times.nd rfl (Or.inl rfl))
  (pss_one (ps_for PassesOwn.never rfl (pi_range1 (by rfl) B.range (pa_cons (pe_callB call_lenA (by rfl) B.len PySem.boot_len (pa_cons (pv 1) pa_nil)) pa_nil)) (pg_name (i := 4) sc_law_times.nd rfl (Or.inl rfl))
  (pss_one (ps_asg (pe_op op_add (pe_ix ix_list (pv 2) (pe_op op_add (pv 3) (pv 4)) (fun _ _ => rfl)) (pe_op op_mulW (pe_ix ix_tup (pv 0) (pv 3) (fun _ _ => rfl)) (pe_ix ix_tup (pv 1) (pv 4) (fun _ _ => rfl)))) (pg_sub (pv 2) (pe_op op_add (pv 3) (pv 4)) set_list))))))
  (pss_one (ps_ret (pe_callC C_law_cut (hr.mono (by decide)) pass0 (pa_cons (pv 2) pa_nil)))))), ?_⟩
    refine s_seq (s_asgN (evn_rep1 (n := (p.length : Int) + q.length) (evn_lst (eva_cons evd_int eva_nil)) (EvD.is (evd_II (evd_lenT (evd_var rfl t0)) (evd_lenT (evd_var rfl t1))) (by rw [dP_len, dP_len])) (by omega) (by omega)) fun l H2 nl e2 ll => ?_)
    rw [intL_rep, show ((p.length : Int) + q.length).toNat = p.length + q.length by omega] at ll
    generalize hsz : p.length + q.length = sz at ll
    have fl : ∀ os : List (Nat × Int), (os.foldl addAt (List.replicate sz 0)).length = sz := fun os => by rw [foldAt_len]; simp
    refine s_seq (s_forR1 (n := (p.length : Int)) (EvD.is (evd_lenT (evd_var rfl (t0.ex e2))) (by rw [dP_len])) (by omega) (fun i σ' H' => ∃ c d, σ' = [some v0, some w0, some (.ref l), c, d] ∧ Ex H H' ∧ Ls H' l (intL ((ops p q i).foldl addAt (List.replicate sz 0)))) (fun Hs es => ⟨_, _, rfl, e2.trans es, ll.ex es⟩) ?_ ?_)
    · rintro i σ' H' hi ⟨c, d, rfl, e', lr⟩
      have hi : i < p.length := by omega
      have t0' := t0.ex e'
      have t1' := t1.ex e'
      rw [ops_succ, List.foldl_append]
      refine s_forR1 (n := (q.length : Int)) (EvD.is (evd_lenT (evd_var rfl t1')) (by rw [dP_len])) (by omega) (fun m σ' H' => ∃ d, σ' = [some v0, some w0, some (.ref l), some (.int i), d] ∧ Ex H H' ∧ Ls H' l (intL (((opsR p q i).take m).foldl addAt ((ops p q i).foldl addAt (List.replicate sz 0))))) (fun Hs es => ⟨_, rfl, e'.trans es, lr.ex es⟩) ?_ ?_
      · rintro m σ' H' hm ⟨d, rfl, e', lr⟩
        have hm : m < q.length := by omega
        have hlt : i + m < sz := by omega
        have lz : (((opsR p q i).take m).foldl addAt ((ops p q i).foldl addAt (List.replicate sz 0))).length = sz := by rw [foldAt_len, fl]
        refine s_setB (j := i + m) (evd_II (evd_ixL (evv_var rfl) lr (evd_II (evd_var rfl (.int _)) (evd_var rfl (.int _))) (at_nat (i := i + m) (addAt_row (by rw [lz]; exact hlt)))) (evd_IC (evd_ixT (evd_var rfl (t0.ex e')) (evd_var rfl (.int _)) (intL_getD hi)) (evd_ixT (evd_var rfl (t1.ex e')) (evd_var rfl (.int _)) (intL_getD hm)) (mulW (bp.get i) (bq.get m)))) (evv_var rfl) (evd_II (evd_var rfl (.int _)) (evd_var rfl (.int _))) lr (ixN_nat (j := i + m) (by rw [intL_len, lz]; exact hlt)) fun H8 b8 l8 => ?_
        refine ⟨_, rfl, b8.ex e' nl, ?_⟩
        rw [foldAt_take (opsR_get hm)]
        rw [intL_set] at l8
        exact l8
      · rintro σ' H' ⟨d, rfl, e', lr⟩
        rw [Int.toNat_natCast, ← opsR_len p q i, List.take_length] at lr
        exact ⟨_, _, rfl, e', lr⟩
    · rintro σ' H' ⟨c, d, rfl, e', lr⟩
      rw [Int.toNat_natCast] at lr
      dsimp only
      refine s_ret (d := dP (mulP p q)) (evd_callP (as := [.val (.ref l)]) (evm_val (evv_var rfl) evm_nil) fun vs H3 e3 ok => ?_) fun v H3 e3 t3 => k v H3 (e'.trans e3) t3
      match vs, ok with
      | [_], ⟨rfl, _⟩ => exact ⟨l, _, rfl, lr.ex e3, by rw [fl]; omega, by unfold mulP mulRow; rw [hsz]⟩
abbrev sp_law_plus : Sp := spD fun ds d => ∃ p q : List Int, ds = [dP p, dP q] ∧ p.length ≤ 1000 ∧ q.length ≤ 1000 ∧ d = dP (addP p q)
theorem sc_law_plus : FnScope ["_law_a", "_law_b", "_law_size", "_law_longer", "_law_k"] ["_law_a", "_law_b"] (defScope (top 51)) := ⟨rfl, rfl, rfl, by decide +kernel, rfl, by decide +kernel, by decide +kernel⟩
theorem w_law_plus (B : Bt mg) (D : DefIn K mg "_law_plus" (top 51)) (C_law_cut : Cal P w K mg base CX0 1 "_law_cut" ["_law_row_here"] (sp_law_cut))  : Cal P w K mg base CX0 2 "_law_plus" ["_law_a", "_law_b"] (sp_law_plus) := by
  obtain ⟨f, fd, F, g⟩ := D.ex
  refine ⟨f, fd, F.ok sc_law_plus (fun vs H Q E h => ?_) (fun cdv A outer s H vs Q E hr h => ?_), g, F.kp, F.binds (ps := ["_law_a", "_law_b"]) fun _ _ _ _ _ _ us hl => match us, hl with | [_, _], _ => rfl⟩
  · obtain ⟨d, ⟨ds, t, p, q, rfl, _⟩, _⟩ := h
    exact t.length
  · obtain ⟨d, ⟨ds, t, p, q, rfl, lp, lq, rfl⟩, k⟩ := h
    obtain ⟨v0, w0, rfl, t0, t1⟩ := t.i2
    refine ⟨_, (pss_cons (ps_set (i := 2) sc_law_plus.nd rfl (Or.inl rfl) (pe_callB (call_max2 rfl) (by rfl) B.max (by decide +kernel) (pa_cons (pe_callB call_lenA (by rfl) B.len PySem.boot_len (pa_cons (pv 0) pa_nil)) (pa_cons (pe_callB call_lenA (by rfl) B.len PySem.boot_len (pa_cons (pv 1) pa_nil)) pa_nil))))
  (pss_cons (ps_set (i := 3) sc_law_plus.nd rfl (Or.inr rfl) (pe_lst (pa_cons (pe_op op_cat (pe_callTy call_listA (by rfl) B.list PyProof.Rows.boot_list (pa_cons (pv 0) pa_nil)) (pe_op op_rep (pe_lst (pa_cons pe_int pa_nil)) (pe_op op_sub (pv 2) (pe_callB call_lenA (by rfl) B.len PySem.boot_len (pa_cons (pv 0) pa_nil))))) (pa_cons (pe_op op_cat (pe_callTy call_listA (by rfl) B.list PyProof.Rows.boot_list (pa_cons (pv 1) pa_nil)) (pe_op op_rep (pe_lst (pa_cons pe_int pa_nil)) (pe_op op_sub (pv 2) (pe_callB call_lenA (by rfl) B.len PySem.boot_len (pa_cons (pv 1) pa_nil))))) pa_nil))))
  (pss_one (ps_ret (pe_callC C_law_cut (hr.mono (by decide)) pass0 (pa_cons (pe_lc (own := [("_law_k", 4)]) (g := (gName 4)) rfl sc_law_plus.nd (pi_range1 (by rfl) B.range (pa_cons (pv 2) pa_nil)) (blkOk_by (N := ["_law_a", "_law_b", "_law_size", "_law_longer", "_law_k"]) (sc := defScope (top 51)) (by decide +kernel)) (fun _ _ _ _ _ => (pg_name (i := 4) sc_law_plus.nd rfl (Or.inl rfl))) (fun _ _ _ _ _ => pts_nil) (fun _ _ _ _ _ => (pe_op op_add (pe_ix (ix_listK (K := K) rfl) (pe_ix (ix_listK (K := K) rfl) (pv 3) pe_int (fun _ _ => rfl)) (pv 4) (fun _ _ => rfl)) (pe_ix (ix_listK (K := K) rfl) (pe_ix (ix_listK (K := K) rfl) (pv 3) pe_int (fun _ _ => rfl)) (pv 4) (fun _ _ => rfl))))) pa_nil)))))), ?_⟩
    refine s_seq (s_asgI (n := ((max p.length q.length : Nat) : Int)) (EvD.is (evd_max2 (evd_lenT (evd_var rfl t0)) (evd_lenT (evd_var rfl t1))) (by rw [dP_len, dP_len]; congr 1; split <;> omega)) fun H1 e1 => ?_)
    generalize hsz : max p.length q.length = sz
    -- the two lists, then the list of both
    have A : ∀ (r : List Int) (H2 : Hp) (σ : L2.St) (te tn : TE), r.length ≤ sz → EvD te σ H2 (dP r) → EvD tn σ H2 (.int ((sz - r.length : Nat) : Int)) → EvN (tOp rCat (tCB (rListA (cxOf CX0 P w K mg base ["_law_a", "_law_b", "_law_size", "_law_longer", "_law_k"] "_law_plus" (defScope (top 51)) f cdv A outer s H E).nox.K) (tCons te tNil)) (tOp rRep (tLst (tCons (tC (.int 0)) tNil)) tn)) σ H2 (intL (r ++ List.replicate (sz - r.length) 0)) := fun r H2 σ te tn hr h1 h2 => by
      rw [← intL_app, ← intL_rep]
      have e := evn_rep1 (evn_lst (eva_cons (evd_int (i := 0)) eva_nil)) h2 (by omega) (by omega)
      rw [Int.toNat_natCast] at e
      exact evn_cat (evn_listT h1) e (by simp [intL_len]; omega)
    have lp' : ∀ (r : List Int), (((sz : Nat) : Int) - ((r.map PyData.int).length : Int)) = (sz : Int) - (r.length : Int) := fun r => by rw [dP_len]
    refine s_seq (A p H1 _ _ _ (by omega) (evd_var rfl (t0.ex e1)) (EvD.is (evd_II (evd_var rfl (.int _)) (evd_lenT (evd_var rfl (t0.ex e1)))) (by rw [dP_len]; congr 1; omega)) H1 (Ex.refl _) _ fun l1 H2 n1 e2 m1 => ?_)
    refine A q H2 _ _ _ (by omega) (evd_var rfl (t1.ex (e1.trans e2))) (EvD.is (evd_II (evd_var rfl (.int _)) (evd_lenT (evd_var rfl (t1.ex (e1.trans e2))))) (by rw [dP_len]; congr 1; omega)) H2 (Ex.refl _) _ fun l2 H3 n2 e3 m2 => ?_
    refine ⟨by show 2 ≤ sizeLine; decide, fun l np => ?_⟩
    have e4 : Ex H3 (upd H3 l (.lst [.ref l1, .ref l2])) := Ex.new np
    generalize hH4 : upd H3 l (.lst [.ref l1, .ref l2]) = H4 at e4
    have hl : H4 l = some (.lst [.ref l1, .ref l2]) := by rw [← hH4]; exact upd_same
    have m1' := (m1.ex e3).ex e4
    have m2' := m2.ex e4
    have e04 := ((e1.trans e2).trans e3).trans e4
    dsimp only
    refine s_ret (d := dP (addP p q)) (evd_callP (as := [.lst (intL (addL p q))]) (evm_lst ?_ evm_nil) fun vs H3 e3 ok => ?_) fun v H5 e5 t5 => k v H5 (e04.trans e5) t5
    · have el : intL (addL p q) = ((intL (addL p q)).map some).filterMap id := (filt_all _).symm
      rw [el]
      refine evn_lcR (n := sz) (evd_var rfl (.int _)) (by rw [List.length_map, intL_len, addL_len, hsz]) (by rw [List.length_map, intL_len, addL_len]; omega) fun i o H' e' ho => ⟨_, fun R r => r, rfl, ?_⟩
      have hi : i < sz := by
        have := lt_of_get ho
        rw [List.length_map, intL_len, addL_len, hsz] at this
        exact this
      have hg := addL_get (p := p) (q := q) (k := i) (by omega)
      have ho2 : o = some (.int (p.getD i 0 + q.getD i 0)) := by
        rw [List.getElem?_map, show (intL (addL p q))[i]? = _ from ints_get hg] at ho
        exact (Option.some.inj ho).symm
      subst ho2
      refine ⟨evt_yes, fun e he => ?_⟩
      cases he
      have gx : ∀ r : List Int, r.length ≤ sz → atI (intL (r ++ List.replicate (sz - r.length) 0)) (i : Int) = some (.int (r.getD i 0)) := fun r hr => by
        refine intL_at ?_
        rw [List.getElem?_append, List.getD_eq_getElem?_getD]
        by_cases h : i < r.length
        · rw [if_pos h, List.getElem?_eq_getElem h]; rfl
        · rw [if_neg h, List.getElem?_replicate, if_pos (by omega), List.getElem?_eq_none (by omega)]; rfl
      exact evd_II (evd_ixL (evv_ixL (evv_var rfl) (e' _ _ hl) evd_int rfl) (m1'.ex e') (evd_var rfl (.int _)) (gx p (by omega))) (evd_ixL (evv_ixL (evv_var rfl) (e' _ _ hl) evd_int rfl) (m2'.ex e') (evd_var rfl (.int _)) (gx q (by omega)))
    · match vs, ok with
      | [_], ⟨⟨l, rfl, hl⟩, _⟩ => exact ⟨l, _, rfl, hl, by rw [addL_len]; omega, rfl⟩
end
end Hk


namespace Hk
open PySem PySem.Spec PyProof.Rows L2
open PySem.W (dataLe AllAlike Sortable EachIs)
section
variable {X : Cx} {pins : List (Addr × Obj)} {σ : L2.St} {H : Hp} {s : Shared} {n : Nat}
/-! ### d.items(), sorted(d.items()) -/
def rNItems (P : Program) (w : World) : V → List V → Hp → VK → Prop := fun x xs H Q => ∃ (a : Addr) (n : Nat) (T : Tab), x = .ref a ∧ xs = [] ∧ Tb P w H a n T ∧ ∀ p, H p = none → Q (.ref p) (upd H p (L2.DX.itemsO p a))
theorem mt_nitems : MtR X "dict.items" (rNItems X.prog X.w) := by
  intro pins s σ H x xs v us Q I rx rxs h
  obtain ⟨a, n, T, rfl, rfl, tb, q⟩ := h
  cases rx
  cases rxs
  obtain ⟨ys, ps, hd, r1, r2, hz, hs, o, es, ep, ho, hx, hdat, hes, his, hn⟩ := tb.at_ I
  refine DT.callItems (es := es) (ep := ep) hs ⟨o, ho, hx, hdat⟩ ?_
  have hf : H s.heap.objs.size = none := I.hok.fresh (Nat.le_refl _)
  exact ⟨.ref s.heap.objs.size, upd H s.heap.objs.size (L2.DX.itemsO s.heap.objs.size a), I.laid (t' := s.toks) (fun b u e => Heap.get?_push_of_some _ e) (Nat.le_refl _) (L2.DX.itemsO_ok (Heap.get?_push_size _ rfl)), rfl, q _ hf⟩
def tNItems (P : Program) (w : World) (td : TE) : TE := fun σ H Q => td σ H fun x H1 => rNItems P w x [] H1 Q
theorem pe_nitems {o : Expr} {td : TE} {apos cpos : Pos} (ho : PE X o td) (hbase : attributeBase o "items" X.env (eval o X.env) = eval o X.env := by rfl) (hline : (apos.endLine == cpos.line) = true := by rfl) :
    PE X (.Call (.Attribute o "items" apos) [] [] cpos) (tNItems X.prog X.w td) := by
  refine ⟨fun pins s σ H Q I h => ?_⟩
  refine wpAny_Call_method (T := "dict") (id := "dict.items") hbase rfl hline PySem.F.plainAttrs_dict PySem.F.slot_dict_items PySem.F.type_dict_items (thn (ho.run pins s σ H _ I h) fun u s1 ⟨x, H1, I1, rx, a, n, T, ex, _, tb, q⟩ => ?_)
  subst ex
  obtain rfl : u = Value.ref a := rx
  obtain ⟨_, _, _, _, _, _, _, dd0⟩ := tb.at_ I1
  refine ⟨dd0.typeIs, fun b q => ?_, ?_⟩
  · cases q
    obtain ⟨ob, _, _, h1, h2, _⟩ := dd0
    exact ⟨ob, h1, h2.2.1⟩
  show wpAny _ _ (callWith cpos (.builtin "dict.items") [.ref a] [] []) _ X.xe s1
  refine callWith_method0 (env := X.env) (first := [.ref a]) ?_
  exact mt_nitems pins s1 σ H1 (.ref a) [] (.ref a) [] Q I1 rfl .nil ⟨a, n, T, rfl, rfl, tb, q⟩
def rSortNI (P : Program) (w : World) : List V → Hp → VK → Prop := fun vs H Q => ∃ p a n T, vs = [.ref p] ∧ H p = some (L2.DX.itemsO p a) ∧ Tb P w H a n T ∧ ∀ l H', H l = none → Ex H H' → Ls H' l ((T.mergeSort (dataLe false (dTerm n))).map (dTerm n)) → Q (.ref l) H'
theorem cr_sortedNI (hc : X.calm = true) (hu : X.A.units + 64 < cLine) : CallR X (.builtin "sorted") (rSortNI X.prog X.w) := by
  intro pins s σ H xs us Q I rv h
  obtain ⟨p, a, n, T, rfl, hp, tb, q⟩ := h
  obtain ⟨u, rfl, ru⟩ := vals1 rv
  cases ru
  have view : s.heap.IsItemsView p a := (show ObjOk X.prog X.w H s.heap p (L2.DX.itemsO p a) from I.hok p _ hp).1
  obtain ⟨ys, ps, hd, r1, r2, hz, hs, o, es, ep, ho, hx, hdat, hes, his, hn⟩ := tb.at_ I
  have e1 : T.length = ys.length := pair_len r1
  have e2 : ys.length = ps.length := pair_len r2
  have e4 : es.size = ps.length := by rw [← Array.length_toList, hes, List.length_map]
  refine DT.sortedI (es := es) (ep := ep) (I.ok.hd hc) view ⟨o, ho, hx, hdat⟩ (by omega) fun h' tk as hk hlt hl hG => ?_
  have nd : as.Nodup := List.Pairwise.imp (fun h => Nat.ne_of_lt h) hG.rise
  have I1 : Inv X pins σ H { s with heap := h', toks := tk } := I.kept (t' := tk) hk
  have pr : ∀ (j : Nat) (b : Addr), as[j]? = some b → ∃ (t : List Nat × List Int) (v1 v2 : V) (u1 u2 : Value), T[j]? = some t ∧ Tp H v1 (dMat n t.1) ∧ Tp H v2 (dP t.2) ∧ RelV v1 u1 ∧ RelV v2 u2 ∧ h'.get? b = some { cls := .type "tuple", data := .seq #[u1, u2] } := by
    intro j b hj
    obtain ⟨en, he, hg⟩ := hG.pairs j b hj
    have hj' : j < as.length := (List.getElem?_eq_some_iff.mp hj).1
    have hpj : ps[j]? = some ps[j] := List.getElem?_eq_getElem (by omega)
    obtain ⟨y, hy, hyx⟩ := p_get' r2 hpj
    obtain ⟨t, ht, hty⟩ := p_get' r1 hy
    have he' : es.toList[j]? = some en := by rw [Array.getElem?_toList]; exact he
    rw [hes, List.getElem?_map, hpj] at he'
    cases he'
    refine ⟨t, .ref y.2.1, y.2.2, _, _, ht, by rw [hty.1]; exact hty.2.1, hty.2.2, ?_, hyx.2.2, hg⟩
    show Value.ref ps[j].2.1 = Value.ref y.2.1
    rw [hyx.2.1]
  obtain ⟨H1, I2, g, qt⟩ := L2.DX.takeT (P := fun b vs => ∃ (j : Nat) (t : List Nat × List Int) (v1 v2 : V), as[j]? = some b ∧ T[j]? = some t ∧ vs = [v1, v2] ∧ Tp H v1 (dMat n t.1) ∧ Tp H v2 (dP t.2)) I as H I1 nd fun b hb => by
    obtain ⟨j, hj⟩ := List.mem_iff_getElem?.mp hb
    obtain ⟨t, v1, v2, u1, u2, ht, t1, t2, rr1, rr2, hg⟩ := pr j b hj
    have hbl : s.heap.objs.size ≤ b := Nat.le_of_lt (hG.above b hb)
    exact ⟨hbl, I.hok.fresh hbl, [v1, v2], ⟨j, t, v1, v2, hj, ht, rfl, t1, t2⟩, fun H3 => ⟨(by rw [sizeLine_eq]; show 2 ≤ 16777216; omega), [u1, u2], .cons rr1 (.cons rr2 .nil), ⟨_, hg, rfl, 0, rfl⟩⟩⟩
  have gx : Ex H H1 := g
  have hstd : EachIs (Std H1 (dTerm n)) (as.map Value.ref) T := by
    have key : ∀ (T' : Tab) (as' : List Addr), as'.length = T'.length → (∀ (j : Nat) (b : Addr) (t : List Nat × List Int), as'[j]? = some b → T'[j]? = some t → Tp H1 (.ref b) (dTerm n t)) → EachIs (Std H1 (dTerm n)) (as'.map Value.ref) T' := by
      intro T'
      induction T' with
      | nil => intro as' hl _; rw [List.length_eq_zero_iff.mp hl]; exact .nil
      | cons t T' ih =>
        intro as' hl hh
        cases as' with
        | nil => simp at hl
        | cons b as' => exact .cons ⟨.ref b, rfl, hh 0 b t rfl rfl⟩ (ih as' (by simpa using hl) fun j b' t' h1 h2 => hh (j + 1) b' t' (by simpa using h1) (by simpa using h2))
    refine key T as (by omega) fun j b t hj ht => ?_
    obtain ⟨vs, ⟨i, t', v1, v2, hi, ht', rfl, t1, t2⟩, hb⟩ := qt b (List.mem_of_getElem? hj)
    have eij : i = j := (List.getElem?_inj (List.getElem?_eq_some_iff.mp hi).1 nd).mp (hi.trans hj.symm)
    subst eij
    rw [ht] at ht'; cases ht'
    exact .tup (.inl hb) (.cons (t1.ex gx) (.cons (t2.ex gx) .nil))
  have hrd := std_reads I2 hstd
  have noad : EachIs (fun v b => ∃ ads, Reads (h'.push { cls := .type "list", data := .seq (as.map Value.ref).toArray }) v (dTerm n b) ads ∧ h'.objs.size ∉ ads) (as.map Value.ref) T :=
    hstd.mono fun v b ⟨x, rx, tx⟩ => ⟨[], PyProof.Rows.Reads.keeps (fun _ _ e => Heap.get?_push_of_some _ e) (Tp.noAddr I2 tx rx), by simp⟩
  have sz : T.length ≤ sizeLine := by omega
  refine PySem.W.list_sort_data (s := { s with heap := h'.push { cls := .type "list", data := .seq (as.map Value.ref).toArray }, toks := tk }) (n := 0) (Heap.get?_push_size _ rfl) hstd noad (.of fun b b' => alike_Term n n b b') (.tuples fun b => ⟨_, _, rfl⟩) sz (fun b _ => ?_) fun out ho2 eo => ?_
  · rw [depth_Term]; show X.A.units + 1 + 1 + 3 < cLine; omega
  obtain ⟨zs, rz, tz⟩ := of_std eo
  obtain ⟨c, hc2⟩ := sortedHeap_at (out := out.toArray) (show (h'.push { cls := .type "list", data := .seq (as.map Value.ref).toArray }).get? h'.objs.size = some (seqObj "list" (as.map Value.ref).toArray 0) from Heap.get?_push_size _ rfl)
  have fr : H1 h'.objs.size = none := I2.hok.fresh (Nat.le_refl _)
  have zl : zs.length ≤ sizeLine := by rw [rz.length, ho2]; exact sz
  have kp : ∀ b o, h'.get? b = some o → (sortedHeap (h'.push { cls := .type "list", data := .seq (as.map Value.ref).toArray }) h'.objs.size (as.map Value.ref) out.toArray).get? b = some o := fun b o e1 => by
    rw [sortedHeap_old (Nat.ne_of_lt (Heap.lt_size e1)) (by rw [Heap.size_push]; exact Nat.lt_succ_of_lt (Heap.lt_size e1))]
    exact Heap.get?_push_of_some _ e1
  exact ⟨.ref h'.objs.size, _, I2.laid (t' := tk) (o := .lst zs) kp (Nat.le_refl _) ⟨zl, out, c, rz, hc2⟩, rfl, q _ _ (gx.back fr) (gx.trans (Ex.new fr)) ⟨zs, upd_same, tz.ex (Ex.new fr)⟩⟩
/-! ### tuples known to their objects -/
def kTupF (K : PySem.W.Frag) (x : V) (H : Hp) (Q : VK) : Prop := ∃ p xs, x = .ref p ∧ SqL K H p xs ∧ ∀ q o, H q = none → o.dict = none → Q (.ref q) (upd H q (.frz o (.tup xs)))
theorem pe_tupleF {a : Expr} {ta : TE} {p pos : Pos} (hg : Gl X "tuple") (hm : X.mg "tuple" = none) (ha : PE X a ta) (na : starEach [a] X.env = (false, eval a X.env) :: starEach [] X.env := by rfl) :
    PE X (.Call (.Name "tuple" p) [a] [] pos) (tThen ta (kTupF X.K)) := by
  refine ⟨fun pins s σ H Q I h => ?_⟩
  refine Call_ (ld_blt I hg hm boot_tuple (PyProof.Rows.callWith_type1 (one_arg ha I h (fun v s2 x H2 I2 r q => ?_) na) na))
  obtain ⟨p, xs, rfl, hs, q⟩ := q
  obtain rfl : v = .ref p := r
  obtain ⟨its, rv, pl, hz⟩ := I2.list hs
  refine call_tuple_list pl.isList (fun h' hk => ?_) (by rw [List.size_toArray, ← rv.length]; exact hz)
  have I1 : Inv X pins σ H2 { s2 with heap := h' } := I2.kept (t' := s2.toks) hk
  have I3 : Inv X pins σ (upd H2 h'.objs.size (.frz { cls := .type "tuple", data := .seq its.toArray } (.tup xs))) { s2 with heap := h'.push { cls := .type "tuple", data := .seq its.toArray } } :=
    I1.laid (t' := s2.toks) (fun b o e => Heap.get?_push_of_some _ e) (Nat.le_refl _) (show ObjOk X.prog X.w _ _ _ (.frz _ (.tup xs)) from ⟨Heap.get?_push_size _ rfl, hz, its, rv, IsTup.new _ _⟩)
  exact ⟨.ref h'.objs.size, _, I3, rfl, q _ _ (I1.hok.fresh (Nat.le_refl _)) rfl⟩
def tTupF (t : TA) : TE := fun σ H Q => t σ H fun xs H1 => xs.length ≤ sizeLine ∧ ∀ p o, H1 p = none → o.dict = none → Q (.ref p) (upd H1 p (.frz o (.tup xs)))
theorem pe_tupF {es : List Expr} {t : TA} {x1} {pos : Pos} (h : PA X es t) : PE X (.Tuple es x1 pos) (tTupF t) := by
  refine ⟨fun pins s σ H Q I hq => ?_⟩
  refine wpAny_Tuple_spliced (thn (h.run pos pins s σ H _ I hq) fun us s1 ⟨xs, H1, I1, r, z, q⟩ => ⟨by rw [← r.length]; exact z, ?_⟩)
  have hf : H1 s1.heap.objs.size = none := I1.hok.fresh (Nat.le_refl _)
  refine ⟨.ref s1.heap.objs.size, upd H1 s1.heap.objs.size (.frz { cls := .type "tuple", data := .seq us.toArray } (.tup xs)), I1.laid (t' := s1.toks) (fun b u e => Heap.get?_push_of_some _ e) (Nat.le_refl _) ?_, rfl, q _ _ hf rfl⟩
  exact ⟨Heap.get?_push_size _ rfl, z, us, r, ⟨_, Heap.get?_push_size _ rfl, rfl, _, rfl⟩⟩
end
/-! readings -/
def EvF (te : TE) (σ : L2.St) (H : Hp) (d : PyData) : Prop := ∀ H1, Ex H H1 → ∀ Q : VK, (∀ v H2, Ex H1 H2 → Fz H2 v d → Q v H2) → te σ H1 Q
/-- hands back data known to its object, writes nothing -/
def spF (R : Hp → List V → PyData → Prop) : Sp := fun vs H Q _ => ∃ d, R H vs d ∧ ∀ v H', Ex H H' → Fz H' v d → Q v H'
section
variable {K : PySem.W.Frag} {σ : L2.St} {H H' : Hp} {ta tb tb' tc te tx : TE} {tr : TA} {t u : TT} {x y z v : V} {d d' : PyData} {ds es : List PyData} {D : Ends} {tu tw : TS} {g : TG} {E : XK}
theorem EvF.evd (h : EvF te σ H d) : EvD te σ H d := fun H1 e1 Q q => h H1 e1 _ fun v H2 e2 f => q v H2 e2 f.tp
theorem EvF.is (h : EvF te σ H d) (e : d = d') : EvF te σ H d' := e ▸ h
theorem s_retF (h : EvF te σ H d) (k : ∀ v H1, Ex H H1 → Fz H1 v d → D.rt v H1) : tRet te D σ H := h H (Ex.refl _) _ k
theorem s_asgF {i : Nat} (h : EvF te σ H d) (k : ∀ v H1, Ex H H1 → Fz H1 v d → D.nx (σ.set i (some v)) H1) : tAsg te (gName i) D σ H := h H (Ex.refl _) _ k
theorem evf_var {i : Nat} (h : σ[i]? = some (some v)) (t : Fz H v d) : EvF (tVar i) σ H d := fun H1 e Q q => ⟨v, h, q v H1 (Ex.refl _) (t.ex e)⟩
theorem evf_tupN (ha : EvN ta σ H ds) : EvF (tThen ta (kTupF K)) σ H (.tuple ds) :=
  fun H1 e1 Q q => ha H1 e1 _ fun p H2 np e2 hl => by
    obtain ⟨xs, hx, r⟩ := hl
    exact ⟨p, xs, rfl, SqL.of hx, fun w o hw ho => q _ _ (e2.trans (Ex.new hw)) ⟨w, o, xs, ds, rfl, rfl, upd_same, ho, r.ex (Ex.new hw)⟩⟩
theorem evf_tup {ta : TA} (h : EvA ta σ H ds) (hl : ds.length ≤ 100000 := by exact Nat.le_of_ble_eq_true rfl) : EvF (tTupF ta) σ H (.tuple ds) :=
  fun H1 e1 Q q => h H1 e1 _ fun xs H2 e2 txs => ⟨small_le (by rw [txs.length]; exact hl), fun p o hp ho => q _ _ (e2.trans (Ex.new hp)) ⟨p, o, xs, ds, rfl, rfl, upd_same, ho, txs.ex (Ex.new hp)⟩⟩
theorem evf_callF {R : Hp → List V → PyData → Prop} {as : List AK} (h : EvM tr σ H as) (r : ∀ vs H1, Ex H H1 → AkAll H1 vs as → R H1 vs d) : EvF (tCall (spF R) [] E tr) σ H d :=
  fun H1 e1 Q q => h H1 e1 _ fun vs H2 e2 ok => ⟨d, by rw [List.append_nil]; exact r vs H2 (e1.trans e2) ok, fun v H3 e3 tv => q v H3 (e2.trans e3) tv⟩
/-- sorted(d.items()) -/
theorem evn_sortedNI {P : Program} {w : World} {a : Addr} {n : Nat} {T : Tab} (ha : EvV ta σ H (.ref a)) (tb : Tb P w H a n T) :
    EvN (tCB (rSortNI P w) (tCons (tNItems P w ta) tNil)) σ H ((T.mergeSort (dataLe false (dTerm n))).map (dTerm n)) :=
  fun H1 e1 Q q => ha H1 e1 _ fun H2 e2 => ⟨a, n, T, rfl, rfl, tb.ex (e1.trans e2), fun p hp => ⟨p, a, n, T, rfl, upd_same, (tb.ex (e1.trans e2)).ex (Ex.new hp), fun l H' hl e3 ls => q l H' ((e2.trans (Ex.new hp)).back hl) ((e2.trans (Ex.new hp)).trans e3) ls⟩⟩
theorem evd_nget {P : Program} {w : World} {a : Addr} {n : Nat} {T : Tab} {M : List Nat} {p : List Int} (ho : EvV ta σ H (.ref a)) (tb : Tb P w H a n T) (hi : EvD tb' σ H (dMat n M)) (hg : tget T M = some p) : EvD (tNGet P w ta tb') σ H (dP p) :=
  fun H1 e1 Q q => ho H1 e1 _ fun H2 e2 => hi H2 (e1.trans e2) _ fun y H3 e3 ty => ⟨a, n, T, M, p, rfl, tb.ex ((e1.trans e2).trans e3), ty, hg, fun v tv => q v H3 (e2.trans e3) tv⟩
theorem evd_nget2 {P : Program} {w : World} {a : Addr} {n : Nat} {T : Tab} {M : List Nat} (ho : EvV ta σ H (.ref a)) (tb : Tb P w H a n T) (hi : EvD tb' σ H (dMat n M)) (hx : EvD tc σ H (dP [])) : EvD (tNGet2 P w ta tb' tc) σ H (dP ((tget T M).getD [])) :=
  fun H1 e1 Q q => ho H1 e1 _ fun H2 e2 => ⟨a, n, T, rfl, tb.ex (e1.trans e2), hi H2 (e1.trans e2) _ fun y H3 e3 ty => hx H3 ((e1.trans e2).trans e3) _ fun z H4 e4 tz => by
    have e5 := (e2.trans e3).trans e4
    refine ⟨n, T, M, tb.ex (e1.trans e5), ty.ex e4, fun v p hp tv => ?_, fun hn => ?_⟩
    · rw [hp] at q; exact q v H4 e5 tv
    · rw [hn] at q; exact q z H4 e5 tz⟩
theorem s_nput {P : Program} {w : World} {a : Addr} {n : Nat} {T : Tab} {M : List Nat} {p : List Int} (hv : EvD te σ H (dP p)) (ho : EvV ta σ H (.ref a)) (hi : EvD tb' σ H (dMat n M)) (tb : Tb P w H a n T) (hl : T.length < 100000) (k : ∀ H4, ExB a H H4 → Tb P w H4 a n (tput T M p) → D.nx σ H4) : sNPut P w ta tb' te D σ H :=
  hv H (Ex.refl _) _ fun v H1 e1 tv => ho H1 e1 _ fun H2 e2 => hi H2 (e1.trans e2) _ fun y H3 e3 ty => ⟨a, n, T, M, p, rfl, tb.ex ((e1.trans e2).trans e3), ty, tv.ex (e2.trans e3), hl, fun H4 b4 tb4 => k H4 ((((e1.trans e2).trans e3).b a).trans b4) tb4⟩
theorem s_asgT {P : Program} {w : World} {i : Nat} {n : Nat} (k : ∀ p H1, H p = none → Ex H H1 → Tb P w H1 p n [] → D.nx (σ.set i (some (.ref p))) H1) : tAsg (tNNew P w) (gName i) D σ H := ⟨n, k⟩
/-- sorted(table): its keys -/
theorem evn_sortedNK {P : Program} {w : World} {a : Addr} {n : Nat} {T : Tab} (ha : EvV ta σ H (.ref a)) (tb : Tb P w H a n T) : EvN (tCB (rSortedNK P w) (tCons ta tNil)) σ H (((T.map (·.1)).mergeSort leL).map (dMat n)) :=
  fun H1 e1 Q q => ha H1 e1 _ fun H2 e2 => ⟨a, n, T, rfl, tb.ex (e1.trans e2), fun l H' hl e3 ls => q l H' (e2.back hl) (e2.trans e3) ls⟩
end
section
variable {X : Cx}
theorem pe_ngetK {P : Program} {w : World} {o i : Expr} {td ty : TE} {pos : Pos} (h1 : X.prog = P) (h2 : X.w = w) (hu : X.A.units + 64 < cLine) (ho : PE X o td) (hi : PE X i ty) (hs : NoSl i) : PE X (.Subscript o i pos) (tNGet P w td ty) := by
  subst h1 h2; exact pe_nget hu ho hi hs
end
end Hk


namespace Hk
open PySem.W (dataLe dataLt)
/-! ### sums in plain Lean -/
theorem leL_iff {a b : List Nat} : leL a b = true ↔ a ≤ b := by
  unfold leL
  simp only [Bool.not_eq_true', decide_eq_false_iff_not]
  exact List.not_lt
theorem le_cases {a b : List Nat} (h : a ≤ b) : a < b ∨ a = b := by
  by_cases q : a < b
  · exact .inl q
  · exact .inr (List.le_antisymm h (List.not_lt.mp q))
theorem leL_trans (a b c : List Nat) (h1 : leL a b = true) (h2 : leL b c = true) : leL a c = true := leL_iff.mpr (List.le_trans (leL_iff.mp h1) (leL_iff.mp h2))
theorem leL_total (a b : List Nat) : (leL a b || leL b a) = true := by
  rcases List.le_total a b with h | h
  · rw [leL_iff.mpr h]; rfl
  · rw [leL_iff.mpr h]; simp
def Asc (S : Tab) : Prop := S.Pairwise fun s t => s.1 < t.1
theorem Asc.nodup {S : Tab} (h : Asc S) : (S.map (·.1)).Nodup := by
  unfold Asc at h
  rw [List.Nodup, List.pairwise_map]
  exact h.imp fun h e => by rw [e] at h; exact List.lt_irrefl _ h
theorem tget_cons (t : List Nat × List Int) (T : Tab) (M : List Nat) : tget (t :: T) M = if t.1 = M then some t.2 else tget T M := by
  unfold tget
  by_cases e : t.1 = M
  · rw [if_pos e, List.find?_cons_of_pos (by simpa using e)]; rfl
  · rw [if_neg e, List.find?_cons_of_neg (by simpa using e)]
theorem tget_none {T : Tab} {M : List Nat} : tget T M = none ↔ M ∉ T.map (·.1) := by
  induction T with
  | nil => simp [tget]
  | cons t T ih =>
    rw [tget_cons]
    by_cases e : t.1 = M
    · simp [e]
    · rw [if_neg e, ih, List.map_cons, List.mem_cons]; exact ⟨fun h q => q.elim (fun q => e q.symm) h, fun h q => h (.inr q)⟩
theorem tget_mem {T : Tab} {M : List Nat} {p : List Int} (h : tget T M = some p) : (M, p) ∈ T := by
  induction T with
  | nil => simp [tget] at h
  | cons t T ih =>
    rw [tget_cons] at h
    by_cases e : t.1 = M
    · rw [if_pos e] at h; cases h; subst e; exact List.mem_cons_self ..
    · rw [if_neg e] at h; exact List.mem_cons_of_mem _ (ih h)
theorem tget_of_mem {T : Tab} (hn : (T.map (·.1)).Nodup) {t : List Nat × List Int} (h : t ∈ T) : tget T t.1 = some t.2 := by
  induction T with
  | nil => cases h
  | cons u T ih =>
    rw [tget_cons]
    rw [List.map_cons, List.nodup_cons] at hn
    rcases List.mem_cons.mp h with rfl | h
    · rw [if_pos rfl]
    · have : ¬ u.1 = t.1 := fun e => hn.1 (by rw [e]; exact List.mem_map_of_mem h)
      rw [if_neg this]; exact ih hn.2 h
theorem tput_keys {T : Tab} {M : List Nat} {p : List Int} : (tput T M p).map (·.1) = if M ∈ T.map (·.1) then T.map (·.1) else T.map (·.1) ++ [M] := by
  unfold tput
  by_cases h : tget T M = none
  · have h2 := tget_none.mp h
    rw [if_neg (by simp [h]), if_neg h2]; simp
  · obtain ⟨q, hq⟩ : ∃ q, tget T M = some q := by cases e : tget T M with | none => exact absurd e h | some q => exact ⟨q, rfl⟩
    have h2 : M ∈ T.map (·.1) := by
      by_cases h3 : M ∈ T.map (·.1)
      · exact h3
      · exact absurd (tget_none.mpr h3) h
    rw [if_pos (by simp [hq]), if_pos h2, List.map_map]
    refine List.map_congr_left fun t _ => ?_
    show (if t.1 = M then (t.1, p) else t).1 = t.1
    split <;> rfl
theorem tput_nodup {T : Tab} {M : List Nat} {p : List Int} (h : (T.map (·.1)).Nodup) : ((tput T M p).map (·.1)).Nodup := by
  rw [tput_keys]
  by_cases e : M ∈ T.map (·.1)
  · rw [if_pos e]; exact h
  · rw [if_neg e]
    rw [List.nodup_append]
    exact ⟨h, by simp, fun a ha b hb => by simp at hb; subst hb; intro q; exact e (q ▸ ha)⟩
theorem tput_len (T : Tab) (M : List Nat) (p : List Int) : (tput T M p).length ≤ T.length + 1 := by
  unfold tput; split <;> simp
theorem tput_mem {T : Tab} {M : List Nat} {p : List Int} {t : List Nat × List Int} (h : t ∈ tput T M p) : t = (M, p) ∨ t ∈ T := by
  unfold tput at h
  split at h
  · obtain ⟨u, hu, e⟩ := List.mem_map.mp h
    by_cases q : u.1 = M
    · rw [if_pos q] at e; left; rw [← e, q]
    · rw [if_neg q] at e; right; rw [← e]; exact hu
  · rcases List.mem_append.mp h with h | h
    · exact .inr h
    · left; simpa using h
/-- the ascending list of what is not () -/
def keep (T : Tab) (M : List Nat) : Option (List Nat × List Int) := match tget T M with
  | some p => if p = [] then none else some (M, p)
  | none => none
def listT (T : Tab) : Tab := ((T.map (·.1)).mergeSort leL).filterMap (keep T)
theorem keep_fst {T : Tab} {M : List Nat} {t : List Nat × List Int} (h : keep T M = some t) : t.1 = M ∧ t.2 ≠ [] ∧ tget T M = some t.2 := by
  unfold keep at h
  cases e : tget T M with
  | none => rw [e] at h; cases h
  | some p =>
    rw [e] at h
    dsimp only at h
    by_cases hp : p = []
    · rw [if_pos hp] at h; cases h
    · rw [if_neg hp] at h; cases h; exact ⟨rfl, hp, rfl⟩
theorem keys_asc {T : Tab} (h : (T.map (·.1)).Nodup) : ((T.map (·.1)).mergeSort leL).Pairwise (· < ·) := by
  have h1 : ((T.map (·.1)).mergeSort leL).Pairwise fun a b => leL a b = true := List.pairwise_mergeSort leL_trans leL_total _
  have h2 : ((T.map (·.1)).mergeSort leL).Nodup := (List.mergeSort_perm _ _).nodup_iff.mpr h
  exact h1.imp₂ (fun a b h1 h2 => by
    rcases le_cases (leL_iff.mp h1) with h | h
    · exact h
    · exact absurd h h2) h2
theorem listT_asc {T : Tab} (h : (T.map (·.1)).Nodup) : Asc (listT T) := by
  unfold listT Asc
  rw [List.pairwise_filterMap]
  exact (keys_asc h).imp fun hlt b hb b' hb' => by rw [(keep_fst hb).1, (keep_fst hb').1]; exact hlt
theorem listT_mem {T : Tab} {t : List Nat × List Int} (h : t ∈ listT T) : t ∈ T ∧ t.2 ≠ [] := by
  unfold listT at h
  obtain ⟨M, _, hk⟩ := List.mem_filterMap.mp h
  obtain ⟨e, hn, hg⟩ := keep_fst hk
  have := tget_mem hg
  rw [← e] at this
  exact ⟨this, hn⟩
theorem listT_len (T : Tab) : (listT T).length ≤ T.length := by
  unfold listT
  refine Nat.le_trans (List.length_filterMap_le _ _) ?_
  rw [List.length_mergeSort, List.length_map]; exact Nat.le_refl _
/-- ascending lists with the same members are one -/
theorem asc_unique : ∀ {S T : Tab}, Asc S → Asc T → (∀ t, t ∈ S ↔ t ∈ T) → S = T
  | [], [], _, _, _ => rfl
  | [], t :: T, _, _, h => absurd ((h t).mpr (List.mem_cons_self ..)) (by simp)
  | s :: S, [], _, _, h => absurd ((h s).mp (List.mem_cons_self ..)) (by simp)
  | s :: S, t :: T, hS, hT, h => by
    unfold Asc at hS hT
    rw [List.pairwise_cons] at hS hT
    have e : s = t := by
      rcases List.mem_cons.mp ((h s).mp (List.mem_cons_self ..)) with e | h1
      · exact e
      · rcases List.mem_cons.mp ((h t).mpr (List.mem_cons_self ..)) with e | h2
        · exact e.symm
        · exact absurd (List.lt_trans (hS.1 _ h2) (hT.1 _ h1)) (List.lt_irrefl _)
    subst e
    congr 1
    refine asc_unique hS.2 hT.2 fun u => ?_
    constructor
    · intro hu
      rcases List.mem_cons.mp ((h u).mp (List.mem_cons_of_mem _ hu)) with e | h1
      · subst e; exact absurd (hS.1 _ hu) (List.lt_irrefl _)
      · exact h1
    · intro hu
      rcases List.mem_cons.mp ((h u).mpr (List.mem_cons_of_mem _ hu)) with e | h1
      · subst e; exact absurd (hT.1 _ hu) (List.lt_irrefl _)
      · exact h1
theorem mem_listT {T : Tab} (hn : (T.map (·.1)).Nodup) {t : List Nat × List Int} : t ∈ listT T ↔ t ∈ T ∧ t.2 ≠ [] := by
  refine ⟨listT_mem, fun ⟨h, hne⟩ => ?_⟩
  unfold listT
  refine List.mem_filterMap.mpr ⟨t.1, ?_, ?_⟩
  · exact (List.mergeSort_perm _ _).mem_iff.mpr (List.mem_map_of_mem h)
  · unfold keep
    rw [tget_of_mem hn h]
    dsimp only
    rw [if_neg hne]
theorem listT_self {T : Tab} (h : Asc T) (hne : ∀ t ∈ T, t.2 ≠ []) : listT T = T :=
  asc_unique (listT_asc h.nodup) h fun t => by rw [mem_listT h.nodup]; exact ⟨fun h => h.1, fun h => ⟨h, hne t h⟩⟩
/-! sorting terms -/
theorem dataLt_Term2 (n : Nat) (s t : List Nat × List Int) : dataLt (dTerm n s) (dTerm n t) = if s.1 = t.1 then decide (s.2 < t.2) else decide (s.1 < t.1) := by
  by_cases h : s.1 = t.1
  · rw [if_pos h]
    show PyProof.Rows.lexLt PyProof.Rows.itemOrd (PySem.W.keyToksAll (dMat n s.1 :: [dP s.2])) (PySem.W.keyToksAll (dMat n t.1 :: [dP t.2])) = _
    rw [PySem.W.dataLt_cons (alike_Mat n n s.1 t.1), eqv_Mat, if_pos (by simpa using h)]
    rw [PySem.W.dataLt_cons (alike_P s.2 t.2), eqv_P]
    by_cases e : s.2 = t.2
    · rw [if_pos (by simpa using e), e]
      simp [PyProof.Rows.lexLt, PySem.W.keyToksAll, List.lt_irrefl]
      rfl
    · rw [if_neg (by simpa using e)]
      exact PySem.W.dataLt_ints _ _
  · rw [if_neg h]; exact dataLt_Term n s t h
def leT (s t : List Nat × List Int) : Bool := if t.1 = s.1 then !decide (t.2 < s.2) else !decide (t.1 < s.1)
theorem dataLe_Term (n : Nat) : dataLe false (dTerm n) = leT := by
  funext a b
  rw [PySem.W.dataLe_eq]
  show (!dataLt (dTerm n b) (dTerm n a)) = _
  rw [dataLt_Term2]
  unfold leT
  split <;> rfl
theorem leT_total (a b : List Nat × List Int) : (leT a b || leT b a) = true := by
  unfold leT
  by_cases h : b.1 = a.1
  · rw [if_pos h, if_pos h.symm]
    simp only [Bool.or_eq_true, Bool.not_eq_true', decide_eq_false_iff_not]
    rcases List.le_total a.2 b.2 with q | q
    · exact .inl (List.not_lt.mpr q)
    · exact .inr (List.not_lt.mpr q)
  · rw [if_neg h, if_neg (fun e => h e.symm)]
    simp only [Bool.or_eq_true, Bool.not_eq_true', decide_eq_false_iff_not]
    rcases List.le_total a.1 b.1 with q | q
    · exact .inl (List.not_lt.mpr q)
    · exact .inr (List.not_lt.mpr q)
theorem leT_iff {a b : List Nat × List Int} : leT a b = true ↔ a.1 < b.1 ∨ (a.1 = b.1 ∧ a.2 ≤ b.2) := by
  unfold leT
  by_cases h : b.1 = a.1
  · rw [if_pos h]
    simp only [Bool.not_eq_true', decide_eq_false_iff_not, List.not_lt]
    exact ⟨fun q => .inr ⟨h.symm, q⟩, fun q => q.elim (fun q => absurd (h ▸ q) (List.lt_irrefl _)) fun q => q.2⟩
  · rw [if_neg h]
    simp only [Bool.not_eq_true', decide_eq_false_iff_not, List.not_lt]
    constructor
    · intro q
      rcases le_cases q with q | q
      · exact .inl q
      · exact absurd q.symm h
    · intro q
      rcases q with q | q
      · exact List.le_of_lt q
      · exact absurd q.1.symm h
theorem leT_trans (a b c : List Nat × List Int) (h1 : leT a b = true) (h2 : leT b c = true) : leT a c = true := by
  rw [leT_iff] at *
  rcases h1 with h1 | ⟨h1, h1'⟩
  · rcases h2 with h2 | ⟨h2, _⟩
    · exact .inl (List.lt_trans h1 h2)
    · exact .inl (h2 ▸ h1)
  · rcases h2 with h2 | ⟨h2, h2'⟩
    · exact .inl (h1 ▸ h2)
    · exact .inr ⟨h1.trans h2, List.le_trans h1' h2'⟩
theorem sortT_asc {T : Tab} (h : (T.map (·.1)).Nodup) : Asc (T.mergeSort leT) := by
  have h1 : (T.mergeSort leT).Pairwise fun a b => leT a b = true := List.pairwise_mergeSort leT_trans leT_total _
  have h2 : ((T.mergeSort leT).map (·.1)).Nodup := ((List.mergeSort_perm T leT).map (·.1)).nodup_iff.mpr h
  rw [List.Nodup, List.pairwise_map] at h2
  exact h1.imp₂ (fun a b h1 h2 => by
    rcases leT_iff.mp h1 with h | h
    · exact h
    · exact absurd h.1 h2) h2
theorem sortT_mem {T : Tab} {t : List Nat × List Int} : t ∈ T.mergeSort leT ↔ t ∈ T := (List.mergeSort_perm T leT).mem_iff
end Hk


namespace Hk
open PySem PySem.Spec PyProof.Rows L2
/-! ### sums on the heap -/
/-- terms with their own numbers of pegs -/
abbrev Tr := Nat × List Nat × List Int
def dT3 (t : Tr) : PyData := dTerm t.1 t.2
def dSumG (L : List Tr) : PyData := .tuple (L.map dT3)
def isSumF : Option (Nat × List Nat) → List Tr → Bool
  | _, [] => true
  | last, t :: r => if t.2.2 = [] ∨ t.2.2.getLast? = some 0 then false else match last with
    | none => isSumF (some (t.1, t.2.1)) r
    | some (m, L) => if t.1 = m ∧ L < t.2.1 then isSumF (some (t.1, t.2.1)) r else false
def dLast : Option (Nat × List Nat) → PyData
  | none => .none
  | some (m, L) => dMat m L
theorem cut2 (n : Nat) (M : List Nat) : cutD [.int n, .int n, dN M] none (some 2) = [.int n, .int n] := by
  have := cutD_take (ds := [.int n, .int n, dN M]) (s := 2) (by simp)
  simpa using this
theorem sh_two (n : Nat) : SeqAt.shaped (.tuple [.int (n : Int), .int n]) = true := sh_P [n, n]
theorem eqv_two (n m : Nat) : PyData.eqv (.tuple [.int (n : Int), .int n]) (.tuple [.int (m : Int), .int m]) = decide (n = m) := by
  have := eqv_P [(n : Int), n] [(m : Int), m]
  show PyData.eqv (dP [(n : Int), n]) (dP [(m : Int), m]) = _
  rw [this]; exact decide_eq_decide.mpr (by simp; omega)
theorem keep_data {T : Tab} {n : Nat} : ((((T.map (·.1)).mergeSort leL).map (keep T)).map (Option.map (dTerm n))).filterMap id = (listT T).map (dTerm n) := by
  unfold listT
  rw [List.map_map, List.filterMap_map, List.map_filterMap]
  rfl
local macro_rules | `(tactic| walk_at "tp") => `(tactic| first | assumption | exact .int _ | exact .bl _ | solve_by_elim (maxDepth := 6) [Tp.ex])
section
variable {P : Program} {w : World} {K : PySem.W.Frag} {mg : Str → Option Value} {base : Heap}
abbrev sp_listed (P : Program) (w : World) : Sp := spN fun H vs d => ∃ a n T, vs = [.ref a] ∧ Tb P w H a n T ∧ T.length ≤ 10000 ∧ d = (listT T).map (dTerm n)
theorem sc_listed : FnScope ["table", "key"] ["table"] (defScope (top 33)) := ⟨rfl, rfl, rfl, by decide +kernel, rfl, by decide +kernel, by decide +kernel⟩
theorem w_listed (B : Bt mg) (D : DefIn K mg "listed" (top 33))   : Cal P w K mg base CX0 1 "listed" ["table"] (sp_listed P w) := by
  obtain ⟨f, fd, F, g⟩ := D.ex
  refine ⟨f, fd, F.ok sc_listed (fun vs H Q E h => ?_) (fun cdv A outer s H vs Q E hr h => ?_), g, F.kp, F.binds (ps := ["table"]) fun _ _ _ _ _ _ us hl => match us, hl with | [_], _ => rfl⟩
  · obtain ⟨d, ⟨a, n, T, rfl, _⟩, _⟩ := h; rfl
  · obtain ⟨d, ⟨a, n, T, rfl, tb, hT, rfl⟩, k⟩ := h
    refine ⟨_, (pss_one (ps_ret (pe_lc (own := [("key", 1)]) (g := (gName 1)) rfl sc_listed.nd (pi_list (pe_callB (cr_sortedNK rfl hr.units) (by rfl) B.sorted (by decide +kernel) (pa_cons (pv 0) pa_nil))) (blkOk_by (N := ["table", "key"]) (sc := defScope (top 33)) (by decide +kernel)) (fun _ _ _ _ _ => (pg_name (i := 1) sc_listed.nd rfl (Or.inl rfl))) (fun _ _ _ _ _ => (pts_one (PW.pt (pw_and (pt_cmpR (op_neDK (K := K) hr.units rfl) (pe_ngetK (P := P) (w := w) rfl rfl hr.units (pv 0) (pv 1) (fun _ _ => rfl)) (pe_tup pa_nil) (nomark _)) (pw_and1 (pt_cmpR (op_neDK (K := K) hr.units rfl) (pe_ngetK (P := P) (w := w) rfl rfl hr.units (pv 0) (pv 1) (fun _ _ => rfl)) pe_int (nomark _))))))) (fun _ _ _ _ _ => (pe_tup (pa_cons (pv 1) (pa_cons (pe_ngetK (P := P) (w := w) rfl rfl hr.units (pv 0) (pv 1) (fun _ _ => rfl)) pa_nil))))))), ?_⟩
    refine s_retN ?_ k
    rw [← keep_data]
    have ll : ((T.map (·.1)).mergeSort leL).length = T.length := by rw [List.length_mergeSort, List.length_map]
    refine evn_lcN (evn_sortedNK (evv_var rfl) tb) (by simp) (by simp only [List.length_map, ll]; omega) fun i d o v H' e' hd ho tv => ⟨_, fun R r => r, rfl, ?_⟩
    rw [List.getElem?_map] at hd
    rw [List.getElem?_map, List.getElem?_map] at ho
    cases hM : ((T.map (·.1)).mergeSort leL)[i]? with
    | none => rw [hM] at hd; cases hd
    | some M =>
    rw [hM] at hd ho
    cases hd; cases ho
    have hmem : M ∈ T.map (·.1) := (List.mergeSort_perm _ _).mem_iff.mp (List.mem_of_getElem? hM)
    obtain ⟨p, hp⟩ : ∃ p, tget T M = some p := by
      cases e : tget T M with
      | none => exact absurd hmem (tget_none.mp e)
      | some p => exact ⟨p, rfl⟩
    have tb' := tb.ex e'
    have ek : keep T M = if p = [] then none else some (M, p) := by unfold keep; rw [hp]
    rw [ek]
    refine ⟨?_, fun e he => ?_⟩
    · refine EvT.is (evt_and (evt_test (evd_neD (evd_nget (evv_var rfl) tb' (evd_var rfl tv) hp) (evd_tup eva_nil) (sh_P p) sh_nil (eqv_nil_P p))) fun _ => (evt_test (evd_neD (evd_nget (evv_var rfl) tb' (evd_var rfl tv) hp) evd_int (sh_P p) (sh_int 0) (k := false) rfl))) ?_
      by_cases h : p = []
      · rw [if_pos h, h]; rfl
      · rw [if_neg h]; simp [h]
    · by_cases h : p = []
      · rw [if_pos h] at he; cases he
      · rw [if_neg h] at he; cases he
        exact evd_tup (eva_cons (evd_var rfl tv) (eva_cons (evd_nget (evv_var rfl) tb' (evd_var rfl tv) hp) eva_nil))
abbrev sp_law_listed (P : Program) (w : World) : Sp := spP fun H vs d => ∃ a n T, vs = [.ref a] ∧ Tb P w H a n T ∧ T.length ≤ 10000 ∧ d = dSum n (listT T)
theorem sc_law_listed : FnScope ["_law_table", "_law_mat_here"] ["_law_table"] (defScope (top 60)) := ⟨rfl, rfl, rfl, by decide +kernel, rfl, by decide +kernel, by decide +kernel⟩
theorem w_law_listed (B : Bt mg) (D : DefIn K mg "_law_listed" (top 60))   : Cal P w K mg base CX0 1 "_law_listed" ["_law_table"] (sp_law_listed P w) := by
  obtain ⟨f, fd, F, g⟩ := D.ex
  refine ⟨f, fd, F.ok sc_law_listed (fun vs H Q E h => ?_) (fun cdv A outer s H vs Q E hr h => ?_), g, F.kp, F.binds (ps := ["_law_table"]) fun _ _ _ _ _ _ us hl => match us, hl with | [_], _ => rfl⟩
  · obtain ⟨d, ⟨a, n, T, rfl, _⟩, _⟩ := h; rfl
  · obtain ⟨d, ⟨a, n, T, rfl, tb, hT, rfl⟩, k⟩ := h
    refine ⟨_, (pss_one (ps_ret (pe_tupleOf (by rfl) B.tuple (pe_lc (own := [("_law_mat_here", 1)]) (g := (gName 1)) rfl sc_law_listed.nd (pi_list (pe_callB (cr_sortedNK rfl hr.units) (by rfl) B.sorted (by decide +kernel) (pa_cons (pv 0) pa_nil))) (blkOk_by (N := ["_law_table", "_law_mat_here"]) (sc := defScope (top 60)) (by decide +kernel)) (fun _ _ _ _ _ => (pg_name (i := 1) sc_law_listed.nd rfl (Or.inl rfl))) (fun _ _ _ _ _ => (pts_one (pt_cmpR (op_neDK (K := K) hr.units rfl) (pe_ngetK (P := P) (w := w) rfl rfl hr.units (pv 0) (pv 1) (fun _ _ => rfl)) (pe_tup pa_nil) (nomark _)))) (fun _ _ _ _ _ => (pe_tup (pa_cons (pv 1) (pa_cons (pe_ngetK (P := P) (w := w) rfl rfl hr.units (pv 0) (pv 1) (fun _ _ => rfl)) pa_nil)))))))), ?_⟩
    refine s_ret (d := dSum n (listT T)) (evd_tupN ?_) k
    rw [← keep_data]
    have ll : ((T.map (·.1)).mergeSort leL).length = T.length := by rw [List.length_mergeSort, List.length_map]
    refine evn_lcN (evn_sortedNK (evv_var rfl) tb) (by simp) (by simp only [List.length_map, ll]; omega) fun i d o v H' e' hd ho tv => ⟨_, fun R r => r, rfl, ?_⟩
    rw [List.getElem?_map] at hd
    rw [List.getElem?_map, List.getElem?_map] at ho
    cases hM : ((T.map (·.1)).mergeSort leL)[i]? with
    | none => rw [hM] at hd; cases hd
    | some M =>
    rw [hM] at hd ho
    cases hd; cases ho
    have hmem : M ∈ T.map (·.1) := (List.mergeSort_perm _ _).mem_iff.mp (List.mem_of_getElem? hM)
    obtain ⟨p, hp⟩ : ∃ p, tget T M = some p := by
      cases e : tget T M with
      | none => exact absurd hmem (tget_none.mp e)
      | some p => exact ⟨p, rfl⟩
    have tb' := tb.ex e'
    have ek : keep T M = if p = [] then none else some (M, p) := by unfold keep; rw [hp]
    rw [ek]
    refine ⟨?_, fun e he => ?_⟩
    · refine EvT.is (evt_test (evd_neD (evd_nget (evv_var rfl) tb' (evd_var rfl tv) hp) (evd_tup eva_nil) (sh_P p) sh_nil (eqv_nil_P p))) ?_
      by_cases h : p = []
      · rw [if_pos h, h]; rfl
      · rw [if_neg h]; simp [h]
    · by_cases h : p = []
      · rw [if_pos h] at he; cases he
      · rw [if_neg h] at he; cases he
        exact evd_tup (eva_cons (evd_var rfl tv) (eva_cons (evd_nget (evv_var rfl) tb' (evd_var rfl tv) hp) eva_nil))
abbrev sp_law_lay (P : Program) (w : World) : Sp := fun vs H Q _ => ∃ a n T M p v v', vs = [.ref a, v, v'] ∧ Tb P w H a n T ∧ T.length ≤ 10000 ∧ Tp H v (dMat n M) ∧ Tp H v' (dP p) ∧ p.length ≤ 1000 ∧ (∀ q, tget T M = some q → q.length ≤ 1000) ∧ ∀ H', ExB a H H' → Tb P w H' a n (tput T M (addP ((tget T M).getD []) p)) → Q .non H'
theorem sc_law_lay : FnScope ["_law_table", "_law_mat_here", "_law_row_here"] ["_law_table", "_law_mat_here", "_law_row_here"] (defScope (top 59)) := ⟨rfl, rfl, rfl, by decide +kernel, rfl, by decide +kernel, by decide +kernel⟩
theorem w_law_lay (B : Bt mg) (D : DefIn K mg "_law_lay" (top 59)) (C_law_plus : Cal P w K mg base CX0 2 "_law_plus" ["_law_a", "_law_b"] (sp_law_plus))  : Cal P w K mg base CX0 3 "_law_lay" ["_law_table", "_law_mat_here", "_law_row_here"] (sp_law_lay P w) := by
  obtain ⟨f, fd, F, g⟩ := D.ex
  refine ⟨f, fd, F.ok sc_law_lay (fun vs H Q E h => ?_) (fun cdv A outer s H vs Q E hr h => ?_), g, F.kp, F.binds (ps := ["_law_table", "_law_mat_here", "_law_row_here"]) fun _ _ _ _ _ _ us hl => match us, hl with | [_, _, _], _ => rfl⟩
  · obtain ⟨a, n, T, M, p, v, v', rfl, _⟩ := h; rfl
  · obtain ⟨a, n, T, M, p, v, v', rfl, tb, hT, tv, tp, lp, hg, k⟩ := h
    refine ⟨_, (pss_one (ps_nput hr.units (pv 0) (pv 1) (pe_callC C_law_plus (hr.mono (by decide)) pass0 (pa_cons (pe_nget2 hr.units (pv 0) (pv 1) (pe_tup pa_nil) ⟨rfl, rfl, rfl, rfl⟩) (pa_cons (pv 2) pa_nil))) rfl)), ?_⟩
    refine s_nput (evd_callD (eva_cons (evd_nget2 (evv_var rfl) tb (evd_var rfl tv) (evd_tup eva_nil)) (eva_cons (evd_var rfl tp) eva_nil)) ⟨_, _, rfl, ?_, lp, rfl⟩) (evv_var rfl) (evd_var rfl tv) tb (by omega) fun H4 b4 tb4 => k H4 b4 tb4
    cases e : tget T M with
    | none => exact Nat.zero_le _
    | some q => exact hg q e
abbrev sp_pegs_of : Sp := spD fun ds d => ∃ (t : Tr) (L : List Tr), ds = [dSumG (t :: L)] ∧ d = .tuple [.int (t.1 : Nat), .int (t.1 : Nat)]
theorem sc_pegs_of : FnScope ["told"] ["told"] (defScope (top 36)) := ⟨rfl, rfl, rfl, by decide +kernel, rfl, by decide +kernel, by decide +kernel⟩
theorem w_pegs_of (B : Bt mg) (D : DefIn K mg "pegs_of" (top 36))   : Cal P w K mg base CX0 1 "pegs_of" ["told"] (sp_pegs_of) := by
  obtain ⟨f, fd, F, g⟩ := D.ex
  refine ⟨f, fd, F.ok sc_pegs_of (fun vs H Q E h => ?_) (fun cdv A outer s H vs Q E hr h => ?_), g, F.kp, F.binds (ps := ["told"]) fun _ _ _ _ _ _ us hl => match us, hl with | [_], _ => rfl⟩
  · obtain ⟨d, ⟨ds, t, u, L, rfl, _⟩, _⟩ := h
    exact t.length
  · obtain ⟨d, ⟨ds, t, u, L, rfl, rfl⟩, k⟩ := h
    obtain ⟨v0, rfl, t0⟩ := t.i1
    refine ⟨_, (pss_one (ps_ret (pe_slice sl_tupA (pe_ix ix_tup (pe_ix ix_tup (pv 0) pe_int (fun _ _ => rfl)) pe_int (fun _ _ => rfl)) po_none (po_some pe_int)))), ?_⟩
    have t0 : Tp H v0 (.tuple (.tuple [dMat u.1 u.2.1, dP u.2.2] :: L.map dT3)) := t0
    exact s_ret (EvD.is (evd_slT (ds := [.int (u.1 : Nat), .int (u.1 : Nat), dN u.2.1]) (evd_ixT (ds := [dMat u.1 u.2.1, dP u.2.2]) (evd_ixT (ds := .tuple [dMat u.1 u.2.1, dP u.2.2] :: L.map dT3) (evd_var rfl t0) evd_int (at_nat (i := 0) rfl)) evd_int rfl) evo_none (evo_some evd_int)) (by show PyData.tuple (cutD [.int (u.1 : Nat), .int (u.1 : Nat), dN u.2.1] none (some 2)) = _; rw [cut2])) k
abbrev sp_sum_of : Sp := spF fun H vs d => ∃ v n M, vs = [v] ∧ Tp H v (dMat n M) ∧ okMat n M = true ∧ d = dSum n [(M, [1])]
theorem sc_sum_of : FnScope ["mat"] ["mat"] (defScope (top 37)) := ⟨rfl, rfl, rfl, by decide +kernel, rfl, by decide +kernel, by decide +kernel⟩
theorem w_sum_of (B : Bt mg) (D : DefIn K mg "sum_of" (top 37)) (C_checked_mat : Cal P w K mg base CX0 3 "checked_mat" ["mat"] (sp_checked_mat))  : Cal P w K mg base CX0 4 "sum_of" ["mat"] (sp_sum_of) := by
  obtain ⟨f, fd, F, g⟩ := D.ex
  refine ⟨f, fd, F.ok sc_sum_of (fun vs H Q E h => ?_) (fun cdv A outer s H vs Q E hr h => ?_), g, F.kp, F.binds (ps := ["mat"]) fun _ _ _ _ _ _ us hl => match us, hl with | [_], _ => rfl⟩
  · obtain ⟨d, ⟨v, n, M, rfl, _⟩, _⟩ := h; rfl
  · obtain ⟨d, ⟨v, n, M, rfl, tv, ok, rfl⟩, k⟩ := h
    refine ⟨_, (pss_one (ps_ret (pe_tupF (pa_cons (pe_tup (pa_cons (pe_callC C_checked_mat (hr.mono (by decide)) pass0 (pa_cons (pv 0) pa_nil)) (pa_cons (pe_tup (pa_cons pe_int pa_nil)) pa_nil))) pa_nil)))), ?_⟩
    exact s_retF (evf_tup (eva_cons (evd_tup (eva_cons (evd_callD (eva_cons (evd_var rfl tv) eva_nil) ⟨n, M, rfl, ok, rfl⟩) (eva_cons (evd_tup (eva_cons evd_int eva_nil)) eva_nil))) eva_nil)) k
abbrev sp_is_sum : Sp := spD fun ds d => ∃ L : List Tr, ds = [dSumG L] ∧ (∀ t ∈ L, okMat t.1 t.2.1 = true) ∧ d = .bool (isSumF none L)
theorem sc_is_sum : FnScope ["told", "last", "mat", "poly"] ["told"] (defScope (top 34)) := ⟨rfl, rfl, rfl, by decide +kernel, rfl, by decide +kernel, by decide +kernel⟩
theorem w_is_sum (B : Bt mg) (D : DefIn K mg "is_sum" (top 34)) (C_is_mat : Cal P w K mg base CX0 2 "is_mat" ["told"] (sp_is_mat)) (C_is_poly : Cal P w K mg base CX0 1 "is_poly" ["told"] (sp_is_poly))  : Cal P w K mg base CX0 3 "is_sum" ["told"] (sp_is_sum) := by
  obtain ⟨f, fd, F, g⟩ := D.ex
  refine ⟨f, fd, F.ok sc_is_sum (fun vs H Q E h => ?_) (fun cdv A outer s H vs Q E hr h => ?_), g, F.kp, F.binds (ps := ["told"]) fun _ _ _ _ _ _ us hl => match us, hl with | [_], _ => rfl⟩
  · obtain ⟨d, ⟨ds, t, L, rfl, _⟩, _⟩ := h
    exact t.length
  · obtain ⟨d, ⟨ds, t, L, rfl, ok, rfl⟩, k⟩ := h
    obtain ⟨v0, rfl, t0⟩ := t.i1
    obtain ⟨R0, hR⟩ : ∃ R0, R0 = isSumF none L := ⟨_, rfl⟩
    rw [← hR] at k
    refine ⟨_, (pss_cons (ps_set (i := 1) sc_is_sum.nd rfl (Or.inl rfl) pe_non)
  (pss_cons (ps_for PassesOwn.never rfl (pi_tup (pv 0)) (pg_tup rfl (pgs_cons (pg_name (i := 2) sc_is_sum.nd rfl (Or.inl rfl)) (pgs_cons (pg_name (i := 3) sc_is_sum.nd rfl (Or.inl rfl)) pgs_nil)))
  (pss_cons (ps_if (PW.pt (pw_or (pt_not (pt_val (pe_callC C_is_mat (hr.mono (by decide)) pass0 (pa_cons (pv 2) pa_nil)))) (pw_or (pt_cmpR (op_eqD hr.units) (pv 3) (pe_tup pa_nil) (nomark _)) (pw_or1 (pt_not (pt_val (pe_callC C_is_poly (hr.mono (by decide)) pass0 (pa_cons (pv 3) pa_nil))))))))
  (pss_one (ps_ret pe_bl))
  pss_nil)
  (pss_cons (ps_if (PW.pt (pw_and (pt_cmpR op_notN (pv 1) pe_non (nomark _)) (pw_and1 (PW.pt (pw_or (pt_cmpR (op_neD hr.units) (pe_slice sl_tupA (pv 2) po_none (po_some pe_int)) (pe_slice sl_tupA (pv 1) po_none (po_some pe_int)) (nomark _)) (pw_or1 (pt_cmpR (op_leM hr.units) (pv 2) (pv 1) (nomark _))))))))
  (pss_one (ps_ret pe_bl))
  pss_nil)
  (pss_one (ps_set (i := 1) sc_is_sum.nd rfl (Or.inl rfl) (pv 2))))))
  (pss_one (ps_ret pe_bl)))), ?_⟩
    refine s_seq (s_asg evd_non fun v H1 e1 tn => ?_)
    refine s_seq (s_forT (evd_var rfl (t0.ex e1)) (fun Hs i σ' H' => ∃ a b c last, σ' = [some v0, some a, b, c] ∧ Ex H H' ∧ Ex Hs H' ∧ Tp H' a (dLast last) ∧ isSumF last (L.drop i) = R0) (fun Hs es => ⟨_, _, _, none, rfl, e1.trans es, Ex.refl _, tn.ex es, by rw [List.drop_zero, hR]⟩) (fun _ _ _ _ ⟨_, _, _, _, _, _, e, _⟩ => e.tk) ?_ ?_)
    · rintro Hs i d x σ2 H2 es hd ⟨a, b, c, last, rfl, e0, e2, ta, hf⟩ tx
      rw [List.getElem?_map] at hd
      cases hu : L[i]? with
      | none => rw [hu] at hd; cases hd
      | some u =>
      rw [hu] at hd
      cases hd
      have hlt := lt_of_get hu
      rw [List.drop_eq_getElem_cons hlt, (List.getElem?_eq_some_iff.mp hu).2] at hf
      have hok := ok u (List.mem_of_getElem? hu)
      refine g_tup2 (show Tp H2 x (.tuple [dMat u.1 u.2.1, dP u.2.2]) from tx) fun y z ty tz => ?_
      refine s_seq (s_if (evt_or (evt_not (evt_test (evd_callD (eva_cons (evd_var rfl ty) eva_nil) ⟨_, _, rfl, hok, rfl⟩))) fun _ => (evt_or (evt_test (evd_eqD (evd_var rfl tz) (evd_tup eva_nil) (sh_P _) sh_nil (eqv_nil_P _))) fun _ => (evt_not (evt_test (evd_callD (eva_cons (evd_var rfl tz) eva_nil) ⟨_, rfl, rfl⟩))))) (fun hb H3 e3 => ?_) fun hb H3 e3 => ?_)
      · have hbad : u.2.2 = [] ∨ u.2.2.getLast? = some 0 := by simpa using hb
        unfold isSumF at hf
        rw [if_pos hbad] at hf
        exact s_ret (EvD.is evd_bl (by rw [← hf])) fun v H4 e4 t4 => k v H4 ((e0.trans e3).trans e4) t4
      · have hgood : ¬ (u.2.2 = [] ∨ u.2.2.getLast? = some 0) := by simpa using hb
        unfold isSumF at hf
        rw [if_neg hgood] at hf
        refine s_next ?_
        cases last with
        | none =>
          dsimp only at hf
          refine s_seq (s_if (b := false) (evt_and (b := false) (evt_test (evd_notN (evd_var rfl (ta.ex e3)) (k := true) rfl)) fun h => absurd h (by decide)) (fun h => by cases h) fun _ H4 e4 => ?_)
          exact s_next (s_asg (evd_var rfl ((ty.ex e3).ex e4)) fun v H5 e5 t5 => ⟨_, _, _, some (u.1, u.2.1), rfl, ((e0.trans e3).trans e4).trans e5, ((e2.trans e3).trans e4).trans e5, t5, hf⟩)
        | some ml =>
          obtain ⟨m, Lm⟩ := ml
          dsimp only at hf
          have ta' : Tp H3 a (dMat m Lm) := ta.ex e3
          have ty' := ty.ex e3
          refine s_seq (s_if (b := !decide (u.1 = m ∧ Lm < u.2.1)) (EvT.is (evt_and (b := (!decide (u.1 = m)) || !decide (Lm < u.2.1)) (evt_test (evd_notN (evd_var rfl ta') (k := false) rfl)) fun _ => ?_) ?_) (fun hb H4 e4 => ?_) fun hb H4 e4 => ?_)
          · by_cases hm : u.1 = m
            · subst hm
              exact evt_or (evt_test (EvD.is (evd_neD (evd_slT (evd_var rfl ty') evo_none (evo_some evd_int)) (evd_slT (evd_var rfl ta') evo_none (evo_some evd_int)) (by rw [cut2]; exact sh_two _) (by rw [cut2]; exact sh_two _) (by rw [cut2, cut2]; exact eqv_two _ _)) rfl)) fun _ => (evt_test (evd_leM (evd_var rfl ty') (evd_var rfl ta')))
            · refine evt_or (evt_test (EvD.is (evd_neD (evd_slT (evd_var rfl ty') evo_none (evo_some evd_int)) (evd_slT (evd_var rfl ta') evo_none (evo_some evd_int)) (by rw [cut2]; exact sh_two _) (by rw [cut2]; exact sh_two _) (by rw [cut2, cut2]; exact eqv_two _ _)) rfl)) fun h => absurd h (by simp [hm])
          · by_cases q : u.1 = m <;> by_cases z : Lm < u.2.1 <;> simp [q, z]
          · have hn : ¬ (u.1 = m ∧ Lm < u.2.1) := by simpa only [Bool.not_eq_true', decide_eq_false_iff_not] using hb
            rw [if_neg hn] at hf
            exact s_ret (EvD.is evd_bl (by rw [← hf])) fun v H5 e5 t5 => k v H5 (((e0.trans e3).trans e4).trans e5) t5
          · have hn : u.1 = m ∧ Lm < u.2.1 := by simpa only [Bool.not_eq_false', decide_eq_true_eq] using hb
            rw [if_pos hn] at hf
            exact s_next (s_asg (evd_var rfl ((ty.ex e3).ex e4)) fun v H5 e5 t5 => ⟨_, _, _, some (u.1, u.2.1), rfl, ((e0.trans e3).trans e4).trans e5, ((e2.trans e3).trans e4).trans e5, t5, hf⟩)
    · rintro Hs σ2 H2 es ⟨a, b, c, last, rfl, e0, e2, ta, hf⟩
      rw [List.length_map, List.drop_length] at hf
      have hR0 : R0 = true := hf.symm
      rw [hR0] at k
      dsimp only
      exact s_ret evd_bl fun v H5 e5 t5 => k v H5 (e0.trans e5) t5
end
end Hk


namespace Hk
/-! ### sums: what is right, what comes of them -/
structure okS (n : Nat) (S : Tab) : Prop where
  n2 : 2 ≤ n
  n6 : n ≤ 6
  vt : ∀ t ∈ S, t.1 ∈ matsL n ∧ okP t.2 ∧ t.2 ≠ []
  asc : Asc S
theorem okS.nil {n : Nat} (h2 : 2 ≤ n) (h6 : n ≤ 6) : okS n [] := ⟨h2, h6, fun _ h => absurd h (List.not_mem_nil), List.Pairwise.nil⟩
theorem isSumF_from (n : Nat) : ∀ (S : Tab) (last : Option (Nat × List Nat)), (∀ t ∈ S, okP t.2 ∧ t.2 ≠ []) → Asc S → (∀ m L, last = some (m, L) → m = n ∧ ∀ t ∈ S, L < t.1) → ∀ R : List Tr, isSumF last (S.map (fun t => (n, t)) ++ R) = isSumF (if h : S = [] then last else some (n, (S.getLast h).1)) R
  | [], last, _, _, _, R => by simp
  | t :: S, last, h1, h2, h3, R => by
    have ht := h1 t (List.mem_cons_self ..)
    unfold Asc at h2
    rw [List.pairwise_cons] at h2
    have e : isSumF last ((t :: S).map (fun t => (n, t)) ++ R) = isSumF (some (n, t.1)) (S.map (fun t => (n, t)) ++ R) := by
      rw [List.map_cons, List.cons_append]
      show (if t.2 = [] ∨ t.2.getLast? = some 0 then false else _) = _
      have hne : ¬ (t.2 = [] ∨ t.2.getLast? = some 0) := fun h => h.elim ht.2 ht.1
      rw [if_neg hne]
      cases last with
      | none => rfl
      | some ml =>
        obtain ⟨m, L⟩ := ml
        obtain ⟨rfl, h4⟩ := h3 m L rfl
        show (if m = m ∧ L < t.1 then _ else _) = _
        rw [if_pos ⟨rfl, h4 t (List.mem_cons_self ..)⟩]
    rw [e, isSumF_from n S (some (n, t.1)) (fun u hu => h1 u (List.mem_cons_of_mem _ hu)) h2.2 (fun m L q => by cases q; exact ⟨rfl, h2.1⟩) R]
    congr 1
    by_cases h : S = []
    · subst h; simp
    · rw [dif_neg h, dif_neg (by simp), List.getLast_cons h]
theorem isSumF_ok {n : Nat} {S : Tab} (h : okS n S) : isSumF none (S.map fun t => (n, t)) = true := by
  have := isSumF_from n S none (fun t ht => (h.vt t ht).2) h.asc (fun _ _ q => by cases q) []
  rw [List.append_nil] at this
  rw [this]; rfl
theorem dSumG_of (n : Nat) (S : Tab) : dSumG (S.map fun t => (n, t)) = dSum n S := by
  unfold dSumG dSum; rw [List.map_map]; rfl
/-- lay one after another -/
def layF (T : Tab) (t : List Nat × List Int) : Tab := tput T t.1 (addP ((tget T t.1).getD []) t.2)
def layAll (T L : Tab) : Tab := L.foldl layF T
theorem addP_nil {p : List Int} (h : okP p) : addP [] p = p := by
  unfold addP; rw [addL_comm, addL_nil]; exact cutL_of_ok h
theorem layF_nodup {T : Tab} (h : (T.map (·.1)).Nodup) (t : List Nat × List Int) : ((layF T t).map (·.1)).Nodup := tput_nodup h
theorem layAll_nodup : ∀ (L : Tab) {T : Tab}, (T.map (·.1)).Nodup → ((layAll T L).map (·.1)).Nodup
  | [], _, h => h
  | t :: L, _, h => layAll_nodup L (layF_nodup h t)
theorem layAll_len : ∀ (L T : Tab), (layAll T L).length ≤ T.length + L.length
  | [], T => Nat.le_refl _
  | t :: L, T => by
    have := layAll_len L (layF T t)
    have h : (layF T t).length ≤ T.length + 1 := tput_len T _ _
    show (layAll (layF T t) L).length ≤ _
    rw [List.length_cons]; omega
/-- what all rows of a table keep -/
theorem layAll_rows {G : List Nat → Prop} {R : List Int → Prop} (hR : ∀ p q, (p = [] ∨ R p) → R q → R (addP p q)) : ∀ (L : Tab) {T : Tab}, (∀ t ∈ T, G t.1 ∧ R t.2) → (∀ t ∈ L, G t.1 ∧ R t.2) → ∀ t ∈ layAll T L, G t.1 ∧ R t.2
  | [], _, h, _ => h
  | u :: L, T, h, h2 => by
    refine layAll_rows hR L (T := layF T u) (fun t ht => ?_) fun t ht => h2 t (List.mem_cons_of_mem _ ht)
    have hu := h2 u (List.mem_cons_self ..)
    rcases tput_mem ht with e | h3
    · rw [e]
      refine ⟨hu.1, hR _ _ ?_ hu.2⟩
      cases e2 : tget T u.1 with
      | none => exact .inl rfl
      | some q => exact .inr (h _ (tget_mem e2)).2
    · exact h t h3
/-- laying an ascending sum on nothing -/
theorem layAll_self {S : Tab} (h : (S.map (·.1)).Nodup) (hp : ∀ t ∈ S, okP t.2) : layAll [] S = S := by
  have key : ∀ (S T : Tab), ((T ++ S).map (·.1)).Nodup → (∀ t ∈ S, okP t.2) → layAll T S = T ++ S := by
    intro S
    induction S with
    | nil => intro T _ _; rw [List.append_nil]; rfl
    | cons t S ih =>
      intro T hn hp
      have hnew : tget T t.1 = none := by
        rw [tget_none]
        intro hm
        rw [List.map_append, List.nodup_append] at hn
        exact hn.2.2 _ hm _ (by rw [List.map_cons]; exact List.mem_cons_self ..) rfl
      have e : layF T t = T ++ [t] := by
        unfold layF
        rw [hnew]
        show tput T t.1 (addP [] t.2) = _
        rw [addP_nil (hp t (List.mem_cons_self ..))]
        unfold tput
        rw [hnew]; rfl
      show layAll (layF T t) S = _
      rw [e, ih (T ++ [t]) (by rw [List.append_assoc]; exact hn) fun u hu => hp u (List.mem_cons_of_mem _ hu), List.append_assoc]; rfl
  have := key S [] (by simpa using h) hp
  simpa using this
/-- products of all pairs -/
def onePr (n : Nat) (a b : List Nat × List Int) : List Nat × List Int := match putP n a.1 b.1 with
  | some (r, K) => (K, List.replicate r 0 ++ mulP a.2 b.2)
  | none => ([], [])
def prodL (n : Nat) (S T : Tab) : Tab := S.flatMap fun a => T.map (onePr n a)
def scaleL (S : Tab) (q : List Int) : Tab := S.map fun t => (t.1, mulP t.2 q)
def flipL (n : Nat) (S : Tab) : Tab := S.map fun t => (downM n t.1, t.2)
def worthL (S : Tab) (x : Int) : List (List Nat × Int) := (S.map fun t => (t.1, valP x t.2)).filter fun p => !decide (p.2 = 0)
def dWorth (n : Nat) (p : List Nat × Int) : PySem.PyData := PySem.PyData.tuple [dMat n p.1, PySem.PyData.int p.2]
/-! words -/
def wordF (n : Nat) (v : Nat × List Nat) (i : Nat) : Nat × List Nat := match putP n v.2 (hookM n i) with
  | some (r, K) => (v.1 + r, K)
  | none => (0, [])
def wordV (n : Nat) (w : List Nat) : Nat × List Nat := w.foldl (wordF n) (0, strM n)
theorem wordV_ok {n : Nat} (h2 : 2 ≤ n) (h6 : n ≤ 6) : ∀ (w : List Nat) (v : Nat × List Nat), (∀ i ∈ w, i + 1 < n) → v.2 ∈ matsL n → (w.foldl (wordF n) v).2 ∈ matsL n ∧ (w.foldl (wordF n) v).1 ≤ v.1 + 6 * w.length
  | [], v, _, hv => ⟨hv, by simp⟩
  | i :: w, v, hw, hv => by
    obtain ⟨r, K, e, _, hr, hK⟩ := put_ok h2 h6 hv ((hk_of (by omega) h6).2 i (hw i (List.mem_cons_self ..)))
    have e2 : wordF n v i = (v.1 + r, K) := by unfold wordF; rw [e]
    rw [List.foldl_cons, e2, List.length_cons]
    have := wordV_ok h2 h6 w (v.1 + r, K) (fun j hj => hw j (List.mem_cons_of_mem _ hj)) hK
    exact ⟨this.1, by have := this.2; simp only at this; omega⟩
end Hk


namespace Hk
open PySem PySem.Spec PyProof.Rows L2
theorem okS.mat {n : Nat} {S : Tab} (h : okS n S) {t : List Nat × List Int} (ht : t ∈ S) : okMat n t.1 = true := ok_of (by have := h.n2; omega) h.n6 (h.vt t ht).1
theorem dSum_get {n : Nat} {S : Tab} {i : Nat} {d : PyData} (h : (S.map (dTerm n))[i]? = some d) : ∃ t, S[i]? = some t ∧ d = dTerm n t := by
  rw [List.getElem?_map] at h
  cases e : S[i]? with
  | none => rw [e] at h; cases h
  | some t => rw [e] at h; cases h; exact ⟨t, rfl, rfl⟩
theorem tp_Term {H : Hp} {v : V} {n : Nat} {t : List Nat × List Int} (h : Tp H v (dTerm n t)) : Tp H v (.tuple [dMat n t.1, dP t.2]) := h
theorem okS.tr {n : Nat} {S : Tab} (h : okS n S) : ∀ t ∈ S.map (fun t => (n, t)), okMat t.1 t.2.1 = true := fun t ht => by
  obtain ⟨u, hu, rfl⟩ := List.mem_map.mp ht
  exact h.mat hu
theorem layAll_take {L : Tab} {i : Nat} {t : List Nat × List Int} (h : L[i]? = some t) (T : Tab) : layAll T (L.take (i + 1)) = layF (layAll T (L.take i)) t := fold_take h
/-- rows of at most so many coefficients -/
def Ln (k : Nat) (T : Tab) : Prop := ∀ t ∈ T, t.2.length ≤ k
theorem addP_len {p q : List Int} {k : Nat} (hp : p.length ≤ k) (hq : q.length ≤ k) : (addP p q).length ≤ k := by
  unfold addP
  have := cutL_len (addL p q)
  rw [addL_len] at this
  omega
theorem layAll_Ln {k : Nat} (L : Tab) {T : Tab} (hT : Ln k T) (hL : Ln k L) : Ln k (layAll T L) := fun t ht =>
  (layAll_rows (G := fun _ => True) (R := fun p => p.length ≤ k) (fun p q hp hq => addP_len (hp.elim (fun e => by rw [e]; simp) id) hq) L (fun t ht => ⟨trivial, hT t ht⟩) (fun t ht => ⟨trivial, hL t ht⟩) t ht).2
theorem Ln.get {k : Nat} {T : Tab} (h : Ln k T) (M : List Nat) : ((tget T M).getD []).length ≤ k := by
  cases e : tget T M with
  | none => simp
  | some q => exact h _ (tget_mem e)
theorem Ln.take {k : Nat} {T : Tab} (h : Ln k T) (i : Nat) : Ln k (T.take i) := fun t ht => h t (List.mem_of_mem_take ht)
local macro_rules | `(tactic| walk_at "tp") => `(tactic| first | assumption | exact .int _ | exact .bl _ | solve_by_elim (maxDepth := 6) [Tp.ex])
section
variable {P : Program} {w : World} {K : PySem.W.Frag} {mg : Str → Option Value} {base : Heap}
abbrev sp_checked_sum : Sp := spD fun ds d => ∃ n S, ds = [dSum n S] ∧ okS n S ∧ d = dSum n S
theorem sc_checked_sum : FnScope ["told"] ["told"] (defScope (top 35)) := ⟨rfl, rfl, rfl, by decide +kernel, rfl, by decide +kernel, by decide +kernel⟩
theorem w_checked_sum (B : Bt mg) (D : DefIn K mg "checked_sum" (top 35)) (C_is_sum : Cal P w K mg base CX0 3 "is_sum" ["told"] (sp_is_sum))  : Cal P w K mg base CX0 4 "checked_sum" ["told"] (sp_checked_sum) := by
  obtain ⟨f, fd, F, g⟩ := D.ex
  refine ⟨f, fd, F.ok sc_checked_sum (fun vs H Q E h => ?_) (fun cdv A outer s H vs Q E hr h => ?_), g, F.kp, F.binds (ps := ["told"]) fun _ _ _ _ _ _ us hl => match us, hl with | [_], _ => rfl⟩
  · obtain ⟨d, ⟨ds, t, n, S, rfl, _⟩, _⟩ := h
    exact t.length
  · obtain ⟨d, ⟨ds, t, n, S, rfl, ok, rfl⟩, k⟩ := h
    obtain ⟨v0, rfl, t0⟩ := t.i1
    refine ⟨_, (pss_cons (ps_if (pt_not (pt_val (pe_callC C_is_sum (hr.mono (by decide)) pass0 (pa_cons (pv 0) pa_nil))))
  pss_never
  pss_nil)
  (pss_one (ps_ret (pv 0)))), ?_⟩
    refine s_seq (s_if (evt_not (evt_test (evd_callD (eva_cons (evd_var rfl t0) eva_nil) ⟨S.map fun t => (n, t), by rw [dSumG_of], ok.tr, rfl⟩))) (fun b => by rw [isSumF_ok ok] at b; cases b) fun _ H1 e1 => ?_)
    exact s_next (s_ret (evd_var rfl (t0.ex e1)) fun v H2 e2 t2 => k v H2 (e1.trans e2) t2)
abbrev sp_part : Sp := spD fun ds d => ∃ n S M, ds = [dSum n S, dMat n M] ∧ okS n S ∧ M ∈ matsL n ∧ d = dP ((tget S M).getD [])
theorem sc_part : FnScope ["told", "mat", "one", "poly"] ["told", "mat"] (defScope (top 41)) := ⟨rfl, rfl, rfl, by decide +kernel, rfl, by decide +kernel, by decide +kernel⟩
theorem w_part (B : Bt mg) (D : DefIn K mg "part" (top 41)) (C_checked_sum : Cal P w K mg base CX0 4 "checked_sum" ["told"] (sp_checked_sum)) (C_checked_mat : Cal P w K mg base CX0 3 "checked_mat" ["mat"] (sp_checked_mat))  : Cal P w K mg base CX0 5 "part" ["told", "mat"] (sp_part) := by
  obtain ⟨f, fd, F, g⟩ := D.ex
  refine ⟨f, fd, F.ok sc_part (fun vs H Q E h => ?_) (fun cdv A outer s H vs Q E hr h => ?_), g, F.kp, F.binds (ps := ["told", "mat"]) fun _ _ _ _ _ _ us hl => match us, hl with | [_, _], _ => rfl⟩
  · obtain ⟨d, ⟨ds, t, n, S, M, rfl, _⟩, _⟩ := h
    exact t.length
  · obtain ⟨d, ⟨ds, t, n, S, M, rfl, ok, hM, rfl⟩, k⟩ := h
    obtain ⟨v0, w0, rfl, t0, t1⟩ := t.i2
    refine ⟨_, (pss_cons (ps_expr (pe_callC C_checked_sum (hr.mono (by decide)) pass0 (pa_cons (pv 0) pa_nil)))
  (pss_cons (ps_expr (pe_callC C_checked_mat (hr.mono (by decide)) pass0 (pa_cons (pv 1) pa_nil)))
  (pss_cons (ps_for PassesOwn.never rfl (pi_tup (pv 0)) (pg_tup rfl (pgs_cons (pg_name (i := 2) sc_part.nd rfl (Or.inl rfl)) (pgs_cons (pg_name (i := 3) sc_part.nd rfl (Or.inl rfl)) pgs_nil)))
  (pss_one (ps_if (pt_cmpR (op_eqD hr.units) (pv 2) (pv 1) (nomark _))
  (pss_one (ps_ret (pv 3)))
  pss_nil)))
  (pss_one (ps_ret (pe_tup pa_nil)))))), ?_⟩
    refine s_seq (s_drop (evd_callD (eva_cons (evd_var rfl t0) eva_nil) ⟨n, S, rfl, ok, rfl⟩) fun H1 e1 => ?_)
    refine s_seq (s_drop (evd_callD (eva_cons (evd_var rfl (t1.ex e1)) eva_nil) ⟨n, M, rfl, ok_of (by have := ok.n2; omega) ok.n6 hM, rfl⟩) fun H2 e2 => ?_)
    obtain ⟨R0, hR⟩ : ∃ R0, R0 = (tget S M).getD [] := ⟨_, rfl⟩
    rw [← hR] at k
    refine s_seq (s_forT (evd_var rfl (t0.ex (e1.trans e2))) (fun Hs i σ' H' => ∃ a b, σ' = [some v0, some w0, a, b] ∧ Ex H H' ∧ Ex Hs H' ∧ (tget (S.drop i) M).getD [] = R0) (fun Hs es => ⟨_, _, rfl, (e1.trans e2).trans es, Ex.refl _, by rw [List.drop_zero, hR]⟩) (fun _ _ _ _ ⟨_, _, _, _, e, _⟩ => e.tk) ?_ ?_)
    · rintro Hs i d x σ2 H3 es hd ⟨a, b, rfl, e0, e3, hg⟩ tx
      obtain ⟨u, hu, rfl⟩ := dSum_get hd
      rw [List.drop_eq_getElem_cons (lt_of_get hu), (List.getElem?_eq_some_iff.mp hu).2, tget_cons] at hg
      refine g_tup2 (tp_Term tx) fun y z ty tz => ?_
      refine s_if (evt_test (evd_eqD (evd_var rfl ty) (evd_var rfl (t1.ex e0)) (sh_Mat _ _) (sh_Mat _ _) (eqv_Mat n n u.1 M))) (fun hb H4 e4 => ?_) fun hb H4 e4 => ?_
      · have he : u.1 = M := by simpa using hb
        rw [if_pos he] at hg
        refine s_ret (EvD.is (evd_var rfl (tz.ex e4)) (by rw [← hg]; rfl)) fun v H5 e5 t5 => k v H5 ((e0.trans e4).trans e5) t5
      · have he : ¬ u.1 = M := by simpa using hb
        rw [if_neg he] at hg
        exact s_next ⟨_, _, rfl, e0.trans e4, e3.trans e4, hg⟩
    · rintro Hs σ2 H3 es ⟨a, b, rfl, e0, e3, hg⟩
      rw [List.length_map, List.drop_length] at hg
      have hR0 : R0 = [] := hg.symm
      rw [hR0] at k
      dsimp only
      exact s_ret (evd_tup eva_nil) fun v H5 e5 t5 => k v H5 (e0.trans e5) t5
abbrev sp_scaled : Sp := spF fun H vs d => ∃ v v' n S q, vs = [v, v'] ∧ Tp H v (dSum n S) ∧ Tp H v' (dP q) ∧ okS n S ∧ S.length ≤ 1000 ∧ okP q ∧ Bd q ∧ q.length ≤ 100 ∧ Ln 100 S ∧ (∀ t ∈ S, Bd t.2) ∧ d = dSum n (if q = [] then [] else scaleL S q)
theorem sc_scaled : FnScope ["told", "poly", "mat", "one"] ["told", "poly"] (defScope (top 40)) := ⟨rfl, rfl, rfl, by decide +kernel, rfl, by decide +kernel, by decide +kernel⟩
theorem w_scaled (B : Bt mg) (D : DefIn K mg "scaled" (top 40)) (C_checked_sum : Cal P w K mg base CX0 4 "checked_sum" ["told"] (sp_checked_sum)) (C_checked_poly : Cal P w K mg base CX0 2 "checked_poly" ["told"] (sp_checked_poly)) (C_times_p : Cal P w K mg base CX0 1 "times_p" ["one", "other"] (sp_times_p))  : Cal P w K mg base CX0 5 "scaled" ["told", "poly"] (sp_scaled) := by
  obtain ⟨f, fd, F, g⟩ := D.ex
  refine ⟨f, fd, F.ok sc_scaled (fun vs H Q E h => ?_) (fun cdv A outer s H vs Q E hr h => ?_), g, F.kp, F.binds (ps := ["told", "poly"]) fun _ _ _ _ _ _ us hl => match us, hl with | [_, _], _ => rfl⟩
  · obtain ⟨d, ⟨v, v', n, S, q, rfl, _⟩, _⟩ := h; rfl
  · obtain ⟨d, ⟨v0, w0, n, S, q, rfl, t0, t1, ok, hz, oq, bq, lq, ls, bs, rfl⟩, k⟩ := h
    refine ⟨_, (pss_cons (ps_expr (pe_callC C_checked_sum (hr.mono (by decide)) pass0 (pa_cons (pv 0) pa_nil)))
  (pss_cons (ps_if (pt_cmpR (op_eqD hr.units) (pe_callC C_checked_poly (hr.mono (by decide)) pass0 (pa_cons (pv 1) pa_nil)) (pe_tup pa_nil) (nomark _))
  (pss_one (ps_ret (pe_tupF pa_nil)))
  pss_nil)
  (pss_one (ps_ret (pe_tupleF (by rfl) B.tuple (pe_lc (own := [("mat", 2), ("one", 3)]) (g := (gTup K 2 (gCons (gName 2) (gCons (gName 3) gNil)))) rfl sc_scaled.nd (pi_tup (pv 0)) (blkOk_by (N := ["told", "poly", "mat", "one"]) (sc := defScope (top 40)) (by decide +kernel)) (fun _ _ _ _ _ => (pg_tup rfl (pgs_cons (pg_name (i := 2) sc_scaled.nd rfl (Or.inl rfl)) (pgs_cons (pg_name (i := 3) sc_scaled.nd rfl (Or.inl rfl)) pgs_nil)))) (fun _ _ _ _ _ => pts_nil) (fun _ _ _ _ _ => (pe_tup (pa_cons (pv 2) (pa_cons (pe_callC C_times_p (hr.mono (by decide)) pass0 (pa_cons (pv 3) (pa_cons (pv 1) pa_nil))) pa_nil)))))))))), ?_⟩
    refine s_seq (s_drop (evd_callD (eva_cons (evd_var rfl t0) eva_nil) ⟨n, S, rfl, ok, rfl⟩) fun H1 e1 => ?_)
    refine s_seq (s_if (evt_test (evd_eqD (evd_callD (eva_cons (evd_var rfl (t1.ex e1)) eva_nil) ⟨q, rfl, oq, rfl⟩) (evd_tup eva_nil) (sh_P _) sh_nil (eqv_nil_P _))) (fun hb H2 e2 => ?_) fun hb H2 e2 => ?_)
    · have hq : q = [] := by simpa using hb
      rw [if_pos hq] at k
      exact s_retF (evf_tup eva_nil) fun v H5 e5 t5 => k v H5 ((e1.trans e2).trans e5) t5
    · have hq : ¬ q = [] := by simpa using hb
      rw [if_neg hq] at k
      refine s_next ?_
      have t1' := t1.ex (e1.trans e2)
      dsimp only
      refine s_retF (d := dSum n (scaleL S q)) (evf_tupN ?_) fun v H5 e5 t5 => k v H5 ((e1.trans e2).trans e5) t5
      have el : (scaleL S q).map (dTerm n) = (((scaleL S q).map (dTerm n)).map some).filterMap id := (filt_all _).symm
      rw [el]
      refine evn_lcT (evd_var rfl (t0.ex (e1.trans e2))) (by unfold scaleL; simp) (by unfold scaleL; simp; omega) fun i d o v H' e' hd ho tv => ?_
      obtain ⟨u, hu, rfl⟩ := dSum_get hd
      have ho2 : o = some (dTerm n (u.1, mulP u.2 q)) := by
        unfold scaleL at ho
        rw [List.getElem?_map, List.getElem?_map, List.getElem?_map, hu] at ho
        exact (Option.some.inj ho).symm
      subst ho2
      have hu' := List.mem_of_getElem? hu
      obtain ⟨x, y, tx, ty, hg⟩ := gt2 (K := K) (i := 2) (j := 3) (tp_Term tv)
      refine ⟨_, fun R r => hg _ R r, rfl, evt_yes, fun e he => ?_⟩
      cases he
      exact evd_tup (eva_cons (evd_var rfl tx) (eva_cons (evd_callD (eva_cons (evd_var rfl ty) (eva_cons (evd_var rfl (t1'.ex e')) eva_nil)) ⟨u.2, q, rfl, by have := ls u hu'; omega, by omega, (ok.vt u hu').2.1, oq, bs u hu', bq, rfl⟩) eva_nil))
abbrev sp_flipped : Sp := spF fun H vs d => ∃ v n S, vs = [v] ∧ Tp H v (dSum n S) ∧ okS n S ∧ S.length ≤ 1000 ∧ d = dSum n ((flipL n S).mergeSort leT)
theorem sc_flipped : FnScope ["told", "mat", "poly"] ["told"] (defScope (top 42)) := ⟨rfl, rfl, rfl, by decide +kernel, rfl, by decide +kernel, by decide +kernel⟩
theorem w_flipped (B : Bt mg) (D : DefIn K mg "flipped" (top 42)) (C_checked_sum : Cal P w K mg base CX0 4 "checked_sum" ["told"] (sp_checked_sum)) (C_upside_down : Cal P w K mg base CX0 4 "upside_down" ["mat"] (sp_upside_down))  : Cal P w K mg base CX0 5 "flipped" ["told"] (sp_flipped) := by
  obtain ⟨f, fd, F, g⟩ := D.ex
  refine ⟨f, fd, F.ok sc_flipped (fun vs H Q E h => ?_) (fun cdv A outer s H vs Q E hr h => ?_), g, F.kp, F.binds (ps := ["told"]) fun _ _ _ _ _ _ us hl => match us, hl with | [_], _ => rfl⟩
  · obtain ⟨d, ⟨v, n, S, rfl, _⟩, _⟩ := h; rfl
  · obtain ⟨d, ⟨v0, n, S, rfl, t0, ok, hz, rfl⟩, k⟩ := h
    refine ⟨_, (pss_one (ps_ret (pe_tupleF (by rfl) B.tuple (pe_callB (cr_sortedD hr.units) (by rfl) B.sorted (by decide +kernel) (pa_cons (pe_lc (own := [("mat", 1), ("poly", 2)]) (g := (gTup K 2 (gCons (gName 1) (gCons (gName 2) gNil)))) rfl sc_flipped.nd (pi_tup (pe_callC C_checked_sum (hr.mono (by decide)) pass0 (pa_cons (pv 0) pa_nil))) (blkOk_by (N := ["told", "mat", "poly"]) (sc := defScope (top 42)) (by decide +kernel)) (fun _ _ _ _ _ => (pg_tup rfl (pgs_cons (pg_name (i := 1) sc_flipped.nd rfl (Or.inl rfl)) (pgs_cons (pg_name (i := 2) sc_flipped.nd rfl (Or.inl rfl)) pgs_nil)))) (fun _ _ _ _ _ => pts_nil) (fun _ _ _ _ _ => (pe_tup (pa_cons (pe_callC C_upside_down (hr.mono (by decide)) pass0 (pa_cons (pv 1) pa_nil)) (pa_cons (pv 2) pa_nil))))) pa_nil))))), ?_⟩
    refine s_retF (d := dSum n ((flipL n S).mergeSort leT)) (evf_tupN ?_) k
    rw [← dataLe_Term n]
    refine evn_sorted (dTerm n) ?_ (fun a b => alike_Term n n a b) (fun b => ⟨_, _, rfl⟩) (by unfold flipL; simp; omega) (fun b => by rw [depth_Term]; decide)
    have el : (flipL n S).map (dTerm n) = (((flipL n S).map (dTerm n)).map some).filterMap id := (filt_all _).symm
    rw [el]
    refine evn_lcT (evd_callD (eva_cons (evd_var rfl t0) eva_nil) ⟨n, S, rfl, ok, rfl⟩) (by unfold flipL; simp) (by unfold flipL; simp; omega) fun i d o v H' e' hd ho tv => ?_
    obtain ⟨u, hu, rfl⟩ := dSum_get hd
    have ho2 : o = some (dTerm n (downM n u.1, u.2)) := by
      unfold flipL at ho
      rw [List.getElem?_map, List.getElem?_map, List.getElem?_map, hu] at ho
      exact (Option.some.inj ho).symm
    subst ho2
    obtain ⟨x, y, tx, ty, hg⟩ := gt2 (K := K) (i := 1) (j := 2) (tp_Term tv)
    refine ⟨_, fun R r => hg _ R r, rfl, evt_yes, fun e he => ?_⟩
    cases he
    exact evd_tup (eva_cons (evd_callD (eva_cons (evd_var rfl tx) eva_nil) ⟨n, u.1, rfl, ok.mat (List.mem_of_getElem? hu), rfl⟩) (eva_cons (evd_var rfl ty) eva_nil))
abbrev sp_at_worth : Sp := spND fun ds d => ∃ n S x, ds = [dSum n S, .int x] ∧ okS n S ∧ S.length ≤ 1000 ∧ Ln 10 S ∧ (∀ t ∈ S, Bd t.2) ∧ x.natAbs ≤ 20 ∧ d = (worthL S x).map (dWorth n)
theorem sc_at_worth : FnScope ["told", "number", "found", "mat", "poly", "value"] ["told", "number"] (defScope (top 44)) := ⟨rfl, rfl, rfl, by decide +kernel, rfl, by decide +kernel, by decide +kernel⟩
theorem w_at_worth (B : Bt mg) (D : DefIn K mg "at_worth" (top 44)) (C_checked_sum : Cal P w K mg base CX0 4 "checked_sum" ["told"] (sp_checked_sum)) (C_at : Cal P w K mg base CX0 3 "at" ["one", "number"] (sp_at))  : Cal P w K mg base CX0 5 "at_worth" ["told", "number"] (sp_at_worth) := by
  obtain ⟨f, fd, F, g⟩ := D.ex
  refine ⟨f, fd, F.ok sc_at_worth (fun vs H Q E h => ?_) (fun cdv A outer s H vs Q E hr h => ?_), g, F.kp, F.binds (ps := ["told", "number"]) fun _ _ _ _ _ _ us hl => match us, hl with | [_, _], _ => rfl⟩
  · obtain ⟨d, ⟨ds, t, n, S, x, rfl, _⟩, _⟩ := h
    exact t.length
  · obtain ⟨d, ⟨ds, t, n, S, x, rfl, ok, hz, ls, bs, hx, rfl⟩, k⟩ := h
    obtain ⟨v0, w0, rfl, t0, t1⟩ := t.i2
    cases t1.int_inv
    refine ⟨_, (pss_cons (ps_setLc (i := 2) (own := [("mat", 3), ("poly", 4)]) (g := (gTup K 2 (gCons (gName 3) (gCons (gName 4) gNil)))) rfl sc_at_worth.nd rfl rfl (sw_true rfl rfl rfl (by decide +kernel)) (pi_tup (pe_callC C_checked_sum (hr.mono (by decide)) pass0 (pa_cons (pv 0) pa_nil))) (blkOk_by (N := ["told", "number", "found", "mat", "poly", "value"]) (sc := defScope (top 44)) (by decide +kernel)) (fun _ _ _ _ _ => (pg_tup rfl (pgs_cons (pg_name (i := 3) sc_at_worth.nd rfl (Or.inl rfl)) (pgs_cons (pg_name (i := 4) sc_at_worth.nd rfl (Or.inl rfl)) pgs_nil)))) (fun _ _ _ _ _ => pts_nil) (fun _ _ _ _ _ => (pe_tup (pa_cons (pv 3) (pa_cons (pe_callC C_at (hr.mono (by decide)) pass0 (pa_cons (pv 4) (pa_cons (pv 1) pa_nil))) pa_nil)))))
  (pss_one (ps_ret (pe_lc (own := [("mat", 3), ("value", 5)]) (g := (gTup K 2 (gCons (gName 3) (gCons (gName 5) gNil)))) rfl sc_at_worth.nd (pi_list (pv 2)) (blkOk_by (N := ["told", "number", "found", "mat", "poly", "value"]) (sc := defScope (top 44)) (by decide +kernel)) (fun _ _ _ _ _ => (pg_tup rfl (pgs_cons (pg_name (i := 3) sc_at_worth.nd rfl (Or.inl rfl)) (pgs_cons (pg_name (i := 5) sc_at_worth.nd rfl (Or.inl rfl)) pgs_nil)))) (fun _ _ _ _ _ => (pts_one (pt_cmpR op_ne (pv 5) pe_int (nomark _)))) (fun _ _ _ _ _ => (pe_tup (pa_cons (pv 3) (pa_cons (pv 5) pa_nil)))))))), ?_⟩
    generalize hW : (S.map fun t => (t.1, valP x t.2)) = W
    have lW : W.length = S.length := by rw [← hW]; simp
    refine s_seq (s_asgN (ds := W.map (dWorth n)) ?_ fun l H1 nl e1 ll => ?_)
    · have el : W.map (dWorth n) = ((W.map (dWorth n)).map some).filterMap id := (filt_all _).symm
      rw [el]
      refine evn_lcT (evd_callD (eva_cons (evd_var rfl t0) eva_nil) ⟨n, S, rfl, ok, rfl⟩) (by simp [lW]) (by simp; omega) fun i d o v H' e' hd ho tv => ?_
      obtain ⟨u, hu, rfl⟩ := dSum_get hd
      have ho2 : o = some (dWorth n (u.1, valP x u.2)) := by
        rw [← hW, List.getElem?_map, List.getElem?_map, List.getElem?_map, hu] at ho
        exact (Option.some.inj ho).symm
      subst ho2
      have hu' := List.mem_of_getElem? hu
      obtain ⟨y, z, ty, tz, hg⟩ := gt2 (K := K) (i := 3) (j := 4) (tp_Term tv)
      refine ⟨_, fun R r => hg _ R r, rfl, evt_yes, fun e he => ?_⟩
      cases he
      exact evd_tup (eva_cons (evd_var rfl ty) (eva_cons (evd_callD (eva_cons (evd_var rfl tz) (eva_cons (evd_var rfl (.int _)) eva_nil)) ⟨u.2, x, rfl, (ok.vt u hu').2.1, bs u hu', ls u hu', hx, rfl⟩) eva_nil))
    · have el : (worthL S x).map (dWorth n) = ((W.map fun p => if p.2 = 0 then none else some (dWorth n p)).filterMap id) := by
        unfold worthL
        rw [hW]
        clear hW lW ll
        induction W with
        | nil => rfl
        | cons p W ih =>
          by_cases h : p.2 = 0
          · rw [List.filter_cons_of_neg (by simp [h]), ih, List.map_cons, if_pos h]; rfl
          · rw [List.filter_cons_of_pos (by simp [h]), List.map_cons, ih, List.map_cons, if_neg h]; rfl
      rw [el] at k
      dsimp only
      refine s_retN ?_ fun p H2 np e2 lp => k p H2 (e1.back np) (e1.trans e2) lp
      refine evn_lcL (evv_var rfl) ll (by simp) (by simp; omega) fun i d o v H' e' hd ho tv => ?_
      rw [List.getElem?_map] at hd ho
      cases hp : W[i]? with
      | none => rw [hp] at hd; cases hd
      | some p =>
      rw [hp] at hd ho
      cases hd; cases ho
      obtain ⟨y, z, ty, tz, hg⟩ := gt2 (K := K) (i := 3) (j := 5) (show Tp H' v (.tuple [dMat n p.1, .int p.2]) from tv)
      cases tz.int_inv
      refine ⟨_, fun R r => hg _ R r, rfl, ?_, fun e he => ?_⟩
      · refine EvT.is (evt_test (evd_neI (evd_var rfl (.int _)) evd_int)) ?_
        dsimp only
        by_cases h : p.2 = 0
        · rw [if_pos h]; simp [h]
        · rw [if_neg h]; simp [h]
      · dsimp only at he
        by_cases h : p.2 = 0
        · rw [if_pos h] at he; cases he
        · rw [if_neg h] at he; cases he
          exact evd_tup (eva_cons (evd_var rfl ty) (eva_cons (evd_var rfl (.int _)) eva_nil))
abbrev sp_add : Sp := spF fun H vs d => ∃ v v' n S T, vs = [v, v'] ∧ Fz H v (dSum n S) ∧ Tp H v' (dSum n T) ∧ okS n S ∧ okS n T ∧ S.length ≤ 1000 ∧ T.length ≤ 1000 ∧ Ln 100 S ∧ Ln 100 T ∧ d = dSum n (listT (layAll S T))
theorem sc_add : FnScope ["one", "other", "table", "mat", "poly"] ["one", "other"] (defScope (top 38)) := ⟨rfl, rfl, rfl, by decide +kernel, rfl, by decide +kernel, by decide +kernel⟩
theorem w_add (B : Bt mg) (D : DefIn K mg "add" (top 38)) (C_checked_sum : Cal P w K mg base CX0 4 "checked_sum" ["told"] (sp_checked_sum)) (C_pegs_of : Cal P w K mg base CX0 1 "pegs_of" ["told"] (sp_pegs_of)) (C_add_p : Cal P w K mg base CX0 2 "add_p" ["one", "other"] (sp_add_p)) (C_listed : Cal P w K mg base CX0 1 "listed" ["table"] (sp_listed P w))  : Cal P w K mg base CX0 5 "add" ["one", "other"] (sp_add) := by
  obtain ⟨f, fd, F, g⟩ := D.ex
  refine ⟨f, fd, F.ok sc_add (fun vs H Q E h => ?_) (fun cdv A outer s H vs Q E hr h => ?_), g, F.kp, F.binds (ps := ["one", "other"]) fun _ _ _ _ _ _ us hl => match us, hl with | [_, _], _ => rfl⟩
  · obtain ⟨d, ⟨v, v', n, S, T, rfl, _⟩, _⟩ := h; rfl
  · obtain ⟨d, ⟨v0, w0, n, S, T, rfl, f0, t1, oS, oT, zS, zT, lS, lT, rfl⟩, k⟩ := h
    have t0 := f0.tp
    refine ⟨_, (pss_cons (ps_expr (pe_callC C_checked_sum (hr.mono (by decide)) pass0 (pa_cons (pv 0) pa_nil)))
  (pss_cons (ps_expr (pe_callC C_checked_sum (hr.mono (by decide)) pass0 (pa_cons (pv 1) pa_nil)))
  (pss_cons (ps_if (PW.pt (pw_and (pt_cmpR (op_neD hr.units) (pv 0) (pe_tup pa_nil) (nomark _)) (pw_and (pt_cmpR (op_neD hr.units) (pv 1) (pe_tup pa_nil) (nomark _)) (pw_and1 (pt_cmpR (op_neD hr.units) (pe_callC C_pegs_of (hr.mono (by decide)) pass0 (pa_cons (pv 0) pa_nil)) (pe_callC C_pegs_of (hr.mono (by decide)) pass0 (pa_cons (pv 1) pa_nil)) (nomark _))))))
  pss_never
  pss_nil)
  (pss_cons (ps_set (i := 2) sc_add.nd rfl (Or.inl rfl) (pe_callTy (call_dictN rfl hr.units) (by rfl) B.dict (by decide +kernel) (pa_cons (pv 0) pa_nil)))
  (pss_cons (ps_for PassesOwn.never rfl (pi_tup (pv 1)) (pg_tup rfl (pgs_cons (pg_name (i := 3) sc_add.nd rfl (Or.inl rfl)) (pgs_cons (pg_name (i := 4) sc_add.nd rfl (Or.inl rfl)) pgs_nil)))
  (pss_one (ps_nput hr.units (pv 2) (pv 3) (pe_callC C_add_p (hr.mono (by decide)) pass0 (pa_cons (pe_nget2 hr.units (pv 2) (pv 3) (pe_tup pa_nil) ⟨rfl, rfl, rfl, rfl⟩) (pa_cons (pv 4) pa_nil))) rfl)))
  (pss_one (ps_ret (pe_tupleF (by rfl) B.tuple (pe_callC C_listed (hr.mono (by decide)) pass0 (pa_cons (pv 2) pa_nil)))))))))), ?_⟩
    refine s_seq (s_drop (evd_callD (eva_cons (evd_var rfl t0) eva_nil) ⟨n, S, rfl, oS, rfl⟩) fun H1 e1 => ?_)
    refine s_seq (s_drop (evd_callD (eva_cons (evd_var rfl (t1.ex e1)) eva_nil) ⟨n, T, rfl, oT, rfl⟩) fun H2 e2 => ?_)
    have e02 := e1.trans e2
    have t0' := t0.ex e02
    have t1' := t1.ex e02
    dsimp only
    refine s_seq (s_if (b := false) ?_ (fun h => by cases h) fun _ H3 e3 => s_next ?_)
    · cases S with
      | nil => exact evt_and (a := false) (b := true) (evt_test (evd_neD (evd_var rfl t0') (evd_tup eva_nil) (sh_Sum _ _) sh_nil (eqv_Sum_nil n []))) fun h => absurd h (by decide)
      | cons s S =>
        refine EvT.is (evt_and (b := false) (evt_test (evd_neD (evd_var rfl t0') (evd_tup eva_nil) (sh_Sum _ _) sh_nil (eqv_Sum_nil n _))) fun _ => ?_) (by simp)
        cases T with
        | nil => exact evt_and (a := false) (b := true) (evt_test (evd_neD (evd_var rfl t1') (evd_tup eva_nil) (sh_Sum _ _) sh_nil (eqv_Sum_nil n []))) fun h => absurd h (by decide)
        | cons t T =>
          refine EvT.is (evt_and (b := false) (evt_test (evd_neD (evd_var rfl t1') (evd_tup eva_nil) (sh_Sum _ _) sh_nil (eqv_Sum_nil n _))) fun _ => ?_) (by simp)
          exact evt_test (EvD.is (evd_neD (evd_callD (eva_cons (evd_var rfl t0') eva_nil) ⟨(n, s), S.map fun t => (n, t), by rw [← List.map_cons (f := fun t => (n, t)), dSumG_of], rfl⟩) (evd_callD (eva_cons (evd_var rfl t1') eva_nil) ⟨(n, t), T.map fun t => (n, t), by rw [← List.map_cons (f := fun t => (n, t)), dSumG_of], rfl⟩) (sh_two n) (sh_two n) (eqv_two n n)) (by simp))
    have e03 := e02.trans e3
    -- table = dict(one)
    refine s_seq (⟨v0, rfl, v0, n, S, rfl, f0.ex e03, oS.asc.nodup, by omega, fun q H4 nq e4 tb => ?_⟩)
    have nq0 : H q = none := e03.back nq
    have lay0 : ∀ i, (layAll S (T.take i)).length ≤ 2000 := fun i => by
      have := layAll_len (T.take i) S
      have : (T.take i).length ≤ T.length := by rw [List.length_take]; omega
      omega
    refine s_seq (s_forT (evd_var rfl (t1.ex (e03.trans e4))) (fun Hs i σ' H' => ∃ a b, σ' = [some v0, some w0, some (.ref q), a, b] ∧ Ex H H' ∧ TK Hs H' ∧ Tb P w H' q n (layAll S (T.take i))) (fun Hs es => ⟨_, _, rfl, (e03.trans e4).trans es, TK.refl _, tb.ex es⟩) (fun _ _ _ _ ⟨_, _, _, _, k, _⟩ => k) ?_ ?_)
    · rintro Hs i d x σ2 H5 es hd ⟨a, b, rfl, e0, tk, tb⟩ tx
      obtain ⟨u, hu, rfl⟩ := dSum_get hd
      refine g_tup2 (tp_Term tx) fun y z ty tz => ?_
      refine s_nput (evd_callD (eva_cons (evd_nget2 (evv_var rfl) tb (evd_var rfl ty) (evd_tup eva_nil)) (eva_cons (evd_var rfl tz) eva_nil)) ⟨_, _, rfl, by have := (layAll_Ln (T.take i) lS (lT.take i)).get u.1; omega, by have := lT u (List.mem_of_getElem? hu); omega, rfl⟩) (evv_var rfl) (evd_var rfl ty) tb (by have := lay0 i; omega) fun H6 b6 tb6 => ?_
      refine ⟨_, _, rfl, b6.ex e0 nq0, tk.trans (b6.tk tb.noTup), ?_⟩
      rw [layAll_take hu]; exact tb6
    · rintro Hs σ2 H5 es ⟨a, b, rfl, e0, tk, tb⟩
      rw [List.length_map, List.take_length] at tb
      dsimp only
      refine s_retF (d := dSum n (listT (layAll S T))) (evf_tupN (evn_callN (as := [.val (.ref q)]) (evm_val (evv_var rfl) evm_nil) fun vs H6 e6 ok => ?_)) fun v H7 e7 t7 => k v H7 (e0.trans e7) t7
      match vs, ok with
      | [_], ⟨rfl, _⟩ => exact ⟨q, n, _, rfl, tb.ex e6, by have := lay0 T.length; rw [List.take_length] at this; omega, rfl⟩
end
end Hk


namespace Hk
open PySem PySem.Spec PyProof.Rows L2
/-! ### a def with a star parameter -/
structure CalR (P : Program) (w : World) (K : PySem.W.Frag) (mg : Str → Option Value) (base : Heap) (CX : CXT) (k : Nat) (x : Str) (sp : Sp) : Prop where
  ex : ∃ f, FnR P w K mg base CX k f sp ∧ mg x = some (.ref f) ∧ PySem.W.keepIn K (.ref f) = true
section
variable {X : Cx} {CX : CXT} {k : Nat} {x : Str} {sp : Sp} {E : XK} {p pos : Pos} {e : Expr} {es : List Expr} {t : TA}
theorem pe_callR (C : CalR X.prog X.w X.K X.mg X.base CX k x sp) (hr : Room k X.A) (hx : Passes CX X E) (ha : PA X (e :: es) t) (hg : Gl X x := by rfl) (hdb : (x == ("__debug__" : Str)) = false := by decide)
    (he : starEach (e :: es) X.env = (false, eval e X.env) :: starEach es X.env := by rfl) (hpl : (backTo pos (starEach es X.env)).any (·.1) = false := by rfl) : PE X (.Call (.Name x p) (e :: es) [] pos) (tCall sp [] E t) := by
  obtain ⟨f, F, m, kp⟩ := C.ex
  refine ⟨fun pins s σ H Q I h => ?_⟩
  refine wpAny_Call_Name_kw (ld_glob I hg m ?_ hdb)
  refine PySem.W.callWith_K (h₀ := X.base) I.ok.mod.kin kp (thn (ha.run pos pins s σ H _ I h) fun us s1 ⟨vs, H1, I1, r, q⟩ => ⟨I1.kIn, ?_⟩) he hpl
  have q' : sp vs H1 Q E := by
    have q' : sp (vs ++ []) H1 Q E := q
    rw [List.append_nil] at q'; exact q'
  exact wpAny_call (run_fnR F hr hx I1 r q')
end
theorem onePr_of {n : Nat} {a b : List Nat × List Int} {r : Nat} {K : List Nat} (h : putP n a.1 b.1 = some (r, K)) : onePr n a b = (K, List.replicate r 0 ++ mulP a.2 b.2) := by unfold onePr; rw [h]
theorem prodL_len (n : Nat) (S T : Tab) : (prodL n S T).length = S.length * T.length := by
  unfold prodL
  induction S with
  | nil => simp
  | cons s S ih => rw [List.flatMap_cons, List.length_append, ih, List.length_map, List.length_cons, Nat.succ_mul]; omega
theorem prodL_take {n : Nat} {S T : Tab} {i : Nat} {s : List Nat × List Int} (h : S[i]? = some s) : prodL n (S.take (i + 1)) T = prodL n (S.take i) T ++ T.map (onePr n s) := by
  have hlt := (List.getElem?_eq_some_iff.mp h).1
  have e : S[i] = s := (List.getElem?_eq_some_iff.mp h).2
  unfold prodL
  rw [List.take_succ_eq_append_getElem hlt, List.flatMap_append, e]; simp
theorem mulP_len (a b : List Int) : (mulP a b).length ≤ a.length + b.length := by
  unfold mulP
  refine Nat.le_trans (cutL_len _) ?_
  unfold mulRow
  rw [foldAt_len]; simp
theorem mulP_ok (a b : List Int) : okP (mulP a b) := cutL_ok _
theorem prodL_Ln {n : Nat} {S T : Tab} (hS : okS n S) (hT : okS n T) (lS : Ln 50 S) (lT : Ln 50 T) : Ln 110 (prodL n S T) := by
  intro t ht
  unfold prodL at ht
  obtain ⟨a, ha, hb⟩ := List.mem_flatMap.mp ht
  obtain ⟨b, hb', rfl⟩ := List.mem_map.mp hb
  obtain ⟨r, K, e, _, hr, _⟩ := put_ok hS.n2 hS.n6 (hS.vt a ha).1 (hT.vt b hb').1
  rw [onePr_of e]
  have := mulP_len a.2 b.2
  have := lS a ha
  have := lT b hb'
  have := hS.n6
  simp; omega
theorem okS.sub {n : Nat} {S : Tab} (h : okS n S) (i : Nat) : okS n (S.take i) := ⟨h.n2, h.n6, fun t ht => h.vt t (List.mem_of_mem_take ht), (List.Pairwise.sublist (List.take_sublist i S) h.asc)⟩
theorem dP_cat (r : Nat) (p : List Int) : List.replicate ((r : Nat) : Int).toNat (PyData.int 0) ++ p.map PyData.int = (List.replicate r 0 ++ p).map PyData.int := by
  rw [Int.toNat_natCast, List.map_append, List.map_replicate]
local macro_rules | `(tactic| walk_at "tp") => `(tactic| first | assumption | exact .int _ | exact .bl _ | solve_by_elim (maxDepth := 6) [Tp.ex])
section
variable {P : Program} {w : World} {K : PySem.W.Frag} {mg : Str → Option Value} {base : Heap}
abbrev sp_check_words : Sp := spD fun ds d => ∃ (n : Nat) (wd : List Nat), ds = [.int n, dN wd] ∧ 1 ≤ n ∧ (∀ i ∈ wd, i + 1 < n) ∧ d = .none
theorem sc_check_words : FnScope ["n", "words", "word", "index"] ["n", "words"] (defScope (top 30)) := ⟨rfl, rfl, rfl, by decide +kernel, rfl, by decide +kernel, by decide +kernel⟩
theorem w_check_words (B : Bt mg) (D : DefIn K mg "check_words" (top 30)) (C_check_size : Cal P w K mg base CX0 1 "check_size" ["n"] sp_check_size) : CalR P w K mg base CX0 2 "check_words" sp_check_words := by
  obtain ⟨f, fd, F, g⟩ := D.ex
  have kp := F.kp
  obtain ⟨oc, od, kV, doc, pm, an, cdv, ct, osl, rfl, lk, hcd⟩ := F.ex
  have R := fn_ofV (P := P) (w := w) (mg := mg) (base := base) (CX := CX0) (k := 1) (pa := "n") (pv := "words") (nmax := 5) (N := ["n", "words", "word", "index"])
    (sp := spP fun H vs d => ∃ (n : Nat) (wd : List Nat), TpAll H vs [.int n, .tuple [dN wd]] ∧ 1 ≤ n ∧ (∀ i ∈ wd, i + 1 < n) ∧ d = .none) lk hcd sc_check_words (by decide)
    (bindV_of (fun _ => rfl) (fun _ _ => rfl) (fun _ _ _ => rfl) (fun _ _ _ _ => rfl) (fun _ _ _ _ _ => rfl) (fun _ _ _ _ _ _ => rfl)) (fun _ _ _ _ _ _ _ _ _ _ _ _ h => h.elim) (fun A outer s H vs Q E hr h => by
      obtain ⟨d, ⟨n, wd, t, h1, hw, rfl⟩, k⟩ := h
      obtain ⟨v0, w0, rfl, t0, t1⟩ := t.i2
      cases t0.int_inv
      refine ⟨_, PSs.nox (pss_cons (ps_expr (pe_callC C_check_size (hr.mono (by decide)) pass0 (pa_cons (pv 0) pa_nil)))
  (pss_one (ps_for PassesOwn.never rfl (pi_tup (pv 1)) (pg_name (i := 2) sc_check_words.nd rfl (Or.inl rfl))
  (pss_one (ps_for PassesOwn.never rfl (pi_tup (pv 2)) (pg_name (i := 3) sc_check_words.nd rfl (Or.inl rfl))
  (pss_one (ps_if (pt_not (pt_chain op_le op_lt pe_int (pv 3) (pe_op op_sub (pv 0) pe_int)))
  pss_never
  pss_nil))))))), ?_⟩
      refine s_seq (s_drop (evd_callD (eva_cons (evd_var rfl (.int _)) eva_nil) ⟨_, rfl, by omega, rfl⟩) fun H1 e1 => ?_)
      refine s_forT (evd_var rfl (t1.ex e1)) (fun Hs i σ' H' => ∃ a b, σ' = [some (.int n), some w0, a, b] ∧ Ex H H' ∧ Ex Hs H') (fun Hs es => ⟨_, _, rfl, e1.trans es, Ex.refl _⟩) (fun _ _ _ _ ⟨_, _, _, _, e⟩ => e.tk) ?_ ?_
      · rintro Hs i d x σ2 H2 es hd ⟨a, b, rfl, e0, e2⟩ tx
        have ed : d = dN wd := by
          match i, hd with
          | 0, hd => exact (Option.some.inj hd).symm
          | i + 1, hd => simp at hd
        subst ed
        refine s_forT (evd_var rfl (show Tp H2 x (.tuple (nats wd)) from tx)) (fun Ht j σ' H' => ∃ b, σ' = [some (.int n), some w0, some x, b] ∧ Ex H H' ∧ Ex Hs H' ∧ Ex Ht H') (fun Ht es => ⟨_, rfl, e0.trans es, e2.trans es, Ex.refl _⟩) (fun _ _ _ _ ⟨_, _, _, _, e⟩ => e.tk) ?_ ?_
        · rintro Ht j d y σ3 H3 et hd ⟨b, rfl, e0, e2, e3⟩ ty
          obtain ⟨m, hm, rfl⟩ := nats_get' hd
          cases ty.int_inv
          have := hw m (List.mem_of_getElem? hm)
          refine s_if (evt_not (evt_test (evd_chain evd_int (evd_var rfl (.int _)) (evd_II (evd_var rfl (.int _)) evd_int)))) (fun hb => absurd hb (by simp; omega)) fun _ H4 e4 => ?_
          exact ⟨_, rfl, e0.trans e4, e2.trans e4, e3.trans e4⟩
        · rintro Ht σ3 H3 et ⟨b, rfl, e0, e2, e3⟩
          exact ⟨_, _, rfl, e0, e2⟩
      · rintro Hs σ2 H2 es ⟨a, b, rfl, e0, e2⟩
        exact k _ _ e0 .non)
  refine ⟨f, R.imp fun vs H Q E h => ?_, g, kp⟩
  obtain ⟨d, ⟨ds, t, n, wd, rfl, h1, hw, rfl⟩, k⟩ := h
  obtain ⟨v0, w0, rfl, t0, t1⟩ := t.i2
  refine ⟨v0, [w0], rfl, by simp, fun p hp => ⟨_, ⟨n, wd, .cons (t0.ex (Ex.new hp)) (.cons (.tup (.inl upd_same) (.cons (t1.ex (Ex.new hp)) .nil)) .nil), h1, hw, rfl⟩, fun v H' e' tv => k v H' ((Ex.new hp).trans e') tv⟩⟩
abbrev sp_value_of : Sp := spD fun ds d => ∃ (n : Nat) (wd : List Nat), ds = [.int n, dN wd] ∧ 2 ≤ n ∧ n ≤ 6 ∧ (∀ i ∈ wd, i + 1 < n) ∧ d = .tuple [.int ((wordV n wd).1 : Nat), dMat n (wordV n wd).2]
theorem sc_value_of : FnScope ["n", "word", "value", "index"] ["n", "word"] (defScope (top 31)) := ⟨rfl, rfl, rfl, by decide +kernel, rfl, by decide +kernel, by decide +kernel⟩
theorem w_value_of (B : Bt mg) (D : DefIn K mg "value_of" (top 31)) (C_check_words : CalR P w K mg base CX0 2 "check_words" sp_check_words) (C_straight : Cal P w K mg base CX0 2 "straight" ["n"] (sp_straight)) (C_hook : Cal P w K mg base CX0 3 "hook" ["n", "i"] (sp_hook)) (C_chained : Cal P w K mg base CX0 3 "chained" ["one", "other"] (sp_chained))  : Cal P w K mg base CX0 4 "value_of" ["n", "word"] (sp_value_of) := by
  obtain ⟨f, fd, F, g⟩ := D.ex
  refine ⟨f, fd, F.ok sc_value_of (fun vs H Q E h => ?_) (fun cdv A outer s H vs Q E hr h => ?_), g, F.kp, F.binds (ps := ["n", "word"]) fun _ _ _ _ _ _ us hl => match us, hl with | [_, _], _ => rfl⟩
  · obtain ⟨d, ⟨ds, t, n, wd, rfl, _⟩, _⟩ := h
    exact t.length
  · obtain ⟨d, ⟨ds, t, n, wd, rfl, h2, h6, hw, rfl⟩, k⟩ := h
    obtain ⟨v0, w0, rfl, t0, t1⟩ := t.i2
    cases t0.int_inv
    refine ⟨_, (pss_cons (ps_expr (pe_callR C_check_words (hr.mono (by decide)) pass0 (pa_cons (pv 0) (pa_cons (pv 1) pa_nil))))
  (pss_cons (ps_set (i := 2) sc_value_of.nd rfl (Or.inl rfl) (pe_tup (pa_cons pe_int (pa_cons (pe_callC C_straight (hr.mono (by decide)) pass0 (pa_cons (pv 0) pa_nil)) pa_nil))))
  (pss_cons (ps_for PassesOwn.never rfl (pi_tup (pv 1)) (pg_name (i := 3) sc_value_of.nd rfl (Or.inl rfl))
  (pss_one (ps_set (i := 2) sc_value_of.nd rfl (Or.inl rfl) (pe_callC C_chained (hr.mono (by decide)) pass0 (pa_cons (pv 2) (pa_cons (pe_tup (pa_cons pe_int (pa_cons (pe_callC C_hook (hr.mono (by decide)) pass0 (pa_cons (pv 0) (pa_cons (pv 3) pa_nil))) pa_nil))) pa_nil))))))
  (pss_one (ps_ret (pv 2)))))), ?_⟩
    refine s_seq (s_drop (evd_callD (eva_cons (evd_var rfl (.int _)) (eva_cons (evd_var rfl t1) eva_nil)) ⟨n, wd, rfl, by omega, hw, rfl⟩) fun H1 e1 => ?_)
    refine s_seq (s_asg (evd_tup (eva_cons evd_int (eva_cons (evd_callD (eva_cons (evd_var rfl (.int _)) eva_nil) ⟨n, rfl, by omega, h6, rfl⟩) eva_nil))) fun v H2 e2 tv => ?_)
    have t1' := t1.ex (e1.trans e2)
    refine s_seq (s_forT (evd_var rfl (show Tp H2 w0 (.tuple (nats wd)) from t1')) (fun Hs i σ' H' => ∃ v b, σ' = [some (.int n), some w0, some v, b] ∧ Ex H H' ∧ Ex Hs H' ∧ Tp H' v (.tuple [.int (((wd.take i).foldl (wordF n) (0, strM n)).1 : Nat), dMat n ((wd.take i).foldl (wordF n) (0, strM n)).2])) (fun Hs es => ⟨_, _, rfl, (e1.trans e2).trans es, Ex.refl _, tv.ex es⟩) (fun _ _ _ _ ⟨_, _, _, _, e, _⟩ => e.tk) ?_ ?_)
    · rintro Hs i d x σ2 H3 es hd ⟨v, b, rfl, e0, e3, tv⟩ tx
      obtain ⟨m, hm, rfl⟩ := nats_get' hd
      cases tx.int_inv
      have hi := hw m (List.mem_of_getElem? hm)
      have hV := (wordV_ok h2 h6 (wd.take i) (0, strM n) (fun j hj => hw j (List.mem_of_mem_take hj)) (hk_of (by omega) h6).1).1
      obtain ⟨r, Kk, e, _, hr, hK⟩ := put_ok h2 h6 hV ((hk_of (by omega) h6).2 m hi)
      rw [fold_take hm]
      generalize hU : (wd.take i).foldl (wordF n) (0, strM n) = U at tv e ⊢
      have e2 : wordF n U m = (U.1 + r, Kk) := by unfold wordF; rw [e]
      rw [e2]
      refine s_asg (evd_callD (eva_cons (evd_var rfl tv) (eva_cons (evd_tup (eva_cons evd_int (eva_cons (evd_callD (eva_cons (evd_var rfl (.int _)) (eva_cons (evd_var rfl (.int _)) eva_nil)) ⟨n, m, rfl, hi, h6, rfl⟩) eva_nil))) eva_nil)) ⟨n, U.2, hookM n m, r, Kk, (U.1 : Int), 0, rfl, h6, e, rfl⟩) fun v' H4 e4 tv' => ?_
      refine ⟨_, _, rfl, e0.trans e4, e3.trans e4, ?_⟩
      have : ((U.1 : Int) + 0 + (r : Int)) = ((U.1 + r : Nat) : Int) := by omega
      rw [this] at tv'
      exact tv'
    · rintro Hs σ2 H3 es ⟨v, b, rfl, e0, e3, tv⟩
      rw [nats_len, List.take_length] at tv
      exact s_ret (evd_var rfl tv) fun v H4 e4 t4 => k v H4 (e0.trans e4) t4
abbrev sp_word_sum : Sp := spF fun H vs d => ∃ (v : V) (n : Nat) (wd : List Nat), vs = [.int n, v] ∧ Tp H v (dN wd) ∧ 2 ≤ n ∧ n ≤ 6 ∧ wd.length ≤ 100 ∧ (∀ i ∈ wd, i + 1 < n) ∧ d = dSum n [((wordV n wd).2, List.replicate (wordV n wd).1 0 ++ [1])]
theorem sc_word_sum : FnScope ["n", "word", "rings", "mat"] ["n", "word"] (defScope (top 43)) := ⟨rfl, rfl, rfl, by decide +kernel, rfl, by decide +kernel, by decide +kernel⟩
theorem w_word_sum (B : Bt mg) (D : DefIn K mg "word_sum" (top 43)) (C_value_of : Cal P w K mg base CX0 4 "value_of" ["n", "word"] (sp_value_of))  : Cal P w K mg base CX0 5 "word_sum" ["n", "word"] (sp_word_sum) := by
  obtain ⟨f, fd, F, g⟩ := D.ex
  refine ⟨f, fd, F.ok sc_word_sum (fun vs H Q E h => ?_) (fun cdv A outer s H vs Q E hr h => ?_), g, F.kp, F.binds (ps := ["n", "word"]) fun _ _ _ _ _ _ us hl => match us, hl with | [_, _], _ => rfl⟩
  · obtain ⟨d, ⟨v, n, wd, rfl, _⟩, _⟩ := h; rfl
  · obtain ⟨d, ⟨v0, n, wd, rfl, t1, h2, h6, hl, hw, rfl⟩, k⟩ := h
    have hV := wordV_ok h2 h6 wd (0, strM n) hw (hk_of (by omega) h6).1
    have hr6 : (wordV n wd).1 ≤ 600 := by have := hV.2; unfold wordV; simp at this; omega
    refine ⟨_, (pss_cons (ps_asg (pe_callC C_value_of (hr.mono (by decide)) pass0 (pa_cons (pv 0) (pa_cons (pv 1) pa_nil))) (pg_tup rfl (pgs_cons (pg_name (i := 2) sc_word_sum.nd rfl (Or.inl rfl)) (pgs_cons (pg_name (i := 3) sc_word_sum.nd rfl (Or.inl rfl)) pgs_nil))))
  (pss_one (ps_ret (pe_tupF (pa_cons (pe_tup (pa_cons (pv 3) (pa_cons (pe_op op_catA (pe_op op_repA (pe_tup (pa_cons pe_int pa_nil)) (pv 2)) (pe_tup (pa_cons pe_int pa_nil))) pa_nil))) pa_nil))))), ?_⟩
    refine s_seq (s_asgG (evd_callD (eva_cons (evd_var rfl (.int _)) (eva_cons (evd_var rfl t1) eva_nil)) ⟨n, wd, rfl, h2, h6, hw, rfl⟩) fun v H1 e1 tv => g_tup2 tv fun y z ty tz => ?_)
    cases ty.int_inv
    generalize hU : wordV n wd = U at tz k hr6 ⊢
    have ec : (List.replicate ((U.1 : Nat) : Int).toNat (PyData.int 0) ++ [PyData.int 1]) = (List.replicate U.1 (0 : Int) ++ [1]).map PyData.int := dP_cat U.1 [1]
    dsimp only
    refine s_retF (d := dSum n [(U.2, List.replicate U.1 (0 : Int) ++ [1])]) (evf_tup (eva_cons (d := dTerm n (U.2, List.replicate U.1 (0 : Int) ++ [1])) (evd_tup (eva_cons (evd_var rfl tz) (eva_cons (EvD.is (evd_catT (evd_repT (evd_tup (eva_cons evd_int eva_nil)) (evd_var rfl (.int _)) (by omega) (by omega)) (evd_tup (eva_cons evd_int eva_nil)) (by simp; omega)) (by rw [ec]; rfl)) eva_nil))) eva_nil)) fun v H2 e2 t2 => k v H2 (e1.trans e2) t2
abbrev sp_multiply : Sp := spF fun H vs d => ∃ v v' n S T, vs = [v, v'] ∧ Tp H v (dSum n S) ∧ Tp H v' (dSum n T) ∧ okS n S ∧ okS n T ∧ S.length ≤ 50 ∧ T.length ≤ 50 ∧ Ln 50 S ∧ Ln 50 T ∧ (∀ t ∈ S, Bd t.2) ∧ (∀ t ∈ T, Bd t.2) ∧ d = dSum n (listT (layAll [] (prodL n S T)))
theorem sc_multiply : FnScope ["one", "other", "table", "ahead", "poly", "behind", "factor", "rings", "n", "k", "mates", "mat"] ["one", "other"] (defScope (top 39)) := ⟨rfl, rfl, rfl, by decide +kernel, rfl, by decide +kernel, by decide +kernel⟩
theorem w_multiply (B : Bt mg) (D : DefIn K mg "multiply" (top 39)) (C_checked_sum : Cal P w K mg base CX0 4 "checked_sum" ["told"] (sp_checked_sum)) (C_pegs_of : Cal P w K mg base CX0 1 "pegs_of" ["told"] (sp_pegs_of)) (C_put_behind : Cal P w K mg base CX0 2 "put_behind" ["one", "other"] (sp_put_behind)) (C_times_p : Cal P w K mg base CX0 1 "times_p" ["one", "other"] (sp_times_p)) (C_add_p : Cal P w K mg base CX0 2 "add_p" ["one", "other"] (sp_add_p)) (C_listed : Cal P w K mg base CX0 1 "listed" ["table"] (sp_listed P w))  : Cal P w K mg base CX0 5 "multiply" ["one", "other"] (sp_multiply) := by
  obtain ⟨f, fd, F, g⟩ := D.ex
  refine ⟨f, fd, F.ok sc_multiply (fun vs H Q E h => ?_) (fun cdv A outer s H vs Q E hr h => ?_), g, F.kp, F.binds (ps := ["one", "other"]) fun _ _ _ _ _ _ us hl => match us, hl with | [_, _], _ => rfl⟩
  · obtain ⟨d, ⟨v, v', n, S, T, rfl, _⟩, _⟩ := h; rfl
  · obtain ⟨d, ⟨v0, w0, n, S, T, rfl, t0, t1, oS, oT, zS, zT, lS, lT, bS, bT, rfl⟩, k⟩ := h
    refine ⟨_, (pss_cons (ps_expr (pe_callC C_checked_sum (hr.mono (by decide)) pass0 (pa_cons (pv 0) pa_nil)))
  (pss_cons (ps_expr (pe_callC C_checked_sum (hr.mono (by decide)) pass0 (pa_cons (pv 1) pa_nil)))
  (pss_cons (ps_if (PW.pt (pw_or (pt_cmpR (op_eqD hr.units) (pv 0) (pe_tup pa_nil) (nomark _)) (pw_or1 (pt_cmpR (op_eqD hr.units) (pv 1) (pe_tup pa_nil) (nomark _)))))
  (pss_one (ps_ret (pe_tupF pa_nil)))
  pss_nil)
  (pss_cons (ps_if (pt_cmpR op_ne (pe_ix ix_tup (pe_callC C_pegs_of (hr.mono (by decide)) pass0 (pa_cons (pv 0) pa_nil)) pe_int (fun _ _ => rfl)) (pe_ix ix_tup (pe_callC C_pegs_of (hr.mono (by decide)) pass0 (pa_cons (pv 1) pa_nil)) pe_int (fun _ _ => rfl)) (nomark _))
  pss_never
  pss_nil)
  (pss_cons (ps_set (i := 2) sc_multiply.nd rfl (Or.inl rfl) pe_nnew)
  (pss_cons (ps_for PassesOwn.never rfl (pi_tup (pv 0)) (pg_tup rfl (pgs_cons (pg_name (i := 3) sc_multiply.nd rfl (Or.inl rfl)) (pgs_cons (pg_name (i := 4) sc_multiply.nd rfl (Or.inl rfl)) pgs_nil)))
  (pss_one (ps_for PassesOwn.never rfl (pi_tup (pv 1)) (pg_tup rfl (pgs_cons (pg_name (i := 5) sc_multiply.nd rfl (Or.inl rfl)) (pgs_cons (pg_name (i := 6) sc_multiply.nd rfl (Or.inl rfl)) pgs_nil)))
  (pss_cons (ps_asg (pe_callC C_put_behind (hr.mono (by decide)) pass0 (pa_cons (pv 3) (pa_cons (pv 5) pa_nil))) (pg_tup rfl (pgs_cons (pg_name (i := 7) sc_multiply.nd rfl (Or.inl rfl)) (pgs_cons (pg_name (i := 8) sc_multiply.nd rfl (Or.inl rfl)) (pgs_cons (pg_name (i := 9) sc_multiply.nd rfl (Or.inl rfl)) (pgs_cons (pg_name (i := 10) sc_multiply.nd rfl (Or.inl rfl)) pgs_nil))))))
  (pss_cons (ps_set (i := 11) sc_multiply.nd rfl (Or.inl rfl) (pe_tup (pa_cons (pv 8) (pa_cons (pv 9) (pa_cons (pv 10) pa_nil)))))
  (pss_one (ps_nput hr.units (pv 2) (pv 11) (pe_callC C_add_p (hr.mono (by decide)) pass0 (pa_cons (pe_nget2 hr.units (pv 2) (pv 11) (pe_tup pa_nil) ⟨rfl, rfl, rfl, rfl⟩) (pa_cons (pe_op op_catA (pe_op op_repA (pe_tup (pa_cons pe_int pa_nil)) (pv 7)) (pe_callC C_times_p (hr.mono (by decide)) pass0 (pa_cons (pv 4) (pa_cons (pv 6) pa_nil)))) pa_nil))) rfl)))))))
  (pss_one (ps_ret (pe_tupleF (by rfl) B.tuple (pe_callC C_listed (hr.mono (by decide)) pass0 (pa_cons (pv 2) pa_nil))))))))))), ?_⟩
    refine s_seq (s_drop (evd_callD (eva_cons (evd_var rfl t0) eva_nil) ⟨n, S, rfl, oS, rfl⟩) fun H1 e1 => ?_)
    refine s_seq (s_drop (evd_callD (eva_cons (evd_var rfl (t1.ex e1)) eva_nil) ⟨n, T, rfl, oT, rfl⟩) fun H2 e2 => ?_)
    have e02 := e1.trans e2
    have t0' := t0.ex e02
    have t1' := t1.ex e02
    refine s_seq (s_if (evt_or (evt_test (evd_eqD (evd_var rfl t0') (evd_tup eva_nil) (sh_Sum _ _) sh_nil (eqv_Sum_nil n S))) fun _ => (evt_test (evd_eqD (evd_var rfl t1') (evd_tup eva_nil) (sh_Sum _ _) sh_nil (eqv_Sum_nil n T)))) (fun hb H3 e3 => ?_) fun hb H3 e3 => ?_)
    · have h0 : prodL n S T = [] := by
        simp at hb
        rcases hb with rfl | rfl
        · rfl
        · unfold prodL; simp
      have h00 : listT (layAll [] []) = [] := by unfold listT layAll; simp
      rw [h0, h00] at k
      exact s_retF (evf_tup eva_nil) fun v H5 e5 t5 => k v H5 ((e02.trans e3).trans e5) t5
    · have hne : S ≠ [] ∧ T ≠ [] := by simpa using hb
      refine s_next ?_
      have e03 := e02.trans e3
      have t0'' := t0.ex e03
      have t1'' := t1.ex e03
      dsimp only
      refine s_seq (s_if (b := false) ?_ (fun h => by cases h) fun _ H4 e4 => s_next ?_)
      · obtain ⟨s, S', rfl⟩ := List.exists_cons_of_ne_nil hne.1
        obtain ⟨t, T', rfl⟩ := List.exists_cons_of_ne_nil hne.2
        exact EvT.is (evt_test (evd_neI (evd_ixT (evd_callD (eva_cons (evd_var rfl t0'') eva_nil) ⟨(n, s), S'.map fun t => (n, t), by rw [← List.map_cons (f := fun t => (n, t)), dSumG_of], rfl⟩) evd_int rfl) (evd_ixT (evd_callD (eva_cons (evd_var rfl t1'') eva_nil) ⟨(n, t), T'.map fun t => (n, t), by rw [← List.map_cons (f := fun t => (n, t)), dSumG_of], rfl⟩) evd_int rfl))) (by simp)
      have e04 := e03.trans e4
      refine s_seq (s_asgT (n := n) fun q H5 nq e5 tb => ?_)
      have nq0 : H q = none := e04.back nq
      have hlen : ∀ L : Tab, L.length ≤ 2500 → (layAll [] L).length ≤ 2500 := fun L h => by have := layAll_len L []; simp at this; omega
      refine s_seq (s_forT (evd_var rfl (t0.ex (e04.trans e5))) (fun Hs i σ' H' => ∃ a b c d e f g h j, σ' = [some v0, some w0, some (.ref q), a, b, c, d, e, f, g, h, j] ∧ Ex H H' ∧ TK Hs H' ∧ Tb P w H' q n (layAll [] (prodL n (S.take i) T))) (fun Hs es => ⟨_, _, _, _, _, _, _, _, _, rfl, (e04.trans e5).trans es, TK.refl _, tb.ex es⟩) (fun _ _ _ _ ⟨_, _, _, _, _, _, _, _, _, _, _, k, _⟩ => k) ?_ ?_)
      · rintro Hs i d x σ2 H6 es hd ⟨a, b, c, d', e, f, g, h, j, rfl, e0, tk, tb⟩ tx
        obtain ⟨u, hu, rfl⟩ := dSum_get hd
        have hu' := List.mem_of_getElem? hu
        have hi := lt_of_get hu
        refine g_tup2 (tp_Term tx) fun y z ty tz => ?_
        rw [prodL_take hu]
        have eapp : ∀ L : Tab, layAll [] (prodL n (S.take i) T ++ L) = layAll (layAll [] (prodL n (S.take i) T)) L := fun L => by unfold layAll; rw [List.foldl_append]
        rw [eapp]
        generalize hT0 : layAll [] (prodL n (S.take i) T) = T0 at tb ⊢
        have hLn0 : Ln 110 T0 := by rw [← hT0]; exact layAll_Ln _ (fun _ h => absurd h List.not_mem_nil) (prodL_Ln (oS.sub i) oT (lS.take i) lT)
        have hz0 : T0.length ≤ 2500 := by
          rw [← hT0]; refine hlen _ ?_
          rw [prodL_len, List.length_take]
          exact Nat.le_trans (Nat.mul_le_mul (Nat.le_trans (Nat.min_le_right _ _) zS) zT) (by decide)
        have hLm : Ln 110 (T.map (onePr n u)) := fun t ht => by
          have := prodL_Ln (S := [u]) ⟨oS.n2, oS.n6, fun t ht => by simp at ht; subst ht; exact oS.vt _ hu', by unfold Asc; simp⟩ oT (fun t ht => by simp at ht; subst ht; exact lS _ hu') lT t (by unfold prodL; simpa using ht)
          exact this
        refine s_forT (evd_var rfl (t1.ex e0)) (fun Ht m σ' H' => ∃ c d e f g h j, σ' = [some v0, some w0, some (.ref q), some y, some z, c, d, e, f, g, h, j] ∧ Ex H H' ∧ TK Hs H' ∧ TK Ht H' ∧ Tp H' y (dMat n u.1) ∧ Tp H' z (dP u.2) ∧ Tb P w H' q n (layAll T0 ((T.map (onePr n u)).take m))) (fun Ht et => ⟨_, _, _, _, _, _, _, rfl, e0.trans et, tk.trans et.tk, TK.refl _, ty.ex et, tz.ex et, tb.ex et⟩) (fun _ _ _ _ ⟨_, _, _, _, _, _, _, _, _, _, k, _⟩ => k) ?_ ?_
        · rintro Ht m d x σ3 H7 et hd ⟨c, d', e, f, g, h, j, rfl, e0, tk, tk2, ty, tz, tb⟩ tx
          obtain ⟨t, ht, rfl⟩ := dSum_get hd
          have ht' := List.mem_of_getElem? ht
          have hm := lt_of_get ht
          refine g_tup2 (tp_Term tx) fun y2 z2 ty2 tz2 => ?_
          obtain ⟨r, Kk, ep, _, hr, hK⟩ := put_ok oS.n2 oS.n6 (oS.vt u hu').1 (oT.vt t ht').1
          refine s_seq (s_asgG (evd_callD (eva_cons (evd_var rfl ty) (eva_cons (evd_var rfl ty2) eva_nil)) ⟨n, u.1, t.1, r, Kk, rfl, oS.n6, ep, rfl⟩) fun v H8 e8 tv => g_tup4 tv fun a1 a2 a3 a4 ta1 ta2 ta3 ta4 => ?_)
          cases ta1.int_inv; cases ta2.int_inv; cases ta3.int_inv
          refine s_seq (s_asg (evd_tup (eva_cons (evd_var rfl (.int _)) (eva_cons (evd_var rfl (.int _)) (eva_cons (evd_var rfl ta4) eva_nil)))) fun vm H9 e9 tm => ?_)
          have e89 := e8.trans e9
          have tb9 := tb.ex e89
          have hg : (T.map (onePr n u))[m]? = some (Kk, List.replicate r 0 ++ mulP u.2 t.2) := by rw [List.getElem?_map, ht]; show some (onePr n u t) = _; rw [onePr_of ep]
          have hlm := hLm _ (List.mem_of_getElem? hg)
          have hl2 : (layAll T0 ((T.map (onePr n u)).take m)).length ≤ 2600 := by
            have := layAll_len ((T.map (onePr n u)).take m) T0
            have : ((T.map (onePr n u)).take m).length ≤ T.length := by rw [List.length_take, List.length_map]; omega
            omega
          have hLn2 : Ln 110 (layAll T0 ((T.map (onePr n u)).take m)) := layAll_Ln _ hLn0 (hLm.take m)
          refine s_nput (M := Kk) (evd_callD (eva_cons (evd_nget2 (evv_var rfl) tb9 (evd_var rfl (show Tp H9 vm (dMat n Kk) from tm)) (evd_tup eva_nil)) (eva_cons (EvD.is (evd_catT (evd_repT (evd_tup (eva_cons evd_int eva_nil)) (evd_var rfl (.int _)) (by omega) (by have := oS.n6; omega)) (evd_callD (eva_cons (evd_var rfl (tz.ex e89)) (eva_cons (evd_var rfl (tz2.ex e89)) eva_nil)) ⟨u.2, t.2, rfl, by have := lS u hu'; omega, by have := lT t ht'; omega, (oS.vt u hu').2.1, (oT.vt t ht').2.1, bS u hu', bT t ht', rfl⟩) (by have := mulP_len u.2 t.2; have := lS u hu'; have := lT t ht'; have := oS.n6; simp; omega)) (by rw [dP_cat]; rfl)) eva_nil)) ⟨_, List.replicate r 0 ++ mulP u.2 t.2, rfl, by have := hLn2.get Kk; omega, by have : (List.replicate r 0 ++ mulP u.2 t.2).length ≤ 110 := hlm; omega, rfl⟩) (evv_var rfl) (evd_var rfl (show Tp H9 vm (dMat n Kk) from tm)) tb9 (by omega) fun H10 b10 tb10 => ?_
          have k10 := b10.tk tb9.noTup
          refine ⟨_, _, _, _, _, _, _, rfl, b10.ex (e0.trans e89) nq0, (tk.trans e89.tk).trans k10, (tk2.trans e89.tk).trans k10, (ty.ex e89).mono k10, (tz.ex e89).mono k10, ?_⟩
          rw [layAll_take hg]; exact tb10
        · rintro Ht σ3 H7 et ⟨c, d', e, f, g, h, j, rfl, e0, tk, tk2, ty, tz, tb⟩
          have : ((T.map (dTerm n)).length) = (T.map (onePr n u)).length := by simp
          rw [this, List.take_length] at tb
          exact ⟨_, _, _, _, _, _, _, _, _, rfl, e0, tk, tb⟩
      · rintro Hs σ2 H6 es ⟨a, b, c, d', e, f, g, h, j, rfl, e0, tk, tb⟩
        rw [List.length_map, List.take_length] at tb
        dsimp only
        refine s_retF (d := dSum n (listT (layAll [] (prodL n S T)))) (evf_tupN (evn_callN (as := [.val (.ref q)]) (evm_val (evv_var rfl) evm_nil) fun vs H8 e8 ok => ?_)) fun v H9 e9 t9 => k v H9 (e0.trans e9) t9
        match vs, ok with
        | [_], ⟨rfl, _⟩ => exact ⟨q, n, _, rfl, tb.ex e8, by have := hlen (prodL n S T) (by rw [prodL_len]; exact Nat.le_trans (Nat.mul_le_mul zS zT) (by decide)); omega, rfl⟩
end
end Hk


namespace Hk
open PySem PySem.Spec PyProof.Rows L2
/-! ### the well -/
def Wl (H : Hp) (W g : Addr) (c : Nat) : Prop := ∃ (gs : List Int) (cur mark cnt : Int), H W = some (.lst [.ref g, .int cur, .int mark, .int cnt]) ∧ H g = some (.lst (gs.map V.int)) ∧ (∀ x ∈ gs, 0 ≤ x) ∧ 0 ≤ cur ∧ 0 ≤ mark ∧ mark < 2 ^ 62 ∧ 0 ≤ cnt ∧ cnt ≤ c ∧ W ≠ g ∧ gs.length ≤ 100
/-- what stood stays but the well -/
def ExW (W g : Addr) (H H' : Hp) : Prop := ∀ a o, a ≠ W → a ≠ g → H a = some o → H' a = some o
theorem Ex.w {H H' : Hp} (e : Ex H H') (W g : Addr) : ExW W g H H' := fun a o _ _ h => e a o h
theorem ExW.refl (W g : Addr) (H : Hp) : ExW W g H H := fun _ _ _ _ h => h
theorem ExW.trans {W g : Addr} {H H1 H2 : Hp} (a : ExW W g H H1) (b : ExW W g H1 H2) : ExW W g H H2 := fun x o n m e => b x o n m (a x o n m e)
theorem ExB.w1 {W g : Addr} {H H' : Hp} (b : ExB W H H') : ExW W g H H' := fun a o n _ h => b a o n h
theorem ExB.w2 {W g : Addr} {H H' : Hp} (b : ExB g H H') : ExW W g H H' := fun a o _ m h => b a o m h
theorem Wl.tk {W g : Addr} {c : Nat} {H H' : Hp} (h : Wl H W g c) (e : ExW W g H H') : TK H H' := by
  obtain ⟨gs, cur, mark, cnt, hW, hg, _⟩ := h
  exact ⟨fun a xs q => e a _ (fun z => by rw [z, hW] at q; cases q) (fun z => by rw [z, hg] at q; cases q) q, fun a o u q => e a _ (fun z => by rw [z, hW] at q; cases q) (fun z => by rw [z, hg] at q; cases q) q⟩
theorem Wl.ex {W g : Addr} {c : Nat} {H H' : Hp} (h : Wl H W g c) (e : Ex H H') : Wl H' W g c := by
  obtain ⟨gs, cur, mark, cnt, hW, hg, r⟩ := h
  exact ⟨gs, cur, mark, cnt, e _ _ hW, e _ _ hg, r⟩
theorem Wl.ne {W g p : Addr} {c : Nat} {H : Hp} (h : Wl H W g c) (n : H p = none) : p ≠ W ∧ p ≠ g := by
  obtain ⟨gs, cur, mark, cnt, hW, hg, r⟩ := h
  exact ⟨fun e => (ne_of_none hW n) e.symm, fun e => (ne_of_none hg n) e.symm⟩
/-- .. at a list of the frame's own -/
theorem Wl.keepB {W g p : Addr} {c : Nat} {H H' : Hp} (h : Wl H W g c) (b : ExB p H H') (n : p ≠ W ∧ p ≠ g) : Wl H' W g c := by
  obtain ⟨gs, cur, mark, cnt, hW, hg, r⟩ := h
  exact ⟨gs, cur, mark, cnt, b _ _ (Ne.symm n.1) hW, b _ _ (Ne.symm n.2) hg, r⟩
theorem Wl.le {W g : Addr} {c d : Nat} {H : Hp} (h : Wl H W g c) (l : c ≤ d) : Wl H W g d := by
  obtain ⟨gs, cur, mark, cnt, hW, hg, a, b, c', d', e, f, r⟩ := h
  exact ⟨gs, cur, mark, cnt, hW, hg, a, b, c', d', e, by omega, r⟩
theorem Ls.keepW {W g l : Addr} {c : Nat} {H H' : Hp} {ds : List PyData} (h : Ls H l ds) (w : Wl H W g c) (e : ExW W g H H') (n : l ≠ W ∧ l ≠ g) : Ls H' l ds := h.keep (w.tk e) fun o q => e l o n.1 n.2 q
section
variable {K : PySem.W.Frag} {σ : L2.St} {H : Hp} {ta tb tc te : TE} {D : Ends} {g : TG}
theorem evd_neLV {l : Addr} {ds : List PyData} (ha : EvV ta σ H (.ref l)) (hl : Ls H l ds) (hs : SeqAt.shaped (.list ds) = true) : EvD (tOp (rNeD K) ta (tLst tNil)) σ H (.bool (!decide (ds = []))) :=
  fun H1 e1 Q q => ha H1 e1 _ fun H2 e2 => ⟨Nat.zero_le _, fun p hp => by
    obtain ⟨xs, hx, r⟩ := (hl.ex (e1.trans e2)).ex (Ex.new (o := .lst []) hp)
    refine ⟨.list ds, .list [], .lst (SqL.of hx) r.dp, .lst (SqL.of upd_same) .nil, hs, rfl, ?_⟩
    have e : PyData.eqv (.list ds) (.list []) = decide (ds = []) := by cases ds <;> rfl
    rw [e]; exact q _ _ (e2.trans (Ex.new hp)) (.bl _)⟩
theorem s_parNI {i j : Nat} {a : Int} {ds : List PyData} (h1 : EvN ta σ H ds) (h2 : EvD tb σ H (.int a)) (k : ∀ p H1, H p = none → Ex H H1 → Ls H1 p ds → D.nx ((σ.set i (some (.ref p))).set j (some (.int a))) H1) : tPar i j (tCons ta (tCons tb tNil)) D σ H :=
  h1 H (Ex.refl _) _ fun p H1 np e1 l1 => h2 H1 e1 _ fun v H2 e2 tv => ⟨_, _, rfl, by rw [tv.int_inv]; exact k p H2 np (e1.trans e2) (l1.ex e2)⟩
theorem s_parIN {i j : Nat} {a : Int} {ds : List PyData} (h1 : EvD ta σ H (.int a)) (h2 : EvN tb σ H ds) (k : ∀ p H1, H p = none → Ex H H1 → Ls H1 p ds → D.nx ((σ.set i (some (.int a))).set j (some (.ref p))) H1) : tPar i j (tCons ta (tCons tb tNil)) D σ H :=
  h1 H (Ex.refl _) _ fun v H1 e1 tv => h2 H1 e1 _ fun p H2 np e2 l2 => ⟨_, _, rfl, by rw [tv.int_inv]; exact k p H2 (e1.back np) (e1.trans e2) l2⟩
theorem s_parNN {i j : Nat} {ds es : List PyData} (h1 : EvN ta σ H ds) (h2 : EvN tb σ H es) (k : ∀ p q H1, H p = none → H q = none → p ≠ q → Ex H H1 → Ls H1 p ds → Ls H1 q es → D.nx ((σ.set i (some (.ref p))).set j (some (.ref q))) H1) : tPar i j (tCons ta (tCons tb tNil)) D σ H :=
  h1 H (Ex.refl _) _ fun p H1 np e1 l1 => h2 H1 e1 _ fun q H2 nq e2 l2 => ⟨_, _, rfl, k p q H2 np (e1.back nq) (l1.ne_none nq) (e1.trans e2) (l1.ex e2) l2⟩
/-- l[i] = v, l a list of any values -/
theorem g_subV {l : Addr} {xs : List V} {v : V} {i : Int} {j : Nat} {R : L2.St → Hp → Prop} (ho : EvV ta σ H (.ref l)) (hi : EvD tb σ H (.int i)) (hx : H l = some (.lst xs)) (hj : ixN xs.length i = some j) (k : ∀ H1 H2, Ex H H1 → H2 = upd H1 l (.lst (xs.set j v)) → R σ H2) : gSub ta tb rSetL v σ H R :=
  ho H (Ex.refl _) _ fun H2 e2 => hi H2 e2 _ fun y H3 e3 ty => ⟨l, xs, i, j, rfl, ty.int_inv, (e2.trans e3) _ _ hx, hj, k H3 _ (e2.trans e3) rfl⟩
theorem sh_ints (l : List Int) : SeqAt.shaped (.list (intL l)) = true := by
  show (PyData.canLayAll0 (l.map .int) && decide (PyData.depthAll (l.map .int) + 1 ≤ 64)) = true
  rw [can_ints, PySem.W.depth_ints]; rfl
end
theorem evd_lenS {K : PySem.W.Frag} {σ : L2.St} {H : Hp} {ta : TE} {l : Addr} {ns : List Int} (ha : EvV ta σ H (.ref l)) (hs : SqL K H l (ns.map V.int)) : EvD (tCB (rLenA K) (tCons ta tNil)) σ H (.int (ns.length : Int)) :=
  fun H1 e1 Q q => ha H1 e1 _ fun H2 e2 => ⟨.ref l, ns.length, rfl, .inl ⟨_, Same.seq (e1.trans e2) hs, by rw [List.length_map]⟩, q _ H2 e2 (.int _)⟩
theorem evd_ixS {K : PySem.W.Frag} {σ : L2.St} {H : Hp} {ta tb : TE} {l : Addr} {ns : List Int} {i : Nat} {n : Int} (ha : EvV ta σ H (.ref l)) (hs : SqL K H l (ns.map V.int)) (hb : EvD tb σ H (.int i)) (h : ns[i]? = some n) : EvD (tOp (rIxL K) ta tb) σ H (.int n) :=
  fun H1 e1 Q q => ha H1 e1 _ fun H2 e2 => hb H2 (e1.trans e2) _ fun y H3 e3 ty => ⟨l, _, i, .int n, rfl, ty.int_inv, Same.seq ((e1.trans e2).trans e3) hs, at_nat (by rw [List.getElem?_map, h]; rfl), q _ H3 (e2.trans e3) (.int _)⟩
theorem small_pow {i : Int} (h0 : 0 ≤ i) (h1 : i < 2 ^ 64) (j : Int) (hj : 0 ≤ j ∧ j ≤ 1000000) : CPow i j := ⟨hj.1, hj.2, by omega⟩
local macro_rules | `(tactic| walk_at "tp") => `(tactic| first | assumption | exact .int _ | exact .bl _ | solve_by_elim (maxDepth := 6) [Tp.ex])
section
variable {P : Program} {w : World} {K : PySem.W.Frag} {mg : Str → Option Value} {base : Heap}
abbrev sp_law_well (K : PySem.W.Frag) : Sp := fun vs H Q _ => ∃ (a : Addr) (ns : List Int), vs = [.ref a] ∧ SqL K H a (ns.map V.int) ∧ ns.length ≤ 63 ∧ ∀ W g H', H W = none → H g = none → Ex H H' → Wl H' W g 0 → Q (.ref W) H'
theorem sc_law_well : FnScope ["_law_script", "_law_great", "_law_mark", "_law_place", "_law_cell"] ["_law_script"] (defScope (top 46)) := ⟨rfl, rfl, rfl, by decide +kernel, rfl, by decide +kernel, by decide +kernel⟩
theorem w_law_well (B : Bt mg) (D : DefIn K mg "_law_well" (top 46))   : Cal P w K mg base CX0 1 "_law_well" ["_law_script"] (sp_law_well K) := by
  obtain ⟨f, fd, F, g⟩ := D.ex
  refine ⟨f, fd, F.ok sc_law_well (fun vs H Q E h => ?_) (fun cdv A outer s H vs Q E hr h => ?_), g, F.kp, F.binds (ps := ["_law_script"]) fun _ _ _ _ _ _ us hl => match us, hl with | [_], _ => rfl⟩
  · obtain ⟨a, ns, rfl, _⟩ := h; rfl
  · obtain ⟨a, ns, rfl, hs, hz, k⟩ := h
    refine ⟨_, (pss_cons (ps_par (i := 1) (j := 2) rfl sc_law_well.nd rfl rfl (by decide) rfl rfl (pa_cons (pe_lst pa_nil) (pa_cons pe_int pa_nil)) (by rfl))
  (pss_cons (ps_for PassesOwn.never rfl (pi_range1 (by rfl) B.range (pa_cons (pe_callB call_lenA (by rfl) B.len PySem.boot_len (pa_cons (pv 0) pa_nil)) pa_nil)) (pg_name (i := 3) sc_law_well.nd rfl (Or.inl rfl))
  (pss_cons (ps_set (i := 4) sc_law_well.nd rfl (Or.inl rfl) (pe_ix ix_list (pv 0) (pv 3) (fun _ _ => rfl)))
  (pss_one (ps_if (pt_cmpR op_ge (pv 4) (pe_op op_pow pe_int pe_int) (nomark _))
  (pss_one (ps_expr (pe_bm PySem.F.plainAttrs_list PySem.F.slot_list_insert PySem.F.type_list_insert mt_insertA (pv 1) (pa_cons pe_int (pa_cons (pe_op op_sub (pv 4) (pe_op op_pow pe_int pe_int)) pa_nil)))))
  (pss_one (ps_set (i := 2) sc_law_well.nd rfl (Or.inl rfl) (pe_op op_add (pe_op op_mod (pe_callTy call_int1 (by rfl) B.int PyProof.Rows.boot_int (pa_cons (pe_op op_pow (pe_op op_add (pv 2) (pe_op op_mulW (pe_op op_add (pv 3) pe_int) (pe_op op_mod (pe_callTy call_int1 (by rfl) B.int PyProof.Rows.boot_int (pa_cons (pv 4) pa_nil)) pe_int))) pe_int) pa_nil)) pe_int) pe_int)))))))
  (pss_one (ps_ret (pe_lst (pa_cons (pv 1) (pa_cons pe_int (pa_cons (pv 2) (pa_cons pe_int pa_nil))))))))), ?_⟩
    refine s_seq (s_parNI (evn_lst eva_nil) evd_int fun p H1 np e1 lp => ?_)
    refine s_seq (s_forR1 (n := (ns.length : Int)) (evd_lenS (evv_var rfl) (Same.seq e1 hs)) (by omega) (fun i σ' H' => ∃ (mark : Int) (b c : Option V) (gs : List Int), σ' = [some (.ref a), some (.ref p), some (.int mark), b, c] ∧ Ex H H' ∧ Ls H' p (intL gs) ∧ (∀ x ∈ gs, 0 ≤ x) ∧ gs.length ≤ i ∧ 0 ≤ mark ∧ mark < 2 ^ 62) (fun H2 e2 => ⟨_, _, _, [], rfl, e1.trans e2, lp.ex e2, fun _ h => absurd h List.not_mem_nil, Nat.le_refl _, by decide, by decide⟩) ?_ ?_)
    · rintro i σ' H' hi ⟨mark, b, c, gs, rfl, e', lp, hg, hgl, m0, m1⟩
      have hi : i < ns.length := by omega
      refine s_seq (s_asgI (evd_ixS (evv_var rfl) (Same.seq e' hs) (evd_var rfl (.int _)) (List.getElem?_eq_getElem hi)) fun H2 e2 => ?_)
      generalize ns[i] = cell
      have lp2 := lp.ex e2
      refine s_if (evt_test (evd_IB (evd_var rfl (.int _)) (evd_IC evd_int evd_int (small_pow (by decide) (by decide) _ (by decide))))) (fun hb H3 e3 => ?_) (fun hb H3 e3 => ?_)
      · have hc : (10 : Int) ^ (18 : Int).toNat ≤ cell := by simpa using hb
        have lp3 := lp2.ex e3
        obtain ⟨xs0, hx0, _⟩ := id lp3
        refine ⟨.ref p, rfl, .inl ⟨rfl, _, SqL.of hx0⟩, ?_⟩
        refine (eva_cons evd_int (eva_cons (evd_II (evd_var rfl (.int _)) (evd_IC evd_int evd_int (small_pow (by decide) (by decide) _ (by decide)))) eva_nil)) H3 (Ex.refl _) _ fun vs H4 e4 tv => ?_
        obtain ⟨v1, v2, rfl, t1, t2⟩ := tv.i2
        cases t1.int_inv; cases t2.int_inv
        have hx4 := (lp3.ex e4).ints
        refine ⟨p, _, 0, _, rfl, rfl, hx4, small_lt (by rw [List.length_map]; omega), by decide, by decide, ?_⟩
        refine ⟨mark, _, _, (cell - 10 ^ (18 : Int).toNat) :: gs, rfl, ((ExB.upd p H4 _).ex (((e'.trans e2).trans e3).trans e4) np), ?_, ?_, ?_, m0, m1⟩
        · refine Ls.of_ints ?_
          rw [upd_same]; rfl
        · intro x hx
          rcases List.mem_cons.mp hx with rfl | hx
          · omega
          · exact hg x hx
        · rw [List.length_cons]; omega
      · refine s_asgI (evd_II (evd_IC (evd_int1 (evd_IC (evd_II (evd_var rfl (.int _)) (evd_IC (evd_II (evd_var rfl (.int _)) evd_int) (evd_IC (evd_int1 (evd_var rfl (.int _))) evd_int (by decide)) ?_)) evd_int ?_)) evd_int (by decide)) evd_int) fun H4 e4 => ⟨_, _, _, gs, rfl, ((e'.trans e2).trans e3).trans e4, (lp2.ex e3).ex e4, hg, by omega, ?_, ?_⟩
        · have h1 := Int.emod_nonneg cell (show (1000000000061 : Int) ≠ 0 by decide)
          have h2 := Int.emod_lt_of_pos cell (show (0 : Int) < 1000000000061 by decide)
          have h3 : ((i : Int) + 3).natAbs < 2 ^ 10 := by omega
          have h4 : (cell % 1000000000061).natAbs < 2 ^ 60 := by omega
          exact wide_mul h3 h4 (by decide) (by decide) (by decide)
        · have h1 := Int.emod_nonneg cell (show (1000000000061 : Int) ≠ 0 by decide)
          have h2 := Int.emod_lt_of_pos cell (show (0 : Int) < 1000000000061 by decide)
          have h3 : ((i : Int) + 3) * (cell % 1000000000061) ≤ 66 * 1000000000061 := Int.mul_le_mul (by omega) (by omega) h1 (by decide)
          have h4 : 0 ≤ ((i : Int) + 3) * (cell % 1000000000061) := Int.mul_nonneg (by omega) h1
          exact small_pow (by omega) (by omega) _ (by decide)
        · have := Int.emod_nonneg ((mark + ((i : Int) + 3) * (cell % 1000000000061)) ^ (3 : Int).toNat) (show (2305843009213693951 : Int) ≠ 0 by decide)
          omega
        · have := Int.emod_lt_of_pos ((mark + ((i : Int) + 3) * (cell % 1000000000061)) ^ (3 : Int).toNat) (show (0 : Int) < 2305843009213693951 by decide)
          omega
    · rintro σ' H' ⟨mark, b, c, gs, rfl, e', lp, hg, hgl, m0, m1⟩
      rw [Int.toNat_natCast] at hgl
      refine ⟨_, rfl, _, rfl, by show 4 ≤ sizeLine; decide, fun q nq => ?_⟩
      have hx := lp.ints
      refine k q p _ (e'.back nq) np (e'.trans (Ex.new nq)) ⟨gs, 0, mark, 0, upd_same, ?_, hg, by decide, m0, m1, by decide, by decide, (ne_of_none hx nq).symm, by omega⟩
      rw [upd_ne (ne_of_none hx nq)]; exact hx
abbrev sp_law_draw : Sp := fun vs H Q _ => ∃ (W g : Addr) (c : Nat) (lim : Int), vs = [.ref W, .int lim] ∧ Wl H W g c ∧ c ≤ 100000 ∧ 0 < lim ∧ lim < 1073741824 ∧ ∀ (r : Nat) H', ExW W g H H' → Wl H' W g (c + 1) → (r : Int) < lim → Q (.int r) H'
theorem sc_law_draw : FnScope ["_law_well_here", "_law_limit", "_law_found", "_law_mixed"] ["_law_well_here", "_law_limit"] (defScope (top 47)) := ⟨rfl, rfl, rfl, by decide +kernel, rfl, by decide +kernel, by decide +kernel⟩
theorem w_law_draw (B : Bt mg) (D : DefIn K mg "_law_draw" (top 47))   : Cal P w K mg base CX0 1 "_law_draw" ["_law_well_here", "_law_limit"] (sp_law_draw) := by
  obtain ⟨f, fd, F, g⟩ := D.ex
  refine ⟨f, fd, F.ok sc_law_draw (fun vs H Q E h => ?_) (fun cdv A outer s H vs Q E hr h => ?_), g, F.kp, F.binds (ps := ["_law_well_here", "_law_limit"]) fun _ _ _ _ _ _ us hl => match us, hl with | [_, _], _ => rfl⟩
  · obtain ⟨W, g, c, lim, rfl, _⟩ := h; rfl
  · obtain ⟨W, gg, c, lim, rfl, wl, hc, l0, l1, k⟩ := h
    have h1e18 : (0 : Int) < 1 := by decide
    refine ⟨_, (pss_cons (ps_if (PW.pt (pw_and (pt_cmpR op_eq (pe_ix ix_list (pv 0) pe_int (fun _ _ => rfl)) pe_int (nomark _)) (pw_and1 (pt_cmpR (op_neD hr.units) (pe_ix ix_list (pv 0) pe_int (fun _ _ => rfl)) (pe_lst pa_nil) (nomark _)))))
  (pss_one (ps_asg (pe_bm0 PySem.F.plainAttrs_list PySem.F.slot_list_pop PySem.F.type_list_pop mt_pop (pe_ix ix_list (pv 0) pe_int (fun _ _ => rfl))) (pg_sub (pv 0) pe_int set_list)))
  pss_nil)
  (pss_cons (ps_if (pt_cmpR op_gt (pe_ix ix_list (pv 0) pe_int (fun _ _ => rfl)) pe_int (nomark _))
  (pss_cons (ps_set (i := 2) sc_law_draw.nd rfl (Or.inl rfl) (pe_op op_mod (pe_callTy call_int1 (by rfl) B.int PyProof.Rows.boot_int (pa_cons (pe_ix ix_list (pv 0) pe_int (fun _ _ => rfl)) pa_nil)) (pv 1)))
  (pss_cons (ps_asg (pe_op op_fdiv (pe_ix ix_list (pv 0) pe_int (fun _ _ => rfl)) (pv 1)) (pg_sub (pv 0) pe_int set_list))
  (pss_one (ps_ret (pv 2)))))
  pss_nil)
  (pss_cons (ps_asg (pe_op op_add (pe_ix ix_list (pv 0) pe_int (fun _ _ => rfl)) pe_int) (pg_sub (pv 0) pe_int set_list))
  (pss_cons (ps_set (i := 3) sc_law_draw.nd rfl (Or.inl rfl) (pe_op op_mod (pe_callTy call_int1 (by rfl) B.int PyProof.Rows.boot_int (pa_cons (pe_op op_pow (pe_op op_add (pe_op op_add (pe_ix ix_list (pv 0) pe_int (fun _ _ => rfl)) (pe_op op_mulW (pe_op op_mulW pe_int (pe_ix ix_list (pv 0) pe_int (fun _ _ => rfl))) (pe_ix ix_list (pv 0) pe_int (fun _ _ => rfl)))) (pe_ix ix_list (pv 0) pe_int (fun _ _ => rfl))) pe_int) pa_nil)) pe_int))
  (pss_one (ps_ret (pe_op op_mod (pe_op op_fdiv (pe_op op_mod (pe_callTy call_int1 (by rfl) B.int PyProof.Rows.boot_int (pa_cons (pe_op op_mulW (pv 3) (pe_op op_add (pv 3) pe_int)) pa_nil)) pe_int) pe_int) (pv 1)))))))), ?_⟩
    -- the open cell
    obtain ⟨gs, cur, mark, cnt, hW, hg, hgs, c0, m0, m1, n0, n1, hne, hlen⟩ := id wl
    have lg : Ls H gg (intL gs) := .of_ints hg
    have cr : ∀ H', H' W = some (.lst [.ref gg, .int cur, .int mark, .int cnt]) → EvV (tOp (rIxL (cxOf CX0 P w K mg base ["_law_well_here", "_law_limit", "_law_found", "_law_mixed"] "_law_draw" (defScope (top 47)) f cdv A outer s H E).nox.K) (tVar 0) (tC (.int 1))) [some (.ref W), some (.int lim), none, none] H' (.int cur) := fun H' h => evv_ixL (evv_var rfl) h evd_int rfl
    refine s_seq (s_ifJ (fun σ' H' => σ' = [some (.ref W), some (.int lim), none, none] ∧ ExW W gg H H' ∧ Wl H' W gg c) (evt_and (b := !decide (intL gs = [])) (evt_test (evd_eqI (EvV.int (evv_ixL (evv_var rfl) hW evd_int rfl)) evd_int)) fun _ => (evt_test (evd_neLV (evv_ixL (evv_var rfl) hW evd_int rfl) lg (sh_ints gs)))) ?_ (fun hb H1 e1 J => ?_) (fun hb H1 e1 J => s_next (J _ _ ⟨rfl, e1.w W gg, wl.ex e1⟩)))
    · rintro σ' H1 ⟨rfl, ew, wl⟩
      obtain ⟨gs, cur, mark, cnt, hW, hg, hgs, c0, m0, m1, n0, n1, hne, hlen⟩ := id wl
      refine s_seq (s_if (evt_test (evd_IB (EvV.int (evv_ixL (evv_var rfl) hW evd_int rfl)) evd_int)) (fun hb H2 e2 => ?_) (fun hb H2 e2 => ?_))
      · have hcur : 0 < cur := by simpa using hb
        have hW2 := e2 _ _ hW
        refine s_seq (s_asgI (evd_IC (evd_int1 (EvV.int (evv_ixL (evv_var rfl) hW2 evd_int rfl))) (evd_var rfl (.int _)) l0) fun H3 e3 => ?_)
        have hW3 := e3 _ _ hW2
        refine s_seq ((evd_IC (EvV.int (evv_ixL (evv_var rfl) hW3 evd_int rfl)) (evd_var rfl (.int _)) ⟨l0, l1⟩) H3 (Ex.refl _) _ fun v H4 e4 tv => ?_)
        cases tv.int_inv
        refine g_subV (j := 1) (evv_var rfl) evd_int (e4 _ _ hW3) rfl fun H5 H6 e5 eq => ?_
        obtain ⟨r, hr⟩ : ∃ r : Nat, cur % lim = (r : Int) := ⟨(cur % lim).toNat, by have := Int.emod_nonneg cur (show lim ≠ 0 by omega); omega⟩
        rw [hr]
        have e15 := ((e2.trans e3).trans e4).trans e5
        have e16 : ExW W gg H1 H6 := (e15.w W gg).trans (by rw [eq]; exact (ExB.upd W H5 _).w1)
        refine s_retV (evv_var rfl) fun H7 e7 => k r H7 ((ew.trans e16).trans (e7.w W gg)) ?_ (by rw [← hr]; exact Int.emod_lt_of_pos _ l0)
        refine Wl.ex ?_ e7
        refine ⟨gs, cur / lim, mark, cnt, by rw [eq]; exact upd_same, by rw [eq, upd_ne hne.symm]; exact e15 _ _ hg, hgs, Int.ediv_nonneg c0 (by omega), m0, m1, n0, by omega, hne, hlen⟩
      · refine s_next ?_
        have hW2 := e2 _ _ hW
        refine s_seq ((evd_II (EvV.int (evv_ixL (evv_var rfl) hW2 evd_int rfl)) evd_int) H2 (Ex.refl _) _ fun v H3 e3 tv => ?_)
        cases tv.int_inv
        refine g_subV (j := 3) (evv_var rfl) evd_int (e3 _ _ hW2) rfl fun H4 H5 e4 eq => ?_
        have e14 := (e2.trans e3).trans e4
        have e15 : ExW W gg H1 H5 := (e14.w W gg).trans (by rw [eq]; exact (ExB.upd W H4 _).w1)
        have hW5 : H5 W = some (.lst [.ref gg, .int cur, .int mark, .int (cnt + 1)]) := by rw [eq]; exact upd_same
        have wl5 : Wl H5 W gg (c + 1) := ⟨gs, cur, mark, cnt + 1, hW5, by rw [eq, upd_ne hne.symm]; exact e14 _ _ hg, hgs, c0, m0, m1, by omega, by omega, hne, hlen⟩
        have hcn : cnt + 1 ≤ 100001 := by omega
        have hcn0 : 0 ≤ cnt + 1 := by omega
        generalize cnt + 1 = q at *
        have hq1 : 0 ≤ 104729 * q := by omega
        have hq3 : (0 : Int) ≤ q * q := Int.mul_nonneg hcn0 hcn0
        have hq2 : q * q ≤ 100001 * 100001 := Int.mul_le_mul hcn hcn hcn0 (by decide)
        have hqq : 104729 * q * q = 104729 * (q * q) := Int.mul_assoc _ _ _
        refine s_seq (s_asgI (evd_IC (evd_int1 (evd_IC (evd_II (evd_II (EvV.int (evv_ixL (evv_var rfl) hW5 evd_int rfl)) (evd_IC (evd_IC evd_int (EvV.int (evv_ixL (evv_var rfl) hW5 evd_int rfl)) (mulW (by decide) (by omega))) (EvV.int (evv_ixL (evv_var rfl) hW5 evd_int rfl)) (mulW (by omega) (by omega)))) (EvV.int (evv_ixL (evv_var rfl) hW5 evd_int rfl))) evd_int (small_pow (by omega) (by omega) _ (by decide)))) evd_int (by decide)) fun H6 e6 => ?_)
        generalize hmx : (mark + 104729 * q * q + q) ^ (2 : Int).toNat % 162259276829213363391578010288127 = mx
        have hmx0 : 0 ≤ mx := by rw [← hmx]; exact Int.emod_nonneg _ (by decide)
        have hmx1 : mx < 162259276829213363391578010288127 := by rw [← hmx]; exact Int.emod_lt_of_pos _ (by decide)
        have hmz : mx.natAbs < 2 ^ 108 := by omega
        have hmz2 : (mx + 59).natAbs < 2 ^ 108 := by omega
        obtain ⟨r, hr⟩ : ∃ r : Nat, (mx * (mx + 59)) % 170141183460469231731687303715884105727 / 10007 % lim = (r : Int) := ⟨_, (Int.toNat_of_nonneg (Int.emod_nonneg _ (show lim ≠ 0 by omega))).symm⟩
        refine s_ret (d := .int r) (EvD.is (evd_IC (evd_IC (evd_IC (evd_int1 (evd_IC (evd_var rfl (.int _)) (evd_II (evd_var rfl (.int _)) evd_int) (wide_mul hmz hmz2 (by decide) (by decide) (by decide)))) evd_int (by decide)) evd_int ⟨by decide, by decide⟩) (evd_var rfl (.int _)) l0) (by rw [← hr])) fun v H7 e7 tv => ?_
        cases tv.int_inv
        exact k r H7 (((ew.trans e15).trans (e6.w W gg)).trans (e7.w W gg)) ((wl5.ex e6).ex e7) (by rw [← hr]; exact Int.emod_lt_of_pos _ l0)
    · -- a great cell is opened
      simp only [Bool.and_eq_true, decide_eq_true_eq, Bool.not_eq_true', decide_eq_false_iff_not] at hb
      obtain ⟨hb1, hb2⟩ := hb
      rcases List.eq_nil_or_concat gs with rfl | ⟨gs', x, rfl⟩
      · exact absurd rfl hb2
      · rw [List.concat_eq_append] at *
        have hW1 := e1 _ _ hW
        have lg1 : Ls H1 gg (intL gs' ++ [.int x]) := by
          have := lg.ex e1
          rw [← intL_app] at this; exact this
        refine v_pop0 (evv_ixL (evv_var rfl) hW1 evd_int rfl) lg1 fun v H2 b2 l2 tv => ?_
        cases tv.int_inv
        have hW2 := b2 _ _ hne hW1
        refine g_subV (j := 1) (evv_var rfl) evd_int hW2 rfl fun H3 H4 e3 eq => ?_
        refine J _ _ ⟨rfl, (((e1.w W gg).trans b2.w2).trans (e3.w W gg)).trans (by rw [eq]; exact (ExB.upd W H3 _).w1), gs', x, mark, cnt, by rw [eq]; exact upd_same, ?_, fun y hy => hgs y (List.mem_append_left _ hy), hgs x (by simp), m0, m1, n0, n1, hne, by simp at hlen; omega⟩
        rw [eq, upd_ne hne.symm]
        exact e3 _ _ l2.ints
end
end Hk


namespace Hk
open PySem PySem.Spec PyProof.Rows L2
theorem ExW.own {W g p : Addr} {H H1 H2 : Hp} (e : ExW W g H H1) (b : ExB p H1 H2) (n : H p = none) : ExW W g H H2 := fun a o ha hb h => b a o (ne_of_none h n) (e a o ha hb h)
theorem ExW.back {W g p : Addr} {H H1 : Hp} (e : ExW W g H H1) (n : H1 p = none) (h : p ≠ W ∧ p ≠ g) : H p = none := by
  cases q : H p with
  | none => rfl
  | some o => rw [e p o h.1 h.2 q] at n; cases n
section
variable {K : PySem.W.Frag} {σ : L2.St} {H H' : Hp} {ta tb tc te : TE} {tr : TA} {r : R2} {v : V} {D : Ends} {g : TG} {Q : VK}
theorem x_asg (h : te σ H fun v H1 => g v σ H1 D.nx) : tAsg te g D σ H := h
theorem x_name {i : Nat} {R : L2.St → Hp → Prop} (h : R (σ.set i (some v)) H) : gName i v σ H R := h
theorem x_op (h : ta σ H fun x H1 => tb σ H1 fun y H2 => r x y H2 Q) : tOp r ta tb σ H Q := h
theorem x_cons {R : List V → Hp → Prop} (h : ta σ H fun x H1 => tr σ H1 fun xs H2 => R (x :: xs) H2) : tCons ta tr σ H R := h
theorem x_nil {R : List V → Hp → Prop} (h : R [] H) : tNil σ H R := h
theorem x_lst (h : tr σ H fun xs H1 => xs.length ≤ sizeLine ∧ ∀ p, H1 p = none → Q (.ref p) (upd H1 p (.lst xs))) : tLst tr σ H Q := h
theorem x_tup (h : tr σ H fun xs H1 => xs.length ≤ sizeLine ∧ ∀ p, H1 p = none → Q (.ref p) (upd H1 p (.tup xs))) : tTup tr σ H Q := h
theorem x_var {i : Nat} (hv : σ[i]? = some (some v)) (h : Q v H) : tVar i σ H Q := ⟨v, hv, h⟩
theorem x_c (h : Q v H) : tC v σ H Q := h
theorem x_ret (h : te σ H D.rt) : tRet te D σ H := h
theorem x_drop (h : te σ H fun _ H1 => D.nx σ H1) : tDrop te D σ H := h
theorem x_II {f : Int → Int → Int} {i j : Int} (h : Q (.int (f i j)) H) : rI0 (fun i j => .int (f i j)) (.int i) (.int j) H Q := ⟨i, j, rfl, rfl, h⟩
theorem x_IC {C : Int → Int → Prop} {f : Int → Int → Int} {i j : Int} (hc : C i j) (h : Q (.int (f i j)) H) : rI C (fun i j => .int (f i j)) (.int i) (.int j) H Q := ⟨i, j, rfl, rfl, hc, h⟩
theorem x_ixL {l : Addr} {xs : List V} {i : Int} (hx : H l = some (.lst xs)) (hi : atI xs i = some v) (h : Q v H) : rIxL K (.ref l) (.int i) H Q := ⟨l, xs, i, v, rfl, rfl, SqL.of hx, hi, h⟩
theorem x_ev {d : PyData} (h : EvD te σ H d) (k : ∀ v H1, Ex H H1 → Tp H1 v d → Q v H1) : te σ H Q := h H (Ex.refl _) _ k
theorem x_evI {i : Int} (h : EvD te σ H (.int i)) (k : ∀ H1, Ex H H1 → Q (.int i) H1) : te σ H Q := h H (Ex.refl _) _ fun v H1 e t => by rw [t.int_inv]; exact k H1 e
theorem x_call {sp : Sp} {E : XK} (h : tr σ H fun vs H1 => sp (vs ++ []) H1 Q E) : tCall sp [] E tr σ H Q := h
/-- a draw -/
theorem d_draw {i : Nat} {W g : Addr} {c : Nat} {lim : Int} (hv : σ[i]? = some (some (.ref W))) (hw : Wl H W g c) (hc : c ≤ 100000) (hl : EvD te σ H (.int lim)) (h0 : 0 < lim) (h1 : lim < 1073741824)
    (k : ∀ (r : Nat) H', ExW W g H H' → Wl H' W g (c + 1) → (r : Int) < lim → Q (.int r) H') : tCall sp_law_draw [] E0 (tCons (tVar i) (tCons te tNil)) σ H Q :=
  ⟨_, hv, hl H (Ex.refl _) _ fun v H1 e1 tv => by
    rw [tv.int_inv]
    exact ⟨W, g, c, lim, rfl, hw.ex e1, hc, h0, h1, fun r H' e' w' l' => k r H' ((e1.w W g).trans e') w' l'⟩⟩
/-- a loop over a range whose bound is reckoned with effects -/
theorem x_forR1 {j : Nat} {tu : TS} (h : te σ H fun v H1 => tFor (iRng1 (tCons (tC v) tNil)) (gName j) tu D σ H1) : tFor (iRng1 (tCons te tNil)) (gName j) tu D σ H := h
theorem x_lcR1 {tt : TT} {tb : TE} {vs : List Nat} (h : te σ H fun v H1 => tLc (iRng1 (tCons (tC v) tNil)) g tt tb vs σ H1 Q) : tLc (iRng1 (tCons te tNil)) g tt tb vs σ H Q := h
/-- a comprehension over a range, its items reckoned with effects -/
theorem x_lcR {j : Nat} {vs : List Nat} {n : Nat} (hn : n ≤ 100000) (Pv : Addr → Nat → Hp → Prop) (h0 : ∀ p, H p = none → Pv p 0 (upd H p (.lst []))) (hw' : ∀ i : Int, wipe ((wipe σ vs).set j (some (.int i))) vs = wipe σ vs)
    (hs : ∀ p (i : Nat) H', H p = none → i < n → Pv p i H' → te ((wipe σ vs).set j (some (.int (i : Int)))) H' fun y H4 => ∃ acc, H4 p = some (.lst acc) ∧ acc.length < sizeLine ∧ Pv p (i + 1) (upd H4 p (.lst (acc ++ [y]))))
    (hd : ∀ p H', H p = none → Pv p n H' → Q (.ref p) H') : tLc (iRng1 (tCons (tC (.int (n : Int))) tNil)) (gName j) tYes te vs σ H Q := by
  refine ⟨n, rfl, by omega, by omega, fun p hp => ?_⟩
  rw [show (Int.toNat (n : Int)) = n from rfl]
  refine lc_range (lo := 0) (n := n) (Pv p) (h0 p hp) (fun i H3 hi pv => ?_) (fun H3 pv => hd p H3 hp pv)
  rw [show (0 : Int) + (i : Int) = (i : Int) by omega]
  refine ⟨hw' _, ?_⟩
  have z : ∀ R : Bool → Hp → Prop, R true H3 → tYes ((wipe σ vs).set j (some (V.int (i : Int)))) H3 R := fun R q => q
  refine z _ ?_
  rw [if_pos rfl]
  exact hs p i H3 hp hi pv
theorem x_sub {to ti : TE} {ts : TSet} {R : L2.St → Hp → Prop} (h : to σ H fun o H1 => ti σ H1 fun i H2 => ts o i v H2 fun H3 => R σ H3) : gSub to ti ts v σ H R := h
theorem x_setL {l : Addr} {ds : List PyData} {d : PyData} {i : Int} {j : Nat} {R : Hp → Prop} (hl : Ls H l ds) (hj : ixN ds.length i = some j) (tv : Tp H v d) (k : ∀ H2, ExB l H H2 → Ls H2 l (ds.set j d) → R H2) : rSetL (.ref l) (.int i) v H R := by
  obtain ⟨xs, hx, r⟩ := hl
  exact ⟨l, xs, i, j, rfl, rfl, hx, by rw [r.length]; exact hj, k _ (ExB.upd l H _) ⟨_, upd_same, (r.set j tv).mono (TK.updL hx)⟩⟩
theorem ix_last {α : Type} {xs : List α} (h : 0 < xs.length) : ixN xs.length (-1) = some (xs.length - 1) := by
  unfold ixN
  rw [if_neg (by omega), if_pos (by omega)]
  congr 1; omega
theorem x_if {t : TT} {tu tw : TS} (h : t σ H fun b H1 => if b = true then tu D σ H1 else tw D σ H1) : tIfS t tu tw D σ H := h
theorem x_or {t u : TT} {R : Bool → Hp → Prop} (h : t σ H fun b H1 => if b = true then R true H1 else u σ H1 R) : tOr t u σ H R := h
theorem x_and {t u : TT} {R : Bool → Hp → Prop} (h : t σ H fun b H1 => if b = true then u σ H1 R else R false H1) : tAnd t u σ H R := h
theorem x_evT {t : TT} {b : Bool} {R : Bool → Hp → Prop} (h : EvT t σ H b) (k : ∀ H1, Ex H H1 → R b H1) : t σ H R := h H (Ex.refl _) _ k
theorem x_test {R : Bool → Hp → Prop} (h : te σ H fun v H1 => ∃ b, v = .bl b ∧ R b H1) : tTest te σ H R := h
theorem x_eqI {i j : Int} (h : Q (.bl (decide (i = j))) H) : rEq (.int i) (.int j) H Q := by
  refine ⟨rfl, ?_⟩
  have e : decide (V.int i = V.int j) = decide (i = j) := by rw [dec_int]; exact (Bool.beq_eq_decide_eq i j)
  rw [e]; exact h
theorem x_neI {i j : Int} (h : Q (.bl (!decide (i = j))) H) : rNe (.int i) (.int j) H Q := by
  refine ⟨rfl, ?_⟩
  have e : decide (V.int i = V.int j) = decide (i = j) := by rw [dec_int]; exact (Bool.beq_eq_decide_eq i j)
  rw [e]; exact h
/-- a test of any effects, both ways behind it -/
theorem s_ifP {t : TT} {tu tw : TS} (R' : Bool → Hp → Prop) (h : ∀ R : Bool → Hp → Prop, (∀ b H1, R' b H1 → R b H1) → t σ H R) (h1 : ∀ H1, R' true H1 → tu D σ H1) (h2 : ∀ H1, R' false H1 → tw D σ H1) : tIfS t tu tw D σ H :=
  h _ fun b H1 r => by
    cases b with
    | true => exact iteT (h1 H1 r)
    | false => exact iteF (h2 H1 r)
theorem x_nput {P : Program} {w : World} {td ty tv : TE} (h : tv σ H fun v H1 => td σ H1 fun x H2 => ty σ H2 fun y H3 => ∃ a n T M p, x = .ref a ∧ Tb P w H3 a n T ∧ Tp H3 y (dMat n M) ∧ Tp H3 v (dP p) ∧ T.length < 100000 ∧
  ∀ H4, ExB a H3 H4 → Tb P w H4 a n (tput T M p) → D.nx σ H4) : sNPut P w td ty tv D σ H := h
theorem x_then {kk : V → Hp → VK → Prop} (h : te σ H fun x H1 => kk x H1 Q) : tThen te kk σ H Q := h
theorem x_tupL {l : Addr} {ds : List PyData} (hl : Ls H l ds) (k : ∀ v H1, Ex H H1 → Tp H1 v (.tuple ds) → Q v H1) : kTup K (.ref l) H Q := by
  obtain ⟨xs, hx, r⟩ := hl
  exact .inl ⟨l, xs, rfl, SqL.of hx, fun w hw => k _ _ (Ex.new hw) (.tup (.inl upd_same) (r.ex (Ex.new hw)))⟩
end
end Hk


namespace Hk
open PySem PySem.Spec PyProof.Rows L2
theorem intL_lst {H : Hp} {l : Addr} {xs : List Int} (h : Ls H l (intL xs)) : H l = some (.lst (xs.map V.int)) := h.ints
theorem at3 {a b c : V} {i : Int} (h : i = 0 ∨ i = 1 ∨ i = 2) : ∃ v, atI [a, b, c] i = some v ∧ (v = a ∨ v = b ∨ v = c) := by
  rcases h with rfl | rfl | rfl
  · exact ⟨a, rfl, .inl rfl⟩
  · exact ⟨b, rfl, .inr (.inl rfl)⟩
  · exact ⟨c, rfl, .inr (.inr rfl)⟩
theorem at4 {a b c d : V} {i : Nat} (h : i < 4) : ∃ v, atI [a, b, c, d] (i : Int) = some v ∧ (v = a ∨ v = b ∨ v = c ∨ v = d) := by
  match i, h with
  | 0, _ => exact ⟨a, rfl, .inl rfl⟩
  | 1, _ => exact ⟨b, rfl, .inr (.inl rfl)⟩
  | 2, _ => exact ⟨c, rfl, .inr (.inr (.inl rfl))⟩
  | 3, _ => exact ⟨d, rfl, .inr (.inr (.inr rfl))⟩
local macro_rules | `(tactic| walk_at "tp") => `(tactic| first | assumption | exact .int _ | exact .bl _ | solve_by_elim (maxDepth := 6) [Tp.ex])
section
variable {P : Program} {w : World} {K : PySem.W.Frag} {mg : Str → Option Value} {base : Heap}
abbrev sp_law_row : Sp := fun vs H Q _ => ∃ (W g : Addr) (c most : Nat), vs = [.ref W, .int most, .int 99] ∧ Wl H W g c ∧ c ≤ 90000 ∧ 1 ≤ most ∧ most ≤ 4 ∧ ∀ p v H', ExW W g H H' → Wl H' W g (c + 20) → okP p → p.length ≤ most → (∀ x ∈ p, x.natAbs < 100) → Tp H' v (dP p) → Q v H'
theorem sc_law_row : FnScope ["_law_well_here", "_law_most", "_law_great", "_law_size", "_law_limit", "_law_row_here", "_law_k"] ["_law_well_here", "_law_most", "_law_great"] (defScope (top 49)) := ⟨rfl, rfl, rfl, by decide +kernel, rfl, by decide +kernel, by decide +kernel⟩
theorem w_law_row (B : Bt mg) (D : DefIn K mg "_law_row" (top 49)) (C_law_draw : Cal P w K mg base CX0 1 "_law_draw" ["_law_well_here", "_law_limit"] (sp_law_draw))  : Cal P w K mg base CX0 2 "_law_row" ["_law_well_here", "_law_most", "_law_great"] (sp_law_row) := by
  obtain ⟨f, fd, F, g⟩ := D.ex
  refine ⟨f, fd, F.ok sc_law_row (fun vs H Q E h => ?_) (fun cdv A outer s H vs Q E hr h => ?_), g, F.kp, F.binds (ps := ["_law_well_here", "_law_most", "_law_great"]) fun _ _ _ _ _ _ us hl => match us, hl with | [_, _, _], _ => rfl⟩
  · obtain ⟨W, g, c, most, rfl, _⟩ := h; rfl
  · obtain ⟨W, gg, c, most, rfl, wl, hc, hm1, hm4, k⟩ := h
    refine ⟨_, (pss_cons (ps_set (i := 3) sc_law_row.nd rfl (Or.inl rfl) (pe_ix ix_list (pe_lst (pa_cons (pe_callC C_law_draw (hr.mono (by decide)) pass0 (pa_cons (pv 0) (pa_cons pe_int pa_nil))) (pa_cons (pe_callC C_law_draw (hr.mono (by decide)) pass0 (pa_cons (pv 0) (pa_cons (pe_op op_add (pv 1) pe_int) pa_nil))) (pa_cons (pv 1) pa_nil)))) (pe_op op_fdiv (pe_callC C_law_draw (hr.mono (by decide)) pass0 (pa_cons (pv 0) (pa_cons pe_int pa_nil))) pe_int) (fun _ _ => rfl)))
  (pss_cons (ps_asg (pe_tup (pa_cons (pe_callB (call_min2 rfl) (by rfl) B.min (by decide +kernel) (pa_cons (pv 3) (pa_cons (pv 1) pa_nil))) (pa_cons (pe_ix ix_list (pe_lst (pa_cons pe_int (pa_cons pe_int (pa_cons (pe_callB (call_min2 rfl) (by rfl) B.min (by decide +kernel) (pa_cons (pv 2) (pa_cons (pe_op op_pow pe_int pe_int) pa_nil))) (pa_cons (pv 2) pa_nil))))) (pe_callC C_law_draw (hr.mono (by decide)) pass0 (pa_cons (pv 0) (pa_cons pe_int pa_nil))) (fun _ _ => rfl)) pa_nil))) (pg_tup rfl (pgs_cons (pg_name (i := 3) sc_law_row.nd rfl (Or.inl rfl)) (pgs_cons (pg_name (i := 4) sc_law_row.nd rfl (Or.inr rfl)) pgs_nil))))
  (pss_cons (ps_setLc (i := 5) (own := [("_law_k", 6)]) (g := (gName 6)) rfl sc_law_row.nd rfl rfl (sw_true rfl rfl rfl (by decide +kernel)) (pi_range1 (by rfl) B.range (pa_cons (pv 3) pa_nil)) (blkOk_by (N := ["_law_well_here", "_law_most", "_law_great", "_law_size", "_law_limit", "_law_row_here", "_law_k"]) (sc := defScope (top 49)) (by decide +kernel)) (fun _ _ _ _ _ => (pg_name (i := 6) sc_law_row.nd rfl (Or.inl rfl))) (fun _ _ _ _ _ => pts_nil) (fun _ _ _ _ _ => (pe_op op_add (pe_op op_sub (pe_callC C_law_draw (hr.mono (by decide)) pass0 (pa_cons (pv 0) (pa_cons (pe_op op_sub (pe_op op_mulW pe_int (pv 4)) pe_int) pa_nil))) (pv 4)) pe_int)))
  (pss_cons (ps_for PassesOwn.never rfl (pi_range1 (by rfl) B.range (pa_cons (pe_op op_mulW (pe_callC C_law_draw (hr.mono (by decide)) pass0 (pa_cons (pv 0) (pa_cons pe_int pa_nil))) (pe_callTy call_int1 (by rfl) B.int PyProof.Rows.boot_int (pa_cons (pe_cmpR op_gt (pv 3) pe_int (nomark _)) pa_nil))) pa_nil)) (pg_name (i := 6) sc_law_row.nd rfl (Or.inl rfl))
  (pss_one (ps_asg pe_int (pg_sub (pv 5) (pe_callC C_law_draw (hr.mono (by decide)) pass0 (pa_cons (pv 0) (pa_cons (pe_op op_sub (pv 3) pe_int) pa_nil))) set_list))))
  (pss_cons (ps_if (PW.pt (pw_and (pt_cmpR op_gt (pv 3) pe_int (nomark _)) (pw_and1 (pt_cmpR op_eq (pe_ix ix_list (pv 5) (pe_un un_neg pe_int) (fun _ _ => rfl)) pe_int (nomark _)))))
  (pss_one (ps_asg (pe_ix ix_list (pe_lst (pa_cons pe_int (pa_cons (pe_un un_neg pe_int) (pa_cons (pe_op op_sub (pv 4) pe_int) (pa_cons (pe_op op_sub pe_int (pv 4)) pa_nil))))) (pe_callC C_law_draw (hr.mono (by decide)) pass0 (pa_cons (pv 0) (pa_cons pe_int pa_nil))) (fun _ _ => rfl)) (pg_sub (pv 5) (pe_un un_neg pe_int) set_list)))
  pss_nil)
  (pss_one (ps_ret (pe_tupleOf (by rfl) B.tuple (pv 5))))))))), ?_⟩
    -- the size
    refine s_seq (x_asg (x_op (x_lst (x_cons (d_draw rfl wl (by omega) evd_int (by decide) (by decide) fun r1 H1 e1 wl1 l1 => x_cons (d_draw rfl wl1 (by omega) (evd_II (evd_var rfl (.int _)) evd_int) (by omega) (by omega) fun r2 H2 e2 wl2 l2 => x_cons (x_var rfl (x_nil ⟨by show 3 ≤ sizeLine; decide, fun p np => ?_⟩))))))))
    have e02 := e1.trans e2
    have np2 := wl2.ne np
    generalize hH3 : upd H2 p (.lst [V.int r1, V.int r2, V.int most]) = H3
    have e23 : Ex H2 H3 := by rw [← hH3]; exact Ex.new np
    have hp3 : H3 p = some (.lst [V.int r1, V.int r2, V.int most]) := by rw [← hH3]; exact upd_same
    refine x_op (d_draw rfl (wl2.ex e23) (by omega) evd_int (by decide) (by decide) fun r3 H4 e4 wl4 l4 => x_c (x_IC ⟨by decide, by decide⟩ ?_))
    obtain ⟨v, hv, hv'⟩ := at3 (a := V.int r1) (b := V.int r2) (c := V.int most) (i := (r3 : Int) / 3) (by omega)
    obtain ⟨s0, rfl, hs0, hs1⟩ : ∃ s0 : Int, v = .int s0 ∧ 0 ≤ s0 ∧ s0 ≤ 4 := by
      rcases hv' with rfl | rfl | rfl
      · exact ⟨_, rfl, by omega, by omega⟩
      · exact ⟨_, rfl, by omega, by omega⟩
      · exact ⟨_, rfl, by omega, by omega⟩
    refine x_ixL (e4 p _ np2.1 np2.2 hp3) hv ?_
    have e04 : ExW W gg H H4 := (e02.trans (e23.w W gg)).trans e4
    -- min(size, most), the limit
    refine s_seq (x_asg (x_tup (x_cons (x_evI (evd_min2 (evd_var rfl (.int _)) (evd_var rfl (.int _))) fun H5 e5 => x_cons (x_op (x_lst (x_cons (x_c (x_cons (x_c (x_cons (x_evI (evd_min2 (evd_var rfl (.int _)) (evd_IC evd_int evd_int (small_pow (by decide) (by decide) _ (by decide)))) fun H6 e6 => x_cons (x_var rfl (x_nil ⟨by show 4 ≤ sizeLine; decide, fun q nq => ?_⟩))))))))))))))
    have wl6 := (wl4.ex e5).ex e6
    have nq6 := wl6.ne nq
    generalize hL : [V.int 2, V.int 10, V.int (if (10 : Int) ^ (9 : Int).toNat < 99 then (10 : Int) ^ (9 : Int).toNat else 99), V.int 99] = L4
    generalize hH7 : upd H6 q (.lst L4) = H7
    have e67 : Ex H6 H7 := by rw [← hH7]; exact Ex.new nq
    have hq7 : H7 q = some (.lst L4) := by rw [← hH7]; exact upd_same
    refine d_draw rfl (wl6.ex e67) (by omega) evd_int (by decide) (by decide) fun r4 H8 e8 wl8 l8 => ?_
    obtain ⟨lim, hat, hlim2, hlim99⟩ : ∃ lim : Int, atI L4 (r4 : Int) = some (.int lim) ∧ 2 ≤ lim ∧ lim ≤ 99 := by
      obtain ⟨v, hv, hv'⟩ := at4 (a := V.int 2) (b := V.int 10) (c := V.int (if (10 : Int) ^ (9 : Int).toNat < 99 then (10 : Int) ^ (9 : Int).toNat else 99)) (d := V.int 99) (i := r4) (by omega)
      rw [hL] at hv
      rcases hv' with rfl | rfl | rfl | rfl
      · exact ⟨_, hv, by decide, by decide⟩
      · exact ⟨_, hv, by decide, by decide⟩
      · exact ⟨_, hv, by decide, by decide⟩
      · exact ⟨_, hv, by decide, by decide⟩
    refine x_ixL (e8 q _ nq6.1 nq6.2 hq7) hat (x_nil ⟨by show 2 ≤ sizeLine; decide, fun t nt => ?_⟩)
    have e08 : ExW W gg H H8 := (((e04.trans (e5.w W gg)).trans (e6.w W gg)).trans (e67.w W gg)).trans e8
    obtain ⟨sz, hsz, hszm⟩ : ∃ sz : Nat, (if (most : Int) < s0 then (most : Int) else s0) = (sz : Int) ∧ sz ≤ most := by
      split
      · exact ⟨most, rfl, Nat.le_refl _⟩
      · exact ⟨s0.toNat, by omega, by omega⟩
    rw [hsz]
    have e89 : Ex H8 (upd H8 t (.tup [V.int sz, V.int lim])) := Ex.new nt
    refine g_two (.tup (.inl upd_same) (.cons (.int _) (.cons (.int _) .nil))) fun x y tx ty => ?_
    cases tx.int_inv; cases ty.int_inv
    refine x_name ⟨_, _, rfl, x_name ⟨rfl, ?_⟩⟩
    generalize hH9 : upd H8 t (.tup [V.int sz, V.int lim]) = H9 at e89
    have wl9 := wl8.ex e89
    have e09 : ExW W gg H H9 := e08.trans (e89.w W gg)
    -- the row
    refine s_seq (x_asg (x_lcR1 (x_var rfl (x_lcR (n := sz) (by omega) (fun p i H' => p ≠ W ∧ p ≠ gg ∧ ExW W gg H H' ∧ Wl H' W gg (c + 4 + i) ∧ ∃ xs : List Int, Ls H' p (intL xs) ∧ xs.length = i ∧ ∀ x ∈ xs, x.natAbs < 99) ?_ (fun _ => rfl) ?_ ?_))))
    · intro p np
      have n := wl9.ne np
      exact ⟨n.1, n.2, e09.trans ((Ex.new np).w W gg), wl9.ex (Ex.new np), [], ⟨[], upd_same, .nil⟩, rfl, fun _ h => absurd h List.not_mem_nil⟩
    · rintro p i H' np hi ⟨n1, n2, ew, wl, xs, lx, hxl, hx⟩
      refine x_op (x_op (d_draw rfl wl (by omega) (evd_II (evd_IC evd_int (evd_var rfl (.int _)) (mulW (by decide) (by omega))) evd_int) (by omega) (by omega) fun r H5 e5 wl5 l5 => x_var rfl (x_II (x_c (x_II ?_)))))
      have lx5 := lx.keepW wl e5 ⟨n1, n2⟩
      have hx5 := lx5.ints
      refine ⟨_, hx5, small_lt (by rw [List.length_map]; omega), n1, n2, ?_, ?_, xs ++ [(r : Int) - lim + 1], ?_, by simp [hxl], ?_⟩
      · exact (ew.trans e5).own (ExB.upd p H5 _) (e09.back np ⟨n1, n2⟩)
      · exact wl5.keepB (ExB.upd p H5 _) ⟨n1, n2⟩
      · refine Ls.of_ints ?_
        rw [upd_same, List.map_append]; rfl
      · intro x hx'
        rcases List.mem_append.mp hx' with h | h
        · exact hx x h
        · simp at h; subst h; omega
    · rintro p H' np ⟨n1, n2, ew, wl, xs, lx, hxl, hx⟩
      have np0 : H p = none := e09.back np ⟨n1, n2⟩
      refine x_name ?_
      refine s_seq (x_forR1 (x_op (d_draw rfl wl (by omega) evd_int (by decide) (by decide) fun r H5 e5 wl5 l5 => x_evI (evd_intB (evd_IB (evd_var rfl (.int _)) evd_int)) fun H6 e6 => x_IC (mulW (by omega) (by split <;> decide)) ?_)))
      have hb : ∀ z : Bool, (r : Int) * (if z = true then 1 else 0) ≤ 2 ∧ 0 ≤ (r : Int) * (if z = true then 1 else 0) := fun z => by cases z <;> simp <;> omega
      refine s_forR1 evd_int (by have := hb (decide ((1 : Int) < sz)); omega) (fun j σ' H' => ∃ a, σ' = [some (.ref W), some (.int most), some (.int 99), some (.int sz), some (.int lim), some (.ref p), a] ∧ ExW W gg H H' ∧ Wl H' W gg (c + 5 + sz + j) ∧ ∃ xs : List Int, Ls H' p (intL xs) ∧ xs.length = sz ∧ ∀ x ∈ xs, x.natAbs < 99) ?_ ?_ ?_
      · exact fun H7 e7 => ⟨_, rfl, ((ew.trans e5).trans (e6.w W gg)).trans (e7.w W gg), (((wl5.le (by omega)).ex e6).ex e7), xs, (((lx.keepW wl e5 ⟨n1, n2⟩).ex e6).ex e7), hxl, hx⟩
      · rintro j σ' H7 hj ⟨a, rfl, ew7, wl7, xs, lx7, hxl, hx⟩
        have hbz := hb (decide ((1 : Int) < sz))
        have hj2 : j ≤ 1 := by omega
        have hsz1 : 1 < sz := by
          by_cases h : (1 : Int) < sz
          · omega
          · rw [decide_eq_false h] at hj; simp at hj; omega
        refine x_asg (x_c (x_sub (x_var rfl (d_draw rfl wl7 (by omega) (evd_II (evd_var rfl (.int _)) evd_int) (by omega) (by omega) fun r7 H8 e8 wl8 l8 => ?_))))
        refine x_setL (j := r7) (lx7.keepW wl7 e8 ⟨n1, n2⟩) (ixN_nat (by rw [intL_len, hxl]; omega)) (.int 0) fun H9' b9 l9 => ?_
        rw [intL_set] at l9
        refine ⟨_, rfl, (ew7.trans e8).own b9 np0, wl8.keepB b9 ⟨n1, n2⟩, _, l9, by rw [List.length_set]; exact hxl, fun x hx' => ?_⟩
        rcases List.mem_or_eq_of_mem_set hx' with h | h
        · exact hx x h
        · subst h; decide
      · rintro σ' H7 ⟨a, rfl, ew7, wl7, xs, lx7, hxl, hx⟩
        have hbz := hb (decide ((1 : Int) < sz))
        have wl7 : Wl H7 W gg (c + 7 + sz) := wl7.le (by omega)
        have fin : ∀ (H8 : Hp) (ys : List Int), ExW W gg H H8 → Wl H8 W gg (c + 20) → Ls H8 p (intL ys) → ys.length = sz → (∀ x ∈ ys, x.natAbs < 100) → okP ys → tRet (tThen (tVar 5) (kTup (cxOf CX0 P w K mg base ["_law_well_here", "_law_most", "_law_great", "_law_size", "_law_limit", "_law_row_here", "_law_k"] "_law_row" (defScope (top 49)) f cdv A outer s H E).nox.K)) { nx := fun _ H' => Q .non H', rt := Q } [some (.ref W), some (.int most), some (.int 99), some (.int sz), some (.int lim), some (.ref p), a] H8 := fun H8 ys e8 w8 l8 h8 b8 o8 => by
          refine s_ret (evd_tupL (evv_var rfl) l8) fun v H9 e9 t9 => k ys v H9 (e8.trans (e9.w W gg)) (w8.ex e9) o8 (by omega) b8 t9
        rcases Nat.eq_zero_or_pos sz with h0 | h0
        · have hx0 : xs = [] := List.length_eq_zero_iff.mp (by omega)
          subst hx0
          refine s_seq (s_if (b := false) (evt_and (a := false) (b := true) (EvT.is (evt_test (evd_IB (evd_var rfl (.int _)) evd_int)) (by simp; omega)) fun h => by cases h) (fun h => by cases h) fun _ H8 e8 => s_next ?_)
          exact fin H8 [] (ew7.trans (e8.w W gg)) ((wl7.ex e8).le (by omega)) (lx7.ex e8) (by simpa using hxl) (fun _ h => absurd h List.not_mem_nil) okP_nil
        · obtain ⟨ys, z, rfl⟩ : ∃ ys z, xs = ys ++ [z] := by
            rcases List.eq_nil_or_concat xs with rfl | ⟨m, x, rfl⟩
            · simp at hxl; omega
            · exact ⟨m, x, by rw [List.concat_eq_append]⟩
          have lx7' : Ls H7 p (intL ys ++ [.int z]) := by rw [← intL_app] at lx7; exact lx7
          refine s_seq (s_if (evt_and (evt_test (evd_IB (evd_var rfl (.int _)) evd_int)) fun _ => (evt_test (evd_eqI (evd_ixL (evv_var rfl) lx7' (evd_neg evd_int) at_last) evd_int))) (fun hb H8 e8 => ?_) fun hb H8 e8 => s_next ?_)
          · refine x_asg (x_op (x_lst (x_cons (x_c (x_cons (x_evI (evd_neg evd_int) fun H9 e9 => x_cons (x_evI (evd_II (evd_var rfl (.int _)) evd_int) fun H10 e10 => x_cons (x_evI (evd_II evd_int (evd_var rfl (.int _))) fun H11 e11 => x_nil ⟨by show 4 ≤ sizeLine; decide, fun q nq => ?_⟩))))))))
            have e8b := ((e8.trans e9).trans e10).trans e11
            have wl11 := wl7.ex e8b
            have nq11 := wl11.ne nq
            have e12 : Ex H11 (upd H11 q (.lst [V.int 1, V.int (-1), V.int (lim - 1), V.int (1 - lim)])) := Ex.new nq
            refine d_draw rfl (wl11.ex e12) (by omega) evd_int (by decide) (by decide) fun r8 H13 e13 wl13 l13 => ?_
            obtain ⟨v, hv, hv'⟩ := at4 (a := V.int 1) (b := V.int (-1)) (c := V.int (lim - 1)) (d := V.int (1 - lim)) (i := r8) (by omega)
            obtain ⟨z', rfl, hz0, hz1⟩ : ∃ z' : Int, v = .int z' ∧ z' ≠ 0 ∧ z'.natAbs < 100 := by
              rcases hv' with rfl | rfl | rfl | rfl
              · exact ⟨_, rfl, by omega, by omega⟩
              · exact ⟨_, rfl, by omega, by omega⟩
              · exact ⟨_, rfl, by omega, by omega⟩
              · exact ⟨_, rfl, by omega, by omega⟩
            refine x_ixL (e13 q _ nq11.1 nq11.2 upd_same) hv (x_sub (x_var rfl (x_evI (evd_neg evd_int) fun H14 e14 => ?_)))
            have lx14 : Ls H14 p (intL (ys ++ [z])) := ((((lx7.ex e8b).ex e12).keepW (wl11.ex e12) e13 ⟨n1, n2⟩).ex e14)
            refine x_setL (j := ys.length) lx14 (by rw [intL_len]; have := ix_last (xs := ys ++ [z]) (by simp); simp at this ⊢; exact this) (.int z') fun H15 b15 l15 => ?_
            rw [intL_set] at l15
            have es : (ys ++ [z]).set ys.length z' = ys ++ [z'] := by rw [List.set_append_right _ _ (Nat.le_refl _), Nat.sub_self]; rfl
            rw [es] at l15
            have e7f : ExW W gg H7 H14 := (((e8b.trans e12).w W gg).trans e13).trans (e14.w W gg)
            refine fin H15 (ys ++ [z']) ((ew7.trans e7f).own b15 np0) (((wl13.ex e14).keepB b15 ⟨n1, n2⟩).le (by omega)) l15 (by simp at hxl ⊢; exact hxl) (fun x hx' => ?_) (okP_app hz0)
            rcases List.mem_append.mp hx' with h | h
            · exact Nat.lt_succ_of_lt (hx x (List.mem_append_left _ h))
            · simp at h; subst h; exact hz1
          · have hz : z ≠ 0 := by
              intro e; subst e
              simp at hb; omega
            exact fin H8 (ys ++ [z]) (ew7.trans (e8.w W gg)) ((wl7.ex e8).le (by omega)) (lx7.ex e8) hxl (fun x hx' => Nat.lt_succ_of_lt (hx x hx')) (okP_app hz)
end
end Hk


namespace Hk
open PySem PySem.Spec PyProof.Rows L2
theorem genM_push {k : Nat} {p q : Nat} {ps st ms : List Nat} {K : List Nat} (h : st.length < ps.length) (hK : K ∈ genM k ps (p :: q :: st) ms) : K ∈ genM k (p :: ps) (q :: st) ms := by
  unfold genM
  rw [if_pos (by omega)]
  exact List.mem_append_left _ hK
theorem genM_pop {k : Nat} {p q : Nat} {ps st ms : List Nat} {K : List Nat} (hK : K ∈ genM k ps st ((ms.set q p).set p q)) : K ∈ genM k (p :: ps) (q :: st) ms := by
  unfold genM
  exact List.mem_append_right _ hK
theorem genM_nil {k : Nat} {p : Nat} {ps ms : List Nat} {K : List Nat} (hK : K ∈ genM k ps [p] ms) : K ∈ genM k (p :: ps) [] ms := by
  unfold genM; exact hK
theorem ordN_len (n : Nat) : (ordN n).length = 2 * n := by unfold ordN; simp; omega
theorem ordN_lt {n p : Nat} (h : p ∈ ordN n) : p < 2 * n := by unfold ordN at h; simp [List.mem_range'] at h; omega
local macro_rules | `(tactic| walk_at "tp") => `(tactic| first | assumption | exact .int _ | exact .bl _ | solve_by_elim (maxDepth := 6) [Tp.ex])
section
variable {P : Program} {w : World} {K : PySem.W.Frag} {mg : Str → Option Value} {base : Heap}
abbrev sp_law_mat : Sp := fun vs H Q _ => ∃ (W g : Addr) (c n : Nat), vs = [.ref W, .int n, .int n] ∧ Wl H W g c ∧ c ≤ 90000 ∧ 2 ≤ n ∧ n ≤ 6 ∧ ∀ M v H', ExW W g H H' → Wl H' W g (c + 12) → M ∈ matsL n → Tp H' v (dMat n M) → Q v H'
theorem sc_law_mat : FnScope ["_law_well_here", "_law_above", "_law_below", "_law_both", "_law_left", "_law_order", "_law_mates", "_law_k", "_law_peg"] ["_law_well_here", "_law_above", "_law_below"] (defScope (top 53)) := ⟨rfl, rfl, rfl, by decide +kernel, rfl, by decide +kernel, by decide +kernel⟩
theorem w_law_mat (B : Bt mg) (D : DefIn K mg "_law_mat" (top 53)) (C_law_draw : Cal P w K mg base CX0 1 "_law_draw" ["_law_well_here", "_law_limit"] (sp_law_draw))  : Cal P w K mg base CX0 2 "_law_mat" ["_law_well_here", "_law_above", "_law_below"] (sp_law_mat) := by
  obtain ⟨f, fd, F, g⟩ := D.ex
  refine ⟨f, fd, F.ok sc_law_mat (fun vs H Q E h => ?_) (fun cdv A outer s H vs Q E hr h => ?_), g, F.kp, F.binds (ps := ["_law_well_here", "_law_above", "_law_below"]) fun _ _ _ _ _ _ us hl => match us, hl with | [_, _, _], _ => rfl⟩
  · obtain ⟨W, g, c, n, rfl, _⟩ := h; rfl
  · obtain ⟨W, gg, c, n, rfl, wl, hc, h2, h6, k⟩ := h
    refine ⟨_, (pss_cons (ps_par (i := 3) (j := 4) rfl sc_law_mat.nd rfl rfl (by decide) rfl rfl (pa_cons (pe_op op_add (pv 1) (pv 2)) (pa_cons (pe_lst pa_nil) pa_nil)) (by rfl))
  (pss_cons (ps_par (i := 5) (j := 6) rfl sc_law_mat.nd rfl rfl (by decide) rfl rfl (pa_cons (pe_op op_cat (pe_listRg rfl (by rfl) B.list (prg_1 (by rfl) B.range (pv 1))) (pe_listRevRg rfl (by rfl) B.list (by rfl) B.reversed (prg_2 (by rfl) B.range (pv 1) (pv 3)))) (pa_cons (pe_op op_rep (pe_lst (pa_cons pe_int pa_nil)) (pv 3)) pa_nil)) (by rfl))
  (pss_cons (ps_for PassesOwn.never rfl (pi_range1 (by rfl) B.range (pa_cons (pv 3) pa_nil)) (pg_name (i := 7) sc_law_mat.nd rfl (Or.inl rfl))
  (pss_one (ps_if (PW.pt (pw_or (pt_cmpR (op_eqD hr.units) (pv 4) (pe_lst pa_nil) (nomark _)) (pw_or1 (PW.pt (pw_and (pt_cmpR op_lt (pe_callB call_lenA (by rfl) B.len PySem.boot_len (pa_cons (pv 4) pa_nil)) (pe_op op_sub (pv 3) (pv 7)) (nomark _)) (pw_and1 (pt_cmpR op_eq (pe_callC C_law_draw (hr.mono (by decide)) pass0 (pa_cons (pv 0) (pa_cons pe_int pa_nil))) pe_int (nomark _))))))))
  (pss_one (ps_expr (pe_bm PySem.F.plainAttrs_list PySem.F.slot_list_append PySem.F.type_list_append mt_append (pv 4) (pa_cons (pe_ix ix_list (pv 5) (pv 7) (fun _ _ => rfl)) pa_nil))))
  (pss_cons (ps_set (i := 8) sc_law_mat.nd rfl (Or.inl rfl) (pe_bm0 PySem.F.plainAttrs_list PySem.F.slot_list_pop PySem.F.type_list_pop mt_pop (pv 4)))
  (pss_one (ps_asg (pe_tup (pa_cons (pe_ix ix_list (pv 5) (pv 7) (fun _ _ => rfl)) (pa_cons (pv 8) pa_nil))) (pg_tup rfl (pgs_cons (pg_sub (pv 6) (pv 8) set_list) (pgs_cons (pg_sub (pv 6) (pe_ix ix_list (pv 5) (pv 7) (fun _ _ => rfl)) set_list) pgs_nil)))))))))
  (pss_one (ps_ret (pe_tup (pa_cons (pv 1) (pa_cons (pv 2) (pa_cons (pe_tupleOf (by rfl) B.tuple (pv 6)) pa_nil))))))))), ?_⟩
    refine s_seq (s_parIN (evd_II (evd_var rfl (.int _)) (evd_var rfl (.int _))) (evn_lst eva_nil) fun l H1 nl e1 ll => ?_)
    dsimp only
    refine s_seq (s_parNN (ds := nats (ordN n)) (es := nats (List.replicate (2 * n) 0)) ?_ ?_ fun o m H2 no nm nom e2 lo lm => ?_)
    · unfold ordN
      rw [← nats_app]
      exact evn_cat (evn_rg1 (evd_var rfl (.int _)) (by omega)) (evn_revRg (evd_var rfl (.int _)) (evd_var rfl (.int _)) rfl (by omega)) (by rw [nats_len, nats_len]; simp; omega)
    · have e := evn_rep1 (σ := [some (.ref W), some (.int n), some (.int n), some (.int ((n : Int) + n)), some (.ref l), none, none, none, none]) (H := H1) (evn_lst (eva_cons (evd_int (i := 0)) eva_nil)) (evd_var (i := 3) rfl (.int ((n : Int) + n))) (by omega) (by omega)
      rw [nats_rep, show ((n : Int) + (n : Int)).toNat = 2 * n by omega] at e
      exact e
    have wl1 := wl.ex e1
    have wl2 := wl1.ex e2
    have Nl := wl.ne nl
    have No := wl1.ne no
    have Nm := wl1.ne nm
    have nlo : l ≠ o := ll.ne_none no
    have nlm : l ≠ m := ll.ne_none nm
    have no0 := e1.back no
    have nm0 := e1.back nm
    have ll2 := ll.ex e2
    refine s_seq (s_forR1 (n := (n : Int) + n) (evd_var rfl (.int _)) (by omega) (fun i σ' H' => ∃ a b st ms, σ' = [some (.ref W), some (.int n), some (.int n), some (.int ((n : Int) + n)), some (.ref l), some (.ref o), some (.ref m), a, b] ∧ ExW W gg H H' ∧ Wl H' W gg (c + i) ∧ Ls H' l (nats st.reverse) ∧ Ls H' o (nats (ordN n)) ∧ Ls H' m (nats ms) ∧ ms.length = 2 * n ∧ st.length ≤ i ∧ (∀ q ∈ st, q < 2 * n) ∧ ∀ M ∈ genM n ((ordN n).drop i) st ms, M ∈ matsL n)
      (fun H3 e3 => ⟨none, none, [], List.replicate (2 * n) 0, rfl, ((e1.trans e2).trans e3).w W gg, wl2.ex e3, (show Ls H3 l [] from ll2.ex e3), lo.ex e3, lm.ex e3, by simp, Nat.le_refl _, fun _ h => absurd h List.not_mem_nil, fun M hM => by unfold matsL; exact hM⟩) ?_ ?_)
    · rintro i σ' H' hi ⟨a, b, st, ms, rfl, ew, wl, lst, lo, lm, hms, hst, hq, hgen⟩
      have hi : i < 2 * n := by omega
      obtain ⟨p, hp⟩ : ∃ p, (ordN n)[i]? = some p := ⟨_, List.getElem?_eq_getElem (by rw [ordN_len]; exact hi)⟩
      have hdrop : (ordN n).drop i = p :: (ordN n).drop (i + 1) := by
        rw [List.drop_eq_getElem_cons (lt_of_get hp), (List.getElem?_eq_some_iff.mp hp).2]
      have hpl := ordN_lt (List.mem_of_getElem? hp)
      have hdl : ((ordN n).drop (i + 1)).length = 2 * n - (i + 1) := by rw [List.length_drop, ordN_len]
      rw [hdrop] at hgen
      refine s_ifP (fun b H3 => ExW W gg H' H3 ∧ Wl H3 W gg (c + i + 1) ∧ (b = true → ∀ M ∈ genM n ((ordN n).drop (i + 1)) (p :: st) ms, M ∈ matsL n) ∧ (b = false → ∃ q st', st = q :: st')) (fun R hR => ?_) ?_ ?_
      · refine x_or ?_
        cases st with
        | nil =>
          refine x_evT (b := true) (EvT.is (evt_test (evd_eqL0 rfl lst (sh_nats _))) rfl) fun H3 e3 => ?_
          exact iteT (hR _ _ ⟨e3.w W gg, (wl.ex e3).le (by omega), fun _ M hM => hgen M (genM_nil hM), fun h => absurd h (by decide)⟩)
        | cons q st =>
          refine x_evT (b := false) (EvT.is (evt_test (evd_eqL0 rfl lst (sh_nats _))) (by simp [nats])) fun H3 e3 => ?_
          refine iteF (x_and ?_)
          refine x_evT (evt_test (evd_IB (evd_lenL (evv_var rfl) (lst.ex e3)) (evd_II (evd_var rfl (.int _)) (evd_var rfl (.int _))))) fun H4 e4 => ?_
          rw [nats_len, List.length_reverse]
          by_cases hlt : (((q :: st).length : Nat) : Int) < (n : Int) + n - i
          · rw [decide_eq_true hlt]
            have hlt2 : st.length < ((ordN n).drop (i + 1)).length := by rw [hdl]; simp at hlt; omega
            refine iteT (x_test (x_op (d_draw rfl ((wl.ex e3).ex e4) (by omega) evd_int (by decide) (by decide) fun r H5 e5 wl5 l5 => x_c (x_eqI ⟨_, rfl, ?_⟩))))
            exact hR _ _ ⟨((e3.trans e4).w W gg).trans e5, wl5, fun _ M hM => hgen M (genM_push hlt2 hM), fun _ => ⟨q, st, rfl⟩⟩
          · rw [decide_eq_false hlt]
            exact iteF (hR _ _ ⟨(e3.trans e4).w W gg, ((wl.ex e3).ex e4).le (by omega), fun h => absurd h (by decide), fun _ => ⟨q, st, rfl⟩⟩)
      · rintro H3 ⟨e3, w3, hg, _⟩
        have hg := hg rfl
        have l3 := lst.keepW wl e3 Nl
        have o3 := lo.keepW wl e3 No
        have m3 := lm.keepW wl e3 Nm
        refine s_appB (evv_var rfl) (evd_ixL (evv_var rfl) o3 (evd_var rfl (.int _)) (at_nat (nats_get hp))) l3 (by rw [nats_len, List.length_reverse]; omega) fun H4 b4 l4 => ?_
        have nt := l3.noTup
        refine ⟨_, _, p :: st, ms, rfl, (ew.trans e3).own b4 nl, (w3.keepB b4 Nl).le (by omega), ?_, o3.keepB b4 nlo.symm nt, m3.keepB b4 nlm.symm nt, hms, by simp; omega, fun q hq' => ?_, hg⟩
        · rw [List.reverse_cons, ← nats_app]; exact l4
        · rcases List.mem_cons.mp hq' with rfl | h
          · exact hpl
          · exact hq q h
      · rintro H3 ⟨e3, w3, _, hb⟩
        obtain ⟨q, st', rfl⟩ := hb rfl
        have hql := hq q (List.mem_cons_self ..)
        have l3 : Ls H3 l (nats st'.reverse ++ [.int (q : Int)]) := by
          have := lst.keepW wl e3 Nl
          rw [List.reverse_cons, ← nats_app] at this; exact this
        have o3 := lo.keepW wl e3 No
        have m3 := lm.keepW wl e3 Nm
        refine s_seq (s_popI (evv_var rfl) l3 fun v H4 b4 l4 tv => ?_)
        cases tv.int_inv
        have nt := l3.noTup
        have o4 := o3.keepB b4 nlo.symm nt
        have m4 := m3.keepB b4 nlm.symm nt
        have w4 := w3.keepB b4 Nl
        have e4 : ExW W gg H H4 := (ew.trans e3).own b4 nl
        refine s_asgG (evd_tup (eva_cons (evd_ixL (evv_var rfl) o4 (evd_var rfl (.int _)) (at_nat (nats_get hp))) (eva_cons (evd_var rfl (.int _)) eva_nil))) fun v5 H5 e5 t5 => g_two t5 fun x y tx ty => ?_
        have o5 := o4.ex e5
        have m5 := m4.ex e5
        refine g_sub (j := q) (evv_var rfl) (evd_var rfl (.int _)) m5 (ixN_nat (by rw [nats_len, hms]; exact hql)) tx fun H6 b6 l6 => ?_
        have nt6 := m5.noTup
        have o6 := o5.keepB b6 nom nt6
        refine ⟨_, _, rfl, g_sub (j := p) (evv_var rfl) (evd_ixL (evv_var rfl) o6 (evd_var rfl (.int _)) (at_nat (nats_get hp))) l6 (ixN_nat (by rw [List.length_set, nats_len, hms]; exact hpl)) (ty.mono (b6.tk nt6)) fun H7 b7 l7 => ⟨rfl, ?_⟩⟩
        have nt7 := l6.noTup
        rw [nats_set, nats_set] at l7
        refine ⟨_, _, st', (ms.set q p).set p q, rfl, ((e4.trans (e5.w W gg)).own b6 nm0).own b7 nm0, (((w4.ex e5).keepB b6 Nm).keepB b7 Nm).le (by omega), ((l4.ex e5).keepB b6 nlm nt6).keepB b7 nlm nt7, o6.keepB b7 nom nt7, l7, by simp [hms], by simp at hst; omega, fun q hq' => hq q (List.mem_cons_of_mem _ hq'), fun M hM => hgen M (genM_pop hM)⟩
    · rintro σ' H' ⟨a, b, st, ms, rfl, ew, wl, lst, lo, lm, hms, hst, hq, hgen⟩
      have e2n : Int.toNat ((n : Int) + (n : Int)) = 2 * n := by omega
      rw [e2n] at wl hgen
      rw [← ordN_len, List.drop_length] at hgen
      have hM : ms ∈ matsL n := hgen ms (by unfold genM; simp)
      refine s_ret (evd_tup (eva_cons (evd_var rfl (.int _)) (eva_cons (evd_var rfl (.int _)) (eva_cons (evd_tupL (evv_var rfl) lm) eva_nil)))) fun v H5 e5 t5 => k ms v H5 (ew.trans (e5.w W gg)) ((wl.ex e5).le (by omega)) hM t5
end
end Hk


namespace Hk
open PySem PySem.Spec PyProof.Rows L2
/-- a sum that may be held -/
structure Hs (n : Nat) (S : Tab) : Prop where
  ok : okS n S
  len : S.length ≤ 8
  rows : Ln 9 S
  bd : ∀ t ∈ S, ∀ x ∈ t.2, x.natAbs < 10 ^ 30
theorem Hs.b {n : Nat} {S : Tab} (h : Hs n S) : ∀ t ∈ S, Bd t.2 := fun t ht c hc => Nat.lt_trans (h.bd t ht c hc) (Nat.lt_of_lt_of_le (show 10 ^ 30 < 2 ^ 100 by decide) (Nat.pow_le_pow_right (by decide) (by decide)))
theorem Hs.ln {n k : Nat} {S : Tab} (h : Hs n S) (hk : 9 ≤ k) : Ln k S := fun t ht => Nat.le_trans (h.rows t ht) hk
/-- an asking: kind, two places, a mat, a row, an integer, hooks -/
structure Ask where
  kind : Nat
  i : Nat
  j : Nat
  M : List Nat
  p : List Int
  x : Int
  w : List Nat
structure AskOk (n : Nat) (A : Ask) : Prop where
  kind : A.kind < 15
  mat : A.M ∈ matsL n
  row : okP A.p
  rlen : A.p.length ≤ 3
  rbd : ∀ c ∈ A.p, c.natAbs < 100
  x0 : -20 ≤ A.x
  x1 : A.x ≤ 20
  wl : A.w.length ≤ 6
  wh : ∀ h ∈ A.w, h + 1 < n
def Ask.data (n : Nat) (A : Ask) : List PyData := [.int (A.kind : Nat), .int (A.i : Nat), .int (A.j : Nat), dMat n A.M, dP A.p, .int A.x, dN A.w]
theorem Ls.at {H : Hp} {l : Addr} {ds : List PyData} (h : Ls H l ds) : ∃ xs, H l = some (.lst xs) := let ⟨xs, h, _⟩ := h; ⟨xs, h⟩
local macro_rules | `(tactic| walk_at "tp") => `(tactic| first | assumption | exact .int _ | exact .bl _ | solve_by_elim (maxDepth := 6) [Tp.ex])
section
variable {P : Program} {w : World} {K : PySem.W.Frag} {mg : Str → Option Value} {base : Heap}
abbrev sp_law_sum : Sp := fun vs H Q _ => ∃ (W g : Addr) (c n : Nat) (m : Nat), vs = [.ref W, .int n, .int n, .int m, .int 4, .int 99] ∧ Wl H W g c ∧ c ≤ 80000 ∧ 2 ≤ n ∧ n ≤ 6 ∧ m ≤ 4 ∧ ∀ S v H', ExW W g H H' → Wl H' W g (c + 200) → Hs n S → Fz H' v (dSum n S) → Q v H'
theorem sc_law_sum : FnScope ["_law_well_here", "_law_above", "_law_below", "_law_many", "_law_most", "_law_great", "_law_table", "_law_k", "_law_row_here"] ["_law_well_here", "_law_above", "_law_below", "_law_many", "_law_most", "_law_great"] (defScope (top 58)) := ⟨rfl, rfl, rfl, by decide +kernel, rfl, by decide +kernel, by decide +kernel⟩
theorem w_law_sum (B : Bt mg) (D : DefIn K mg "_law_sum" (top 58)) (C_law_draw : Cal P w K mg base CX0 1 "_law_draw" ["_law_well_here", "_law_limit"] (sp_law_draw)) (C_law_mat : Cal P w K mg base CX0 2 "_law_mat" ["_law_well_here", "_law_above", "_law_below"] (sp_law_mat)) (C_law_row : Cal P w K mg base CX0 2 "_law_row" ["_law_well_here", "_law_most", "_law_great"] (sp_law_row))  : Cal P w K mg base CX0 3 "_law_sum" ["_law_well_here", "_law_above", "_law_below", "_law_many", "_law_most", "_law_great"] (sp_law_sum) := by
  obtain ⟨f, fd, F, g⟩ := D.ex
  refine ⟨f, fd, F.ok sc_law_sum (fun vs H Q E h => ?_) (fun cdv A outer s H vs Q E hr h => ?_), g, F.kp, F.binds (ps := ["_law_well_here", "_law_above", "_law_below", "_law_many", "_law_most", "_law_great"]) fun _ _ _ _ _ _ us hl => match us, hl with | [_, _, _, _, _, _], _ => rfl⟩
  · obtain ⟨W, g, c, n, m, rfl, _⟩ := h; rfl
  · obtain ⟨W, gg, c, n, m, rfl, wl, hc, h2, h6, hm, k⟩ := h
    refine ⟨_, (pss_cons (ps_set (i := 6) sc_law_sum.nd rfl (Or.inl rfl) pe_nnew)
  (pss_cons (ps_for PassesOwn.never rfl (pi_range1 (by rfl) B.range (pa_cons (pv 3) pa_nil)) (pg_name (i := 7) sc_law_sum.nd rfl (Or.inl rfl))
  (pss_cons (ps_set (i := 8) sc_law_sum.nd rfl (Or.inl rfl) (pe_callC C_law_row (hr.mono (by decide)) pass0 (pa_cons (pv 0) (pa_cons (pv 4) (pa_cons (pv 5) pa_nil)))))
  (pss_cons (ps_if (pt_cmpR (op_eqD hr.units) (pv 8) (pe_tup pa_nil) (nomark _))
  (pss_one (ps_set (i := 8) sc_law_sum.nd rfl (Or.inl rfl) (pe_tup (pa_cons (pe_ix ix_list (pe_lst (pa_cons pe_int (pa_cons (pe_un un_neg pe_int) (pa_cons pe_int pa_nil)))) (pe_callC C_law_draw (hr.mono (by decide)) pass0 (pa_cons (pv 0) (pa_cons pe_int pa_nil))) (fun _ _ => rfl)) pa_nil))))
  pss_nil)
  (pss_one (ps_nput hr.units (pv 6) (pe_callC C_law_mat (hr.mono (by decide)) pass0 (pa_cons (pv 0) (pa_cons (pv 1) (pa_cons (pv 2) pa_nil)))) (pv 8) rfl)))))
  (pss_one (ps_ret (pe_tupleF (by rfl) B.tuple (pe_callB (cr_sortedNI rfl hr.units) (by rfl) B.sorted (by decide +kernel) (pa_cons (pe_nitems (pv 6)) pa_nil))))))), ?_⟩
    refine s_seq (s_asgT (n := n) fun q H1 nq e1 tb => ?_)
    have Nq := wl.ne nq
    refine s_seq (s_forR1 (n := (m : Int)) (evd_var rfl (.int _)) (by omega) (fun i σ' H' => ∃ a b T, σ' = [some (.ref W), some (.int n), some (.int n), some (.int m), some (.int 4), some (.int 99), some (.ref q), a, b] ∧ ExW W gg H H' ∧ Wl H' W gg (c + 40 * i) ∧ Tb P w H' q n T ∧ T.length ≤ i ∧ (T.map (·.1)).Nodup ∧ ∀ t ∈ T, t.1 ∈ matsL n ∧ okP t.2 ∧ t.2 ≠ [] ∧ t.2.length ≤ 4 ∧ ∀ x ∈ t.2, x.natAbs < 100)
      (fun H2 e2 => ⟨_, _, [], rfl, (e1.trans e2).w W gg, (wl.ex e1).ex e2, tb.ex e2, Nat.le_refl _, List.nodup_nil, fun _ h => absurd h List.not_mem_nil⟩) ?_ ?_)
    · rintro i σ' H' hi ⟨a, b, T, rfl, ew, wl, tb, hT, hn, hv⟩
      have hi : i < m := by omega
      refine s_seq (x_asg (x_call (x_cons (x_var rfl (x_cons (x_var rfl (x_cons (x_var rfl (x_nil ⟨W, gg, c + 40 * i, 4, rfl, wl, by omega, by decide, by decide, fun p v H2 e2 wl2 op lp bp tv => ?_⟩)))))))))
      have tb2 : Tb P w H2 q n T := tb.keep (wl.tk e2) fun o h => e2 q o Nq.1 Nq.2 h
      -- a row that is not ()
      refine s_seq (s_ifJ (fun σ3 H3 => ∃ p v, σ3 = [some (.ref W), some (.int n), some (.int n), some (.int m), some (.int 4), some (.int 99), some (.ref q), some (.int i), some v] ∧ ExW W gg H H3 ∧ Wl H3 W gg (c + 40 * i + 21) ∧ Tb P w H3 q n T ∧ okP p ∧ p ≠ [] ∧ p.length ≤ 4 ∧ (∀ x ∈ p, x.natAbs < 100) ∧ Tp H3 v (dP p)) (evt_test (evd_eqD (evd_var rfl tv) (evd_tup eva_nil) (sh_P p) sh_nil (eqv_nil_P p))) ?_ (fun hb H3 e3 J => ?_) (fun hb H3 e3 J => ?_))
      · rintro σ3 H3 ⟨p, v, rfl, ew3, wl3, tb3, op, np, lp, bp, tv⟩
        refine x_nput (x_var rfl (x_var rfl (x_call (x_cons (x_var rfl (x_cons (x_var rfl (x_cons (x_var rfl (x_nil ⟨W, gg, c + 40 * i + 21, n, rfl, wl3, by omega, h2, h6, fun M vm H4 e4 wl4 hM tm => ?_⟩))))))))))
        have tb4 : Tb P w H4 q n T := tb3.keep (wl3.tk e4) fun o h => e4 q o Nq.1 Nq.2 h
        refine ⟨q, n, T, M, p, rfl, tb4, tm, tv.mono (wl3.tk e4), by omega, fun H5 b5 tb5 => ?_⟩
        refine ⟨_, _, tput T M p, rfl, (ew3.trans e4).own b5 nq, (wl4.keepB b5 Nq).le (by omega), tb5, by have := tput_len T M p; omega, tput_nodup hn, fun t ht => ?_⟩
        rcases tput_mem ht with rfl | h
        · exact ⟨hM, op, np, lp, bp⟩
        · exact hv t h
      · refine x_asg (x_tup (x_cons (x_op (x_lst (x_cons (x_c (x_cons (x_evI (evd_neg evd_int) fun H4 e4 => x_cons (x_c (x_nil ⟨by show 3 ≤ sizeLine; decide, fun z nz => ?_⟩))))))))))
        have wl4 := (wl2.ex e3).ex e4
        have nz4 := wl4.ne nz
        have e5 : Ex H4 (upd H4 z (.lst [V.int 1, V.int (-1), V.int 2])) := Ex.new nz
        refine d_draw rfl (wl4.ex e5) (by omega) evd_int (by decide) (by decide) fun r H6 e6 wl6 l6 => ?_
        obtain ⟨v, hv3, hv'⟩ := at3 (a := V.int 1) (b := V.int (-1)) (c := V.int 2) (i := (r : Int)) (by omega)
        obtain ⟨z', rfl, hz0, hz1⟩ : ∃ z' : Int, v = .int z' ∧ z' ≠ 0 ∧ z'.natAbs < 100 := by
          rcases hv' with rfl | rfl | rfl
          · exact ⟨_, rfl, by decide, by decide⟩
          · exact ⟨_, rfl, by decide, by decide⟩
          · exact ⟨_, rfl, by decide, by decide⟩
        refine x_ixL (e6 z _ nz4.1 nz4.2 upd_same) hv3 (x_nil ⟨by show 1 ≤ sizeLine; decide, fun y ny => x_name ?_⟩)
        have e7 : Ex H6 (upd H6 y (.tup [V.int z'])) := Ex.new ny
        have e26 : ExW W gg H2 H6 := (((e3.trans e4).trans e5).w W gg).trans e6
        have tb6 : Tb P w H6 q n T := ((tb2.ex ((e3.trans e4).trans e5))).keep ((wl4.ex e5).tk e6) fun o h => e6 q o Nq.1 Nq.2 h
        refine J _ _ ⟨[z'], _, rfl, ((ew.trans e2).trans e26).trans (e7.w W gg), (wl6.ex e7).le (by omega), tb6.ex e7, okP_app (l := []) hz0, by simp, by simp, fun x hx => by simp at hx; subst hx; exact hz1, .tup (.inl upd_same) (.cons (.int _) .nil)⟩
      · have hne : p ≠ [] := by simpa using hb
        exact s_next (J _ _ ⟨p, v, rfl, (ew.trans e2).trans (e3.w W gg), (wl2.ex e3).le (by omega), tb2.ex e3, op, hne, lp, bp, tv.ex e3⟩)
    · rintro σ' H' ⟨a, b, T, rfl, ew, wl, tb, hT, hn, hv⟩
      rw [Int.toNat_natCast] at wl hT
      dsimp only
      refine s_retF (evf_tupN (evn_sortedNI (evv_var rfl) tb)) fun v H5 e5 t5 => ?_
      rw [dataLe_Term] at t5
      have hl : (T.mergeSort leT).length = T.length := List.length_mergeSort _
      refine k (T.mergeSort leT) v H5 (ew.trans (e5.w W gg)) ((wl.ex e5).le (by omega)) ⟨⟨h2, h6, fun t ht => ?_, sortT_asc hn⟩, by omega, fun t ht => ?_, fun t ht x hx => ?_⟩ t5
      · have := hv t (sortT_mem.mp ht)
        exact ⟨this.1, this.2.1, this.2.2.1⟩
      · have := hv t (sortT_mem.mp ht); omega
      · exact Nat.lt_trans ((hv t (sortT_mem.mp ht)).2.2.2.2 x hx) (by decide)
abbrev sp_law_asking : Sp := fun vs H Q _ => ∃ (W g : Addr) (c n : Nat), vs = [.ref W, .int n] ∧ Wl H W g c ∧ c ≤ 80000 ∧ 2 ≤ n ∧ n ≤ 6 ∧ ∀ A l H', H l = none → ExW W g H H' → Wl H' W g (c + 60) → AskOk n A → Ls H' l (A.data n) → Q (.ref l) H'
theorem sc_law_asking : FnScope ["_law_well_here", "_law_size", "_law_row_here", "_law_hooks", "_law_k"] ["_law_well_here", "_law_size"] (defScope (top 62)) := ⟨rfl, rfl, rfl, by decide +kernel, rfl, by decide +kernel, by decide +kernel⟩
theorem w_law_asking (B : Bt mg) (D : DefIn K mg "_law_asking" (top 62)) (C_law_draw : Cal P w K mg base CX0 1 "_law_draw" ["_law_well_here", "_law_limit"] (sp_law_draw)) (C_law_mat : Cal P w K mg base CX0 2 "_law_mat" ["_law_well_here", "_law_above", "_law_below"] (sp_law_mat)) (C_law_row : Cal P w K mg base CX0 2 "_law_row" ["_law_well_here", "_law_most", "_law_great"] (sp_law_row))  : Cal P w K mg base CX0 3 "_law_asking" ["_law_well_here", "_law_size"] (sp_law_asking) := by
  obtain ⟨f, fd, F, g⟩ := D.ex
  refine ⟨f, fd, F.ok sc_law_asking (fun vs H Q E h => ?_) (fun cdv A outer s H vs Q E hr h => ?_), g, F.kp, F.binds (ps := ["_law_well_here", "_law_size"]) fun _ _ _ _ _ _ us hl => match us, hl with | [_, _], _ => rfl⟩
  · obtain ⟨W, g, c, n, rfl, _⟩ := h; rfl
  · obtain ⟨W, gg, c, n, rfl, wl, hc, h2, h6, k⟩ := h
    refine ⟨_, (pss_cons (ps_set (i := 2) sc_law_asking.nd rfl (Or.inl rfl) (pe_callC C_law_row (hr.mono (by decide)) pass0 (pa_cons (pv 0) (pa_cons pe_int (pa_cons pe_int pa_nil)))))
  (pss_cons (ps_set (i := 3) sc_law_asking.nd rfl (Or.inl rfl) (pe_tupleOf (by rfl) B.tuple (pe_lc (own := [("_law_k", 4)]) (g := (gName 4)) rfl sc_law_asking.nd (pi_range1 (by rfl) B.range (pa_cons (pe_callC C_law_draw (hr.mono (by decide)) pass0 (pa_cons (pv 0) (pa_cons pe_int pa_nil))) pa_nil)) (blkOk_by (N := ["_law_well_here", "_law_size", "_law_row_here", "_law_hooks", "_law_k"]) (sc := defScope (top 62)) (by decide +kernel)) (fun _ _ _ _ _ => (pg_name (i := 4) sc_law_asking.nd rfl (Or.inl rfl))) (fun _ _ _ _ _ => pts_nil) (fun _ _ _ _ _ => (pe_callC C_law_draw (hr.mono (by decide)) pass0 (pa_cons (pv 0) (pa_cons (pe_op op_sub (pv 1) pe_int) pa_nil)))))))
  (pss_one (ps_ret (pe_lst (pa_cons (pe_callC C_law_draw (hr.mono (by decide)) pass0 (pa_cons (pv 0) (pa_cons pe_int pa_nil))) (pa_cons (pe_callC C_law_draw (hr.mono (by decide)) pass0 (pa_cons (pv 0) (pa_cons (pe_op op_pow pe_int pe_int) pa_nil))) (pa_cons (pe_callC C_law_draw (hr.mono (by decide)) pass0 (pa_cons (pv 0) (pa_cons (pe_op op_pow pe_int pe_int) pa_nil))) (pa_cons (pe_callC C_law_mat (hr.mono (by decide)) pass0 (pa_cons (pv 0) (pa_cons (pv 1) (pa_cons (pv 1) pa_nil)))) (pa_cons (pv 2) (pa_cons (pe_op op_sub (pe_callC C_law_draw (hr.mono (by decide)) pass0 (pa_cons (pv 0) (pa_cons pe_int pa_nil))) pe_int) (pa_cons (pv 3) pa_nil)))))))))))), ?_⟩
    refine s_seq (x_asg (x_call (x_cons (x_var rfl (x_cons (x_c (x_cons (x_c (x_nil ⟨W, gg, c, 3, rfl, wl, by omega, by decide, by decide, fun p v H1 e1 wl1 op lp bp tv => x_name ?_⟩)))))))))
    refine s_seq (x_asg (x_then (x_lcR1 (d_draw rfl wl1 (by omega) evd_int (by decide) (by decide) fun r H2 e2 wl2 l2 => x_lcR (n := r) (by omega) (fun p i H' => p ≠ W ∧ p ≠ gg ∧ ExW W gg H2 H' ∧ Wl H' W gg (c + 21 + i) ∧ ∃ xs : List Nat, Ls H' p (nats xs) ∧ xs.length = i ∧ ∀ x ∈ xs, x + 1 < n) ?_ (fun _ => rfl) ?_ ?_))))
    · intro q nq
      have N := wl2.ne nq
      exact ⟨N.1, N.2, (Ex.new nq).w W gg, wl2.ex (Ex.new nq), [], ⟨[], upd_same, .nil⟩, rfl, fun _ h => absurd h List.not_mem_nil⟩
    · rintro q i H' nq hi ⟨n1, n2, ew, wl', xs, lx, hxl, hx⟩
      refine d_draw rfl wl' (by omega) (evd_II (evd_var rfl (.int _)) evd_int) (by omega) (by omega) fun r' H5 e5 wl5 l5 => ?_
      have lx5 := lx.keepW wl' e5 ⟨n1, n2⟩
      obtain ⟨ys, hys, ry⟩ := id lx5
      refine ⟨_, hys, small_lt (by rw [ry.length, nats_len]; omega), n1, n2, (ew.trans e5).own (ExB.upd q H5 _) nq, wl5.keepB (ExB.upd q H5 _) ⟨n1, n2⟩, xs ++ [r'], ?_, by simp [hxl], ?_⟩
      · rw [← nats_app]
        exact ⟨_, upd_same, (ry.append (.cons (.int _) .nil)).mono (TK.updL hys)⟩
      · intro x hx'
        rcases List.mem_append.mp hx' with h | h
        · exact hx x h
        · simp at h; subst h; omega
    · rintro q H' nq ⟨n1, n2, ew, wl', xs, lx, hxl, hx⟩
      refine x_tupL lx fun vw H3 e3 tw => x_name ?_
      have e13 : ExW W gg H1 H3 := (e2.trans ew).trans (e3.w W gg)
      have tv3 := ((tv.mono (wl1.tk e2)).mono (wl2.tk ew)).ex e3
      have wl3 := (wl'.ex e3).le (show c + 21 + r ≤ c + 28 by omega)
      refine x_ret (x_lst (x_cons (d_draw rfl wl3 (by omega) evd_int (by decide) (by decide) fun r1 H4 e4 wl4 l4 => x_cons (d_draw rfl wl4 (by omega) (evd_IC evd_int evd_int (small_pow (by decide) (by decide) _ (by decide))) (by decide) (by decide) fun r2 H5 e5 wl5 l5 => x_cons (d_draw rfl wl5 (by omega) (evd_IC evd_int evd_int (small_pow (by decide) (by decide) _ (by decide))) (by decide) (by decide) fun r3 H6 e6 wl6 l6 => x_cons (x_call (x_cons (x_var rfl (x_cons (x_var rfl (x_cons (x_var rfl (x_nil ⟨W, gg, c + 31, n, rfl, wl6, by omega, h2, h6, fun M vm H7 e7 wl7 hM tm => x_cons (x_var rfl (x_cons (x_op (d_draw rfl wl7 (by omega) evd_int (by decide) (by decide) fun r4 H8 e8 wl8 l8 => x_c (x_II (x_cons (x_var rfl (x_nil ⟨by show 7 ≤ sizeLine; decide, fun l nl => ?_⟩))))))))⟩)))))))))))))
      have k38 : TK H3 H8 := ((((wl3.tk e4).trans (wl4.tk e5)).trans (wl5.tk e6)).trans (wl6.tk e7)).trans (wl7.tk e8)
      have e38 : ExW W gg H3 H8 := (((e4.trans e5).trans e6).trans e7).trans e8
      have e9 : Ex H8 (upd H8 l (.lst [V.int r1, V.int r2, V.int r3, vm, v, V.int ((r4 : Int) - 20), vw])) := Ex.new nl
      refine k ⟨r1, r2, r3, M, p, (r4 : Int) - 20, xs⟩ l _ ?_ (((e1.trans e13).trans e38).trans (e9.w W gg)) ((wl8.ex e9).le (by omega)) ⟨by show r1 < 15; omega, hM, op, lp, bp, by show (-20 : Int) ≤ (r4 : Int) - 20; omega, by show (r4 : Int) - 20 ≤ 20; omega, by show xs.length ≤ 6; omega, hx⟩ ?_
      · exact ((e1.trans e13).trans e38).back nl (wl8.ne nl)
      · exact ⟨_, upd_same, TpAll.ex e9 (.cons (.int _) (.cons (.int _) (.cons (.int _) (.cons (tm.mono (wl7.tk e8)) (.cons (tv3.mono k38) (.cons (.int _) (.cons (tw.mono k38) .nil)))))))⟩
end
end Hk


namespace Hk
/-! ### what is due -/
def dueF (n : Nat) (A : Ask) (S T : Tab) : Tab := if A.kind < 2 then listT (layAll [] (S ++ T)) else if A.kind < 5 then listT (layAll [] (prodL n S T)) else if A.kind = 5 then listT (layAll [] (scaleL S A.p)) else if A.kind = 6 then listT (layAll [] (flipL n S)) else
  if A.kind = 7 then [((wordV n A.w).2, List.replicate (wordV n A.w).1 0 ++ [1])] else [(A.M, [1])]
theorem due_add {n : Nat} {S T : Tab} (hS : okS n S) : listT (layAll S T) = listT (layAll [] (S ++ T)) := by
  have : layAll [] (S ++ T) = layAll (layAll [] S) T := by unfold layAll; rw [List.foldl_append]
  rw [this, layAll_self hS.asc.nodup fun t ht => (hS.vt t ht).2.1]
theorem mulP_ne {a b : List Int} (ha : okP a) (hb : okP b) (h1 : a ≠ []) (h2 : b ≠ []) : mulP a b ≠ [] := by
  rw [← mulRow_cut ha hb h1 h2]
  intro h
  have := congrArg List.length h
  unfold mulRow at this
  rw [foldAt_len] at this
  have := List.length_pos_iff.mpr h1
  have := List.length_pos_iff.mpr h2
  simp at *; omega
theorem due_scale {n : Nat} {S : Tab} {q : List Int} (hS : okS n S) (hq : okP q) : (if q = [] then [] else scaleL S q) = listT (layAll [] (scaleL S q)) := by
  by_cases h : q = []
  · rw [if_pos h, h]
    have hr : ∀ t ∈ layAll [] (scaleL S []), True ∧ t.2 = [] := layAll_rows (G := fun _ => True) (R := fun p => p = []) (fun p q hp hq => by
      rcases hp with hp | hp <;> (rw [hp, hq]; rfl)) _ (fun t ht => absurd ht List.not_mem_nil) (fun t ht => by
      unfold scaleL at ht
      obtain ⟨u, _, rfl⟩ := List.mem_map.mp ht
      exact ⟨trivial, mulP_nil_r _⟩)
    cases e : listT (layAll [] (scaleL S [])) with
    | nil => rfl
    | cons t r =>
      have hm : t ∈ listT (layAll [] (scaleL S [])) := by rw [e]; exact List.mem_cons_self ..
      exact absurd (hr t (listT_mem hm).1).2 (listT_mem hm).2
  · rw [if_neg h]
    have hk : (scaleL S q).map (·.1) = S.map (·.1) := by unfold scaleL; rw [List.map_map]; rfl
    have hasc : Asc (scaleL S q) := by
      unfold Asc scaleL
      rw [List.pairwise_map]
      exact hS.asc
    have hv : ∀ t ∈ scaleL S q, okP t.2 ∧ t.2 ≠ [] := fun t ht => by
      unfold scaleL at ht
      obtain ⟨u, hu, rfl⟩ := List.mem_map.mp ht
      exact ⟨mulP_ok _ _, mulP_ne (hS.vt u hu).2.1 hq (hS.vt u hu).2.2 h⟩
    rw [layAll_self hasc.nodup fun t ht => (hv t ht).1]
    exact (listT_self hasc fun t ht => (hv t ht).2).symm
theorem flip_nodup {n : Nat} {S : Tab} (hS : okS n S) : ((flipL n S).map (·.1)).Nodup := by
  have hn := hS.asc.nodup
  have e : (flipL n S).map (·.1) = (S.map (·.1)).map (downM n) := by unfold flipL; rw [List.map_map, List.map_map]; rfl
  rw [e]
  have hv : ∀ M ∈ S.map (·.1), downM n (downM n M) = M := fun M hM => by
    obtain ⟨u, hu, rfl⟩ := List.mem_map.mp hM
    exact (dn_of hS.n2 hS.n6 (hS.vt u hu).1).2
  generalize S.map (·.1) = L at hn hv
  clear hS e
  induction L with
  | nil => exact List.nodup_nil
  | cons M L ih =>
    rw [List.nodup_cons] at hn
    rw [List.map_cons, List.nodup_cons]
    refine ⟨fun h => ?_, ih hn.2 fun K hK => hv K (List.mem_cons_of_mem _ hK)⟩
    obtain ⟨K, hK, e⟩ := List.mem_map.mp h
    have : K = M := by rw [← hv K (List.mem_cons_of_mem _ hK), e, hv M (List.mem_cons_self ..)]
    exact hn.1 (this ▸ hK)
theorem due_flip {n : Nat} {S : Tab} (hS : okS n S) : (flipL n S).mergeSort leT = listT (layAll [] (flipL n S)) := by
  have hn := flip_nodup hS
  have hv : ∀ t ∈ flipL n S, okP t.2 ∧ t.2 ≠ [] := fun t ht => by
    unfold flipL at ht
    obtain ⟨u, hu, rfl⟩ := List.mem_map.mp ht
    exact (hS.vt u hu).2
  rw [layAll_self hn fun t ht => (hv t ht).1]
  exact asc_unique (sortT_asc hn) (listT_asc hn) fun t => by rw [sortT_mem, mem_listT hn]; exact ⟨fun h => ⟨h, (hv t h).2⟩, fun h => h.1⟩
/-- what is due is a sum -/
theorem ok_listT {n : Nat} {T : Tab} (h2 : 2 ≤ n) (h6 : n ≤ 6) (hn : (T.map (·.1)).Nodup) (hv : ∀ t ∈ T, t.1 ∈ matsL n ∧ okP t.2) : okS n (listT T) :=
  ⟨h2, h6, fun t ht => ⟨(hv t (listT_mem ht).1).1, (hv t (listT_mem ht).1).2, (listT_mem ht).2⟩, listT_asc hn⟩
theorem ok_lay {n : Nat} {L : Tab} (h2 : 2 ≤ n) (h6 : n ≤ 6) (hv : ∀ t ∈ L, t.1 ∈ matsL n ∧ True) : okS n (listT (layAll [] L)) := by
  refine ok_listT h2 h6 (layAll_nodup L List.nodup_nil) fun t ht => ?_
  refine ⟨(layAll_rows (G := fun M => M ∈ matsL n) (R := fun _ => True) (fun _ _ _ _ => trivial) L (fun t ht => absurd ht List.not_mem_nil) hv t ht).1, ?_⟩
  have key : ∀ (L T : Tab), (∀ t ∈ T, okP t.2) → ∀ t ∈ layAll T L, okP t.2 := by
    intro L
    induction L with
    | nil => intro T h; exact h
    | cons u L ih =>
      intro T h
      refine ih (layF T u) fun t ht => ?_
      rcases tput_mem ht with e | h3
      · rw [e]; exact cutL_ok _
      · exact h t h3
  exact key L [] (fun t ht => absurd ht List.not_mem_nil) t ht
theorem prodL_mem {n : Nat} {S T : Tab} (hS : okS n S) (hT : okS n T) : ∀ t ∈ prodL n S T, t.1 ∈ matsL n ∧ True := fun t ht => by
  unfold prodL at ht
  obtain ⟨a, ha, hb⟩ := List.mem_flatMap.mp ht
  obtain ⟨b, hb', rfl⟩ := List.mem_map.mp hb
  obtain ⟨r, K, e, _, hr, hK⟩ := put_ok hS.n2 hS.n6 (hS.vt a ha).1 (hT.vt b hb').1
  rw [onePr_of e]
  exact ⟨hK, trivial⟩
theorem due_ok {n : Nat} {A : Ask} {S T : Tab} (hA : AskOk n A) (hS : okS n S) (hT : okS n T) : okS n (dueF n A S T) := by
  have h2 := hS.n2
  have h6 := hS.n6
  have one : ∀ (M : List Nat) (p : List Int), M ∈ matsL n → okP p → p ≠ [] → okS n [(M, p)] := fun M p hM hp hn => ⟨h2, h6, fun t ht => by simp at ht; subst ht; exact ⟨hM, hp, hn⟩, by unfold Asc; simp⟩
  unfold dueF
  split
  · exact ok_lay h2 h6 fun t ht => by
      rcases List.mem_append.mp ht with h | h
      · exact ⟨(hS.vt t h).1, trivial⟩
      · exact ⟨(hT.vt t h).1, trivial⟩
  · split
    · exact ok_lay h2 h6 (prodL_mem hS hT)
    · split
      · exact ok_lay h2 h6 fun t ht => by
          unfold scaleL at ht
          obtain ⟨u, hu, rfl⟩ := List.mem_map.mp ht
          exact ⟨(hS.vt u hu).1, trivial⟩
      · split
        · exact ok_lay h2 h6 fun t ht => by
            unfold flipL at ht
            obtain ⟨u, hu, rfl⟩ := List.mem_map.mp ht
            exact ⟨(dn_of h2 h6 (hS.vt u hu).1).1, trivial⟩
        · split
          · exact one _ _ (wordV_ok h2 h6 A.w (0, strM n) hA.wh (hk_of (by omega) h6).1).1 (okP_app (by decide)) (by simp)
          · exact one _ _ hA.mat (okP_app (l := []) (by decide)) (by simp)
theorem due_len {n : Nat} {A : Ask} {S T : Tab} (hS : Hs n S) (hT : Hs n T) : (dueF n A S T).length ≤ 100 := by
  have h1 := hS.len
  have h2 := hT.len
  have lay : ∀ L : Tab, L.length ≤ 64 → (listT (layAll [] L)).length ≤ 100 := fun L h => by
    have := listT_len (layAll [] L)
    have := layAll_len L []
    simp at this; omega
  unfold dueF
  split
  · exact lay _ (by simp; omega)
  · split
    · refine lay _ ?_
      rw [prodL_len]
      exact Nat.mul_le_mul h1 h2
    · split
      · exact lay _ (by unfold scaleL; simp; omega)
      · split
        · exact lay _ (by unfold flipL; simp; omega)
        · split <;> simp
end Hk


namespace Hk
open PySem PySem.Spec PyProof.Rows L2
section
variable {P : Program} {w : World} {K : PySem.W.Frag} {σ : L2.St} {H H' : Hp} {tm te : TE} {D : Ends} {Q : VK}
theorem s_lay {i : Nat} {q : Addr} {n : Nat} {T : Tab} {M : List Nat} {p : List Int} (hq : σ[i]? = some (some (.ref q))) (hm : EvD tm σ H (dMat n M)) (hp : EvD te σ H (dP p)) (tb : Tb P w H q n T) (hT : T.length ≤ 10000) (lp : p.length ≤ 200) (hg : Ln 200 T)
    (k : ∀ H', ExB q H H' → Tb P w H' q n (layF T (M, p)) → D.nx σ H') : tDrop (tCall (sp_law_lay P w) [] E0 (tCons (tVar i) (tCons tm (tCons te tNil)))) D σ H :=
  x_drop (x_call (x_cons (x_var hq (x_cons (x_ev hm fun v H1 e1 tv => x_cons (x_ev (hp.mono e1) fun v' H2 e2 tv' => x_nil ⟨q, n, T, M, p, v, v', rfl, tb.ex (e1.trans e2), hT, tv.ex e2, tv', by omega, fun r hr => by have := hg _ (tget_mem hr); simp at this; omega, fun H3 b3 tb3 => k H3 (((e1.trans e2).b q).trans b3) tb3⟩))))))
end
theorem okM_len {n : Nat} {M : List Nat} (h : okMat n M = true) : M.length = 2 * n := by
  unfold okMat at h
  simp only [Bool.and_eq_true, decide_eq_true_eq] at h
  exact h.1.1.2
theorem okM_lt {n : Nat} {M : List Nat} (h : okMat n M = true) : ∀ x ∈ M, x < 2 * n := by
  have hl := okM_len h
  unfold okMat at h
  simp only [Bool.and_eq_true, decide_eq_true_eq] at h
  intro x hx
  obtain ⟨i, hi⟩ := List.mem_iff_getElem?.mp hx
  have hi2 : i < 2 * n := by have := (List.getElem?_eq_some_iff.mp hi).1; omega
  have hz := List.all_eq_true.mp h.1.2 i (List.mem_range.mpr hi2)
  rw [hi] at hz
  simp only [Bool.and_eq_true, decide_eq_true_eq] at hz
  exact hz.1.1
theorem Ln.le {k m : Nat} {T : Tab} (h : Ln k T) (l : k ≤ m) : Ln m T := fun t ht => Nat.le_trans (h t ht) l
theorem Ln.app {k : Nat} {S T : Tab} (h : Ln k S) (g : Ln k T) : Ln k (S ++ T) := fun t ht => (List.mem_append.mp ht).elim (h t) (g t)
theorem Ln.lay {k : Nat} {L : Tab} (h : Ln k L) : Ln k (layAll [] L) := layAll_Ln L (fun _ h => absurd h List.not_mem_nil) h
theorem scale_Ln {n : Nat} {A : Ask} {S : Tab} (hA : AskOk n A) (hS : Hs n S) : Ln 110 (scaleL S A.p) := fun t ht => by
  unfold scaleL at ht
  obtain ⟨u, hu, rfl⟩ := List.mem_map.mp ht
  have := mulP_len u.2 A.p
  have := hS.rows u hu
  have := hA.rlen
  show (mulP u.2 A.p).length ≤ 110
  omega
theorem flip_Ln {n k : Nat} {S : Tab} (h : Ln k S) : Ln k (flipL n S) := fun t ht => by
  unfold flipL at ht
  obtain ⟨u, hu, rfl⟩ := List.mem_map.mp ht
  exact h u hu
theorem due_Ln {n : Nat} {A : Ask} {S T : Tab} (hA : AskOk n A) (hS : Hs n S) (hT : Hs n T) : Ln 110 (dueF n A S T) := by
  have lt : ∀ T' : Tab, Ln 110 T' → Ln 110 (listT T') := fun T' h t ht => h t (listT_mem ht).1
  unfold dueF
  split
  · exact lt _ (Ln.lay ((hS.ln (by decide)).app (hT.ln (by decide))))
  · split
    · exact lt _ (Ln.lay (prodL_Ln hS.ok hT.ok (hS.ln (by decide)) (hT.ln (by decide))))
    · split
      · exact lt _ (Ln.lay (scale_Ln hA hS))
      · split
        · exact lt _ (Ln.lay (flip_Ln (hS.ln (by decide))))
        · split
          · intro t ht
            have hw := (wordV_ok hS.ok.n2 hS.ok.n6 A.w (0, strM n) hA.wh (hk_of (by have := hS.ok.n2; omega) hS.ok.n6).1).2
            have := hA.wl
            simp at ht; subst ht
            unfold wordV
            simp at hw ⊢; omega
          · intro t ht; simp at ht; subst ht; simp
theorem lay_take_len {L : Tab} {i : Nat} {b : Nat} (h : L.length ≤ b) : (layAll [] (L.take i)).length ≤ b := by
  have := layAll_len (L.take i) []
  have : (L.take i).length ≤ L.length := by rw [List.length_take]; omega
  simp at *; omega
local macro_rules | `(tactic| walk_at "tp") => `(tactic| first | assumption | exact .int _ | exact .bl _ | solve_by_elim (maxDepth := 6) [Tp.ex])
section
variable {P : Program} {w : World} {K : PySem.W.Frag} {mg : Str → Option Value} {base : Heap}
abbrev sp_law_word_value : Sp := spD fun ds d => ∃ (n : Nat) (wd : List Nat), ds = [.int n, dN wd] ∧ 2 ≤ n ∧ n ≤ 6 ∧ wd.length ≤ 100 ∧ (∀ i ∈ wd, i + 1 < n) ∧ d = dSum n [((wordV n wd).2, List.replicate (wordV n wd).1 0 ++ [1])]
theorem sc_law_word_value : FnScope ["_law_size", "_law_hooks", "_law_rings", "_law_mesh", "_law_i", "_law_more"] ["_law_size", "_law_hooks"] (defScope (top 63)) := ⟨rfl, rfl, rfl, by decide +kernel, rfl, by decide +kernel, by decide +kernel⟩
theorem w_law_word_value (B : Bt mg) (D : DefIn K mg "_law_word_value" (top 63)) (C_law_put : Cal P w K mg base CX0 1 "_law_put" ["_law_ahead", "_law_behind"] (sp_law_put)) (C_law_hook : Cal P w K mg base CX0 1 "_law_hook" ["_law_size", "_law_i"] (sp_law_hook)) (C_law_straight : Cal P w K mg base CX0 1 "_law_straight" ["_law_size"] (sp_law_straight))  : Cal P w K mg base CX0 2 "_law_word_value" ["_law_size", "_law_hooks"] (sp_law_word_value) := by
  obtain ⟨f, fd, F, g⟩ := D.ex
  refine ⟨f, fd, F.ok sc_law_word_value (fun vs H Q E h => ?_) (fun cdv A outer s H vs Q E hr h => ?_), g, F.kp, F.binds (ps := ["_law_size", "_law_hooks"]) fun _ _ _ _ _ _ us hl => match us, hl with | [_, _], _ => rfl⟩
  · obtain ⟨d, ⟨ds, t, n, wd, rfl, _⟩, _⟩ := h
    exact t.length
  · obtain ⟨d, ⟨ds, t, n, wd, rfl, h2, h6, hl, hw, rfl⟩, k⟩ := h
    obtain ⟨v0, w0, rfl, t0, t1⟩ := t.i2
    cases t0.int_inv
    have hV := wordV_ok h2 h6 wd (0, strM n) hw (hk_of (by omega) h6).1
    have hr6 : (wordV n wd).1 ≤ 600 := by have := hV.2; unfold wordV; simp at this; omega
    refine ⟨_, (pss_cons (ps_par (i := 2) (j := 3) rfl sc_law_word_value.nd rfl rfl (by decide) rfl rfl (pa_cons pe_int (pa_cons (pe_callC C_law_straight (hr.mono (by decide)) pass0 (pa_cons (pv 0) pa_nil)) pa_nil)) (by rfl))
  (pss_cons (ps_for PassesOwn.never rfl (pi_tup (pv 1)) (pg_name (i := 4) sc_law_word_value.nd rfl (Or.inl rfl))
  (pss_cons (ps_asg (pe_callC C_law_put (hr.mono (by decide)) pass0 (pa_cons (pv 3) (pa_cons (pe_callC C_law_hook (hr.mono (by decide)) pass0 (pa_cons (pv 0) (pa_cons (pv 4) pa_nil))) pa_nil))) (pg_tup rfl (pgs_cons (pg_name (i := 5) sc_law_word_value.nd rfl (Or.inl rfl)) (pgs_cons (pg_name (i := 3) sc_law_word_value.nd rfl (Or.inl rfl)) pgs_nil))))
  (pss_one (ps_set (i := 2) sc_law_word_value.nd rfl (Or.inl rfl) (pe_op op_add (pv 2) (pv 5))))))
  (pss_one (ps_ret (pe_tup (pa_cons (pe_tup (pa_cons (pv 3) (pa_cons (pe_op op_catA (pe_op op_repA (pe_tup (pa_cons pe_int pa_nil)) (pv 2)) (pe_tup (pa_cons pe_int pa_nil))) pa_nil))) pa_nil)))))), ?_⟩
    refine s_seq (s_parD (eva_cons evd_int (eva_cons (evd_callD (eva_cons (evd_var rfl (.int _)) eva_nil) ⟨n, rfl, h6, rfl⟩) eva_nil)) fun v v' H1 e1 tv tv' => ?_)
    cases tv.int_inv
    have t1' := t1.ex e1
    refine s_seq (s_forT (evd_var rfl (show Tp H1 w0 (.tuple (nats wd)) from t1')) (fun Hs i σ' H' => ∃ v a b, σ' = [some (.int n), some w0, some (.int (((wd.take i).foldl (wordF n) (0, strM n)).1 : Nat)), some v, a, b] ∧ Ex H H' ∧ Ex Hs H' ∧ Tp H' v (dMat n ((wd.take i).foldl (wordF n) (0, strM n)).2)) (fun Hs es => ⟨_, _, _, rfl, e1.trans es, Ex.refl _, tv'.ex es⟩) (fun _ _ _ _ ⟨_, _, _, _, _, e, _⟩ => e.tk) ?_ ?_)
    · rintro Hs i d x σ2 H3 es hd ⟨v, a, b, rfl, e0, e3, tv⟩ tx
      obtain ⟨m, hm, rfl⟩ := nats_get' hd
      cases tx.int_inv
      have hi := hw m (List.mem_of_getElem? hm)
      have hV := (wordV_ok h2 h6 (wd.take i) (0, strM n) (fun j hj => hw j (List.mem_of_mem_take hj)) (hk_of (by omega) h6).1).1
      obtain ⟨r, Kk, e, e', hr, hK⟩ := put_ok h2 h6 hV ((hk_of (by omega) h6).2 m hi)
      rw [fold_take hm]
      generalize hU : (wd.take i).foldl (wordF n) (0, strM n) = U at tv e e' ⊢
      have e2 : wordF n U m = (U.1 + r, Kk) := by unfold wordF; rw [e]
      rw [e2]
      refine s_seq (s_asgG (evd_callD (eva_cons (evd_var rfl tv) (eva_cons (evd_callD (eva_cons (evd_var rfl (.int _)) (eva_cons (evd_var rfl (.int _)) eva_nil)) ⟨n, m, rfl, hi, h6, rfl⟩) eva_nil)) ⟨n, U.2, hookM n m, r, Kk, rfl, h6, e', rfl⟩) fun v' H4 e4 tv' => g_tup2 tv' fun y z ty tz => ?_)
      cases ty.int_inv
      refine s_asgI (n := ((U.1 + r : Nat) : Int)) (EvD.is (evd_II (evd_var rfl (.int _)) (evd_var rfl (.int _))) (by congr 1)) fun H5 e5 => ⟨_, _, _, rfl, (e0.trans e4).trans e5, (e3.trans e4).trans e5, tz.ex e5⟩
    · rintro Hs σ2 H3 es ⟨v, a, b, rfl, e0, e3, tv⟩
      rw [nats_len, List.take_length] at tv ⊢
      dsimp only
      have hU : wd.foldl (wordF n) (0, strM n) = wordV n wd := rfl
      rw [hU] at tv ⊢
      generalize wordV n wd = U at tv k hr6 ⊢
      have ec : (List.replicate ((U.1 : Nat) : Int).toNat (PyData.int 0) ++ [PyData.int 1]) = (List.replicate U.1 (0 : Int) ++ [1]).map PyData.int := dP_cat U.1 [1]
      refine s_ret (d := dSum n [(U.2, List.replicate U.1 (0 : Int) ++ [1])]) (evd_tup (eva_cons (d := dTerm n (U.2, List.replicate U.1 (0 : Int) ++ [1])) (evd_tup (eva_cons (evd_var rfl tv) (eva_cons (EvD.is (evd_catT (evd_repT (evd_tup (eva_cons evd_int eva_nil)) (evd_var rfl (.int _)) (by omega) (by omega)) (evd_tup (eva_cons evd_int eva_nil)) (by simp; omega)) (by rw [ec]; rfl)) eva_nil))) eva_nil)) fun v H2 e2 t2 => k v H2 (e0.trans e2) t2
abbrev sp_law_due : Sp := fun vs H Q _ => ∃ (a : Addr) (v v' : V) (n : Nat) (A : Ask) (S T : Tab), vs = [.ref a, v, v', .int n] ∧ Ls H a (A.data n) ∧ Tp H v (dSum n S) ∧ Tp H v' (dSum n T) ∧ AskOk n A ∧ Hs n S ∧ Hs n T ∧ ∀ u H', Ex H H' → Tp H' u (dSum n (dueF n A S T)) → Q u H'
theorem sc_law_due : FnScope ["_law_asking_here", "_law_left", "_law_right", "_law_size", "_law_kind", "_law_mesh", "_law_row_here", "_law_table", "_law_one_mat", "_law_factor", "_law_ahead", "_law_behind", "_law_more", "_law_rings"] ["_law_asking_here", "_law_left", "_law_right", "_law_size"] (defScope (top 64)) := ⟨rfl, rfl, rfl, by decide +kernel, rfl, by decide +kernel, by decide +kernel⟩
theorem w_law_due (B : Bt mg) (D : DefIn K mg "_law_due" (top 64)) (C_law_lay : Cal P w K mg base CX0 3 "_law_lay" ["_law_table", "_law_mat_here", "_law_row_here"] (sp_law_lay P w)) (C_law_put : Cal P w K mg base CX0 1 "_law_put" ["_law_ahead", "_law_behind"] (sp_law_put)) (C_law_times : Cal P w K mg base CX0 2 "_law_times" ["_law_a", "_law_b"] (sp_law_times)) (C_law_down : Cal P w K mg base CX0 1 "_law_down" ["_law_thing"] (sp_law_down)) (C_law_word_value : Cal P w K mg base CX0 2 "_law_word_value" ["_law_size", "_law_hooks"] (sp_law_word_value)) (C_law_listed : Cal P w K mg base CX0 1 "_law_listed" ["_law_table"] (sp_law_listed P w))  : Cal P w K mg base CX0 4 "_law_due" ["_law_asking_here", "_law_left", "_law_right", "_law_size"] (sp_law_due) := by
  obtain ⟨f, fd, F, g⟩ := D.ex
  refine ⟨f, fd, F.ok sc_law_due (fun vs H Q E h => ?_) (fun cdv A outer s H vs Q E hr h => ?_), g, F.kp, F.binds (ps := ["_law_asking_here", "_law_left", "_law_right", "_law_size"]) fun _ _ _ _ _ _ us hl => match us, hl with | [_, _, _, _], _ => rfl⟩
  · obtain ⟨a, v, v', n, A, S, T, rfl, _⟩ := h; rfl
  · obtain ⟨a, v0, w0, n, A, S, T, rfl, la, t0, t1, hA, hS, hT, k⟩ := h
    refine ⟨_, (pss_cons (ps_asg (pe_tup (pa_cons (pe_ix ix_list (pv 0) pe_int (fun _ _ => rfl)) (pa_cons (pe_ix ix_list (pv 0) pe_int (fun _ _ => rfl)) (pa_cons (pe_ix ix_list (pv 0) pe_int (fun _ _ => rfl)) (pa_cons pe_nnew pa_nil))))) (pg_tup rfl (pgs_cons (pg_name (i := 4) sc_law_due.nd rfl (Or.inl rfl)) (pgs_cons (pg_name (i := 5) sc_law_due.nd rfl (Or.inl rfl)) (pgs_cons (pg_name (i := 6) sc_law_due.nd rfl (Or.inl rfl)) (pgs_cons (pg_name (i := 7) sc_law_due.nd rfl (Or.inl rfl)) pgs_nil))))))
  (pss_cons (ps_if (pt_cmpR op_lt (pv 4) pe_int (nomark _))
  (pss_one (ps_for PassesOwn.never rfl (pi_tup (pe_op op_catA (pv 1) (pv 2))) (pg_tup rfl (pgs_cons (pg_name (i := 8) sc_law_due.nd rfl (Or.inl rfl)) (pgs_cons (pg_name (i := 9) sc_law_due.nd rfl (Or.inl rfl)) pgs_nil)))
  (pss_one (ps_expr (pe_callC C_law_lay (hr.mono (by decide)) pass0 (pa_cons (pv 7) (pa_cons (pv 8) (pa_cons (pv 9) pa_nil))))))))
  (pss_one (ps_if (pt_cmpR op_lt (pv 4) pe_int (nomark _))
  (pss_one (ps_for PassesOwn.never rfl (pi_tup (pv 1)) (pg_tup rfl (pgs_cons (pg_name (i := 10) sc_law_due.nd rfl (Or.inl rfl)) (pgs_cons (pg_name (i := 9) sc_law_due.nd rfl (Or.inl rfl)) pgs_nil)))
  (pss_one (ps_for PassesOwn.never rfl (pi_tup (pv 2)) (pg_tup rfl (pgs_cons (pg_name (i := 11) sc_law_due.nd rfl (Or.inl rfl)) (pgs_cons (pg_name (i := 12) sc_law_due.nd rfl (Or.inl rfl)) pgs_nil)))
  (pss_cons (ps_asg (pe_callC C_law_put (hr.mono (by decide)) pass0 (pa_cons (pv 10) (pa_cons (pv 11) pa_nil))) (pg_tup rfl (pgs_cons (pg_name (i := 13) sc_law_due.nd rfl (Or.inl rfl)) (pgs_cons (pg_name (i := 8) sc_law_due.nd rfl (Or.inl rfl)) pgs_nil))))
  (pss_one (ps_expr (pe_callC C_law_lay (hr.mono (by decide)) pass0 (pa_cons (pv 7) (pa_cons (pv 8) (pa_cons (pe_op op_catA (pe_op op_repA (pe_tup (pa_cons pe_int pa_nil)) (pv 13)) (pe_callC C_law_times (hr.mono (by decide)) pass0 (pa_cons (pv 9) (pa_cons (pv 12) pa_nil)))) pa_nil)))))))))))
  (pss_one (ps_if (pt_cmpR op_eq (pv 4) pe_int (nomark _))
  (pss_one (ps_for PassesOwn.never rfl (pi_tup (pv 1)) (pg_tup rfl (pgs_cons (pg_name (i := 8) sc_law_due.nd rfl (Or.inl rfl)) (pgs_cons (pg_name (i := 9) sc_law_due.nd rfl (Or.inl rfl)) pgs_nil)))
  (pss_one (ps_expr (pe_callC C_law_lay (hr.mono (by decide)) pass0 (pa_cons (pv 7) (pa_cons (pv 8) (pa_cons (pe_callC C_law_times (hr.mono (by decide)) pass0 (pa_cons (pv 9) (pa_cons (pv 6) pa_nil))) pa_nil))))))))
  (pss_one (ps_if (pt_cmpR op_eq (pv 4) pe_int (nomark _))
  (pss_one (ps_for PassesOwn.never rfl (pi_tup (pv 1)) (pg_tup rfl (pgs_cons (pg_name (i := 8) sc_law_due.nd rfl (Or.inl rfl)) (pgs_cons (pg_name (i := 9) sc_law_due.nd rfl (Or.inl rfl)) pgs_nil)))
  (pss_one (ps_expr (pe_callC C_law_lay (hr.mono (by decide)) pass0 (pa_cons (pv 7) (pa_cons (pe_callC C_law_down (hr.mono (by decide)) pass0 (pa_cons (pv 8) pa_nil)) (pa_cons (pv 9) pa_nil))))))))
  (pss_one (ps_if (pt_cmpR op_eq (pv 4) pe_int (nomark _))
  (pss_one (ps_ret (pe_callC C_law_word_value (hr.mono (by decide)) pass0 (pa_cons (pv 3) (pa_cons (pe_ix ix_list (pv 0) pe_int (fun _ _ => rfl)) pa_nil)))))
  (pss_one (ps_ret (pe_tup (pa_cons (pe_tup (pa_cons (pv 5) (pa_cons (pe_tup (pa_cons pe_int pa_nil)) pa_nil))) pa_nil)))))))))))))
  (pss_one (ps_ret (pe_callC C_law_listed (hr.mono (by decide)) pass0 (pa_cons (pv 7) pa_nil)))))), ?_⟩
    have h2 := hS.ok.n2
    have h6 := hS.ok.n6
    refine s_seq (x_asg (x_tup (x_cons (x_ev (d := .int (A.kind : Nat)) (evd_ixL (evv_var rfl) la evd_int rfl) fun u1 H1 e1 tu1 => x_cons (x_ev (d := dMat n A.M) (evd_ixL (evv_var rfl) (la.ex e1) evd_int rfl) fun u2 H2 e2 tu2 => x_cons (x_ev (d := dP A.p) (evd_ixL (evv_var rfl) ((la.ex e1).ex e2) evd_int rfl) fun u3 H3 e3 tu3 => x_cons ⟨n, fun q H4 nq e4 tb => x_nil ⟨by show 4 ≤ sizeLine; decide, fun z nz => ?_⟩⟩))))))
    cases tu1.int_inv
    have e5 : Ex H4 (upd H4 z (.tup [.int (A.kind : Nat), u2, u3, .ref q])) := Ex.new nz
    refine ⟨z, _, rfl, .inl (.inl upd_same), rfl, _, _, rfl, _, _, rfl, _, _, rfl, _, _, rfl, rfl, ?_⟩
    generalize upd H4 z (.tup [.int (A.kind : Nat), u2, u3, .ref q]) = H5 at e5
    have e03 := (e1.trans e2).trans e3
    have nq0 : H q = none := e03.back nq
    have e05 := (e03.trans e4).trans e5
    have tM : Tp H5 u2 (dMat n A.M) := tu2.ex ((e3.trans e4).trans e5)
    have tp : Tp H5 u3 (dP A.p) := tu3.ex (e4.trans e5)
    have tb5 := tb.ex e5
    have la5 := la.ex e05
    -- behind the ways: the table's list
    refine s_seq (s_ifJ (fun σ' H' => ∃ a1 a2 a3 a4 a5 a6 T', σ' = [some (.ref a), some v0, some w0, some (.int n), some (.int (A.kind : Nat)), some u2, some u3, some (.ref q), a1, a2, a3, a4, a5, a6] ∧ Ex H H' ∧ Tb P w H' q n T' ∧ T'.length ≤ 5000 ∧ listT T' = dueF n A S T) (evt_test (evd_IB (evd_var rfl (.int _)) evd_int)) ?_ (fun hb H6 e6 J => ?_) (fun hb H6 e6 J => ?_))
    · rintro σ' H' ⟨a1, a2, a3, a4, a5, a6, T', rfl, e0, tb, hT', hl⟩
      dsimp only
      refine s_ret (d := dSum n (dueF n A S T)) (evd_callP (as := [.val (.ref q)]) (evm_val (evv_var rfl) evm_nil) fun vs H7 e7 ok => ?_) fun v H8 e8 t8 => k v H8 (e0.trans e8) t8
      match vs, ok with
      | [_], ⟨rfl, _⟩ => exact ⟨q, n, _, rfl, tb.ex e7, by omega, by rw [hl]⟩
    · -- add
      have hk : A.kind < 2 := by simp at hb; omega
      have hd : dueF n A S T = listT (layAll [] (S ++ T)) := by unfold dueF; rw [if_pos hk]
      have hlen : (S ++ T).length ≤ 16 := by have := hS.len; have := hT.len; simp; omega
      have hLn : Ln 200 (S ++ T) := (hS.ln (by decide)).app (hT.ln (by decide))
      refine s_forT (evd_catT (evd_var rfl (t0.ex (e05.trans e6))) (evd_var rfl (t1.ex (e05.trans e6))) (by have := hS.len; have := hT.len; simp; omega)) (fun Hs' i σ' H' => ∃ a1 a2 a3 a4 a5 a6, σ' = [some (.ref a), some v0, some w0, some (.int n), some (.int (A.kind : Nat)), some u2, some u3, some (.ref q), a1, a2, a3, a4, a5, a6] ∧ Ex H H' ∧ TK Hs' H' ∧ Tb P w H' q n (layAll [] ((S ++ T).take i))) (fun Hs' es => ⟨_, _, _, _, _, _, rfl, (e05.trans e6).trans es, TK.refl _, (tb5.ex e6).ex es⟩) (fun _ _ _ _ ⟨_, _, _, _, _, _, _, _, k, _⟩ => k) ?_ ?_
      · rintro Hs' i d x σ2 H7 es hd ⟨a1, a2, a3, a4, a5, a6, rfl, e0, tk, tb⟩ tx
        rw [← List.map_append] at hd
        obtain ⟨u, hu, rfl⟩ := dSum_get hd
        refine g_tup2 (tp_Term tx) fun y z ty tz => ?_
        refine s_lay rfl (evd_var rfl ty) (evd_var rfl tz) tb (by have := lay_take_len (i := i) hlen; omega) (hLn u (List.mem_of_getElem? hu)) ((hLn.take i).lay) fun H8 b8 tb8 => ?_
        refine ⟨_, _, _, _, _, _, rfl, b8.ex e0 nq0, tk.trans (b8.tk tb.noTup), ?_⟩
        rw [layAll_take hu]; exact tb8
      · rintro Hs' σ2 H7 es ⟨a1, a2, a3, a4, a5, a6, rfl, e0, tk, tb⟩
        rw [← List.map_append, List.length_map, List.take_length] at tb
        exact J _ _ ⟨_, _, _, _, _, _, _, rfl, e0, tb, by have := layAll_len (S ++ T) []; simp at this hlen; omega, hd.symm⟩
    · have hk2 : ¬ A.kind < 2 := by simp at hb; omega
      refine s_ifJ (fun σ' H' => ∃ a1 a2 a3 a4 a5 a6 T', σ' = [some (.ref a), some v0, some w0, some (.int n), some (.int (A.kind : Nat)), some u2, some u3, some (.ref q), a1, a2, a3, a4, a5, a6] ∧ Ex H H' ∧ Tb P w H' q n T' ∧ T'.length ≤ 5000 ∧ listT T' = dueF n A S T) (evt_test (evd_IB (evd_var rfl (.int _)) evd_int)) J (fun hb H7 e7 J => ?_) (fun hb H7 e7 J => ?_)
      · -- multiply
        have hk : A.kind < 5 := by simp at hb; omega
        have hd : dueF n A S T = listT (layAll [] (prodL n S T)) := by unfold dueF; rw [if_neg hk2, if_pos hk]
        have e57 := e05.trans (e6.trans e7)
        refine s_forT (evd_var rfl (t0.ex e57)) (fun Hs' i σ' H' => ∃ a1 a2 a3 a4 a5 a6, σ' = [some (.ref a), some v0, some w0, some (.int n), some (.int (A.kind : Nat)), some u2, some u3, some (.ref q), a1, a2, a3, a4, a5, a6] ∧ Ex H H' ∧ TK Hs' H' ∧ Tb P w H' q n (layAll [] (prodL n (S.take i) T))) (fun Hs' es => ⟨_, _, _, _, _, _, rfl, e57.trans es, TK.refl _, (tb5.ex (e6.trans e7)).ex es⟩) (fun _ _ _ _ ⟨_, _, _, _, _, _, _, _, k, _⟩ => k) ?_ ?_
        · rintro Hs' i d x σ2 H8 es hd ⟨a1, a2, a3, a4, a5, a6, rfl, e0, tk, tb⟩ tx
          obtain ⟨u, hu, rfl⟩ := dSum_get hd
          have hu' := List.mem_of_getElem? hu
          refine g_tup2 (tp_Term tx) fun y z ty tz => ?_
          rw [prodL_take hu]
          have eapp : ∀ L : Tab, layAll [] (prodL n (S.take i) T ++ L) = layAll (layAll [] (prodL n (S.take i) T)) L := fun L => by unfold layAll; rw [List.foldl_append]
          rw [eapp]
          generalize hT0 : layAll [] (prodL n (S.take i) T) = T0 at tb ⊢
          have hLn0 : Ln 110 T0 := by rw [← hT0]; exact (prodL_Ln (hS.ok.sub i) hT.ok ((hS.ln (by decide)).take i) (hT.ln (by decide))).lay
          have hz0 : T0.length ≤ 64 := by
            rw [← hT0]
            have h1 := layAll_len (prodL n (S.take i) T) []
            have h2 : (prodL n (S.take i) T).length ≤ 8 * 8 := by
              rw [prodL_len, List.length_take]
              exact Nat.mul_le_mul (Nat.le_trans (Nat.min_le_right _ _) hS.len) hT.len
            simp at h1; omega
          have hLm : Ln 110 (T.map (onePr n u)) := fun t ht => by
            have := prodL_Ln (S := [u]) ⟨h2, h6, fun t ht => by simp at ht; subst ht; exact hS.ok.vt _ hu', by unfold Asc; simp⟩ hT.ok (fun t ht => by simp at ht; subst ht; have := hS.rows _ hu'; omega) (hT.ln (by decide)) t (by unfold prodL; simpa using ht)
            exact this
          refine s_forT (evd_var rfl (t1.ex e0)) (fun Ht m σ' H' => ∃ a1 a3 a4 a5 a6, σ' = [some (.ref a), some v0, some w0, some (.int n), some (.int (A.kind : Nat)), some u2, some u3, some (.ref q), a1, some z, some y, a4, a5, a6] ∧ a3 = some y ∧ Ex H H' ∧ TK Hs' H' ∧ TK Ht H' ∧ Tp H' y (dMat n u.1) ∧ Tp H' z (dP u.2) ∧ Tb P w H' q n (layAll T0 ((T.map (onePr n u)).take m))) (fun Ht et => ⟨_, _, _, _, _, rfl, rfl, e0.trans et, tk.trans et.tk, TK.refl _, ty.ex et, tz.ex et, tb.ex et⟩) (fun _ _ _ _ ⟨_, _, _, _, _, _, _, _, _, k, _⟩ => k) ?_ ?_
          · rintro Ht m d x σ3 H9 et hd ⟨a1, a3, a4, a5, a6, rfl, _, e0, tk, tk2, ty, tz, tb⟩ tx
            obtain ⟨t, ht, rfl⟩ := dSum_get hd
            have ht' := List.mem_of_getElem? ht
            have hm := lt_of_get ht
            refine g_tup2 (tp_Term tx) fun y2 z2 ty2 tz2 => ?_
            obtain ⟨r, Kk, _, ep, hr, hK⟩ := put_ok h2 h6 (hS.ok.vt u hu').1 (hT.ok.vt t ht').1
            obtain ⟨r', Kk', ep', ep2, _, _⟩ := put_ok h2 h6 (hS.ok.vt u hu').1 (hT.ok.vt t ht').1
            rw [ep] at ep2; cases ep2
            refine s_seq (s_asgG (evd_callD (eva_cons (evd_var rfl ty) (eva_cons (evd_var rfl ty2) eva_nil)) ⟨n, u.1, t.1, r, Kk, rfl, h6, ep, rfl⟩) fun v H10 e10 tv => g_tup2 tv fun b1 b2 tb1 tb2 => ?_)
            cases tb1.int_inv
            have hg : (T.map (onePr n u))[m]? = some (Kk, List.replicate r 0 ++ mulP u.2 t.2) := by rw [List.getElem?_map, ht]; show some (onePr n u t) = _; rw [onePr_of ep']
            have hlm := hLm _ (List.mem_of_getElem? hg)
            have hl2 : (layAll T0 ((T.map (onePr n u)).take m)).length ≤ 100 := by
              have := layAll_len ((T.map (onePr n u)).take m) T0
              have : ((T.map (onePr n u)).take m).length ≤ T.length := by rw [List.length_take, List.length_map]; omega
              have := hT.len
              omega
            have hLn2 : Ln 110 (layAll T0 ((T.map (onePr n u)).take m)) := layAll_Ln _ hLn0 (hLm.take m)
            refine s_lay (M := Kk) (p := List.replicate r 0 ++ mulP u.2 t.2) rfl (evd_var rfl tb2) (EvD.is (evd_catT (evd_repT (evd_tup (eva_cons evd_int eva_nil)) (evd_var rfl (.int _)) (by omega) (by omega)) (evd_callD (eva_cons (evd_var rfl (tz.ex e10)) (eva_cons (evd_var rfl (tz2.ex e10)) eva_nil)) ⟨u.2, t.2, rfl, by have := hS.rows u hu'; omega, by have := hT.rows t ht'; omega, hS.b u hu', hT.b t ht', rfl⟩) (by have := mulP_len u.2 t.2; have := hS.rows u hu'; have := hT.rows t ht'; simp; omega)) (by rw [dP_cat]; rfl)) (tb.ex e10) (by omega) (by have : (List.replicate r 0 ++ mulP u.2 t.2).length ≤ 110 := hlm; omega) (hLn2.le (by decide)) fun H11 b11 tb11 => ?_
            have k11 := b11.tk (tb.ex e10).noTup
            refine ⟨_, _, _, _, _, rfl, rfl, b11.ex (e0.trans e10) nq0, (tk.trans e10.tk).trans k11, (tk2.trans e10.tk).trans k11, (ty.ex e10).mono k11, (tz.ex e10).mono k11, ?_⟩
            rw [layAll_take hg]; exact tb11
          · rintro Ht σ3 H9 et ⟨a1, a3, a4, a5, a6, rfl, _, e0, tk, tk2, ty, tz, tb⟩
            have : ((T.map (dTerm n)).length) = (T.map (onePr n u)).length := by simp
            rw [this, List.take_length] at tb
            exact ⟨_, _, _, _, _, _, rfl, e0, tk, tb⟩
        · rintro Hs' σ2 H8 es ⟨a1, a2, a3, a4, a5, a6, rfl, e0, tk, tb⟩
          rw [List.length_map, List.take_length] at tb
          refine J _ _ ⟨_, _, _, _, _, _, _, rfl, e0, tb, ?_, hd.symm⟩
          have h1 := layAll_len (prodL n S T) []
          have h2 : (prodL n S T).length ≤ 8 * 8 := by rw [prodL_len]; exact Nat.mul_le_mul hS.len hT.len
          simp at h1; omega
      · have hk5 : ¬ A.kind < 5 := by simp at hb; omega
        refine s_ifJ (fun σ' H' => ∃ a1 a2 a3 a4 a5 a6 T', σ' = [some (.ref a), some v0, some w0, some (.int n), some (.int (A.kind : Nat)), some u2, some u3, some (.ref q), a1, a2, a3, a4, a5, a6] ∧ Ex H H' ∧ Tb P w H' q n T' ∧ T'.length ≤ 5000 ∧ listT T' = dueF n A S T) (evt_test (evd_eqI (evd_var rfl (.int _)) evd_int)) J (fun hb H8 e8 J => ?_) (fun hb H8 e8 J => ?_)
        · -- scaled
          have hk : A.kind = 5 := by simp at hb; omega
          have hd : dueF n A S T = listT (layAll [] (scaleL S A.p)) := by unfold dueF; rw [if_neg hk2, if_neg hk5, if_pos hk]
          refine s_forT (evd_var rfl (t0.ex (e05.trans ((e6.trans e7).trans e8)))) (fun Hs' i σ' H' => ∃ a1 a2 a3 a4 a5 a6, σ' = [some (.ref a), some v0, some w0, some (.int n), some (.int (A.kind : Nat)), some u2, some u3, some (.ref q), a1, a2, a3, a4, a5, a6] ∧ Ex H H' ∧ TK Hs' H' ∧ Tp H' u3 (dP A.p) ∧ Tb P w H' q n (layAll [] ((scaleL S A.p).take i))) (fun Hs' es => ⟨_, _, _, _, _, _, rfl, (e05.trans ((e6.trans e7).trans e8)).trans es, TK.refl _, (tp.ex ((e6.trans e7).trans e8)).ex es, (tb5.ex ((e6.trans e7).trans e8)).ex es⟩) (fun _ _ _ _ ⟨_, _, _, _, _, _, _, _, k, _⟩ => k) ?_ ?_
          · rintro Hs' i d x σ2 Hz es hd ⟨a1, a2, a3, a4, a5, a6, rfl, e0, tk, tp, tb⟩ tx
            obtain ⟨u, hu, rfl⟩ := dSum_get hd
            have hu' := List.mem_of_getElem? hu
            refine g_tup2 (tp_Term tx) fun y z ty tz => ?_
            have hg : (scaleL S A.p)[i]? = some (u.1, mulP u.2 A.p) := by unfold scaleL; rw [List.getElem?_map, hu]; rfl
            refine s_lay rfl (evd_var rfl ty) (evd_callD (eva_cons (evd_var rfl tz) (eva_cons (evd_var rfl tp) eva_nil)) ⟨u.2, A.p, rfl, by have := hS.rows u hu'; omega, by have := hA.rlen; omega, hS.b u hu', fun c hc => Nat.lt_trans (hA.rbd c hc) (Nat.lt_of_lt_of_le (show 100 < 2 ^ 7 by decide) (Nat.pow_le_pow_right (by decide) (by decide))), rfl⟩) tb (by have := lay_take_len (L := scaleL S A.p) (i := i) (b := 10) (by unfold scaleL; have := hS.len; simp; omega); omega) (by have := (scale_Ln hA hS) _ (List.mem_of_getElem? hg); simp at this ⊢; omega) ((((scale_Ln hA hS)).take i).lay.le (by decide)) fun Hy by_ tby => ?_
            have ky := by_.tk tb.noTup
            refine ⟨_, _, _, _, _, _, rfl, by_.ex e0 nq0, tk.trans ky, tp.mono ky, ?_⟩
            rw [layAll_take hg]; exact tby
          · rintro Hs' σ2 Hz es ⟨a1, a2, a3, a4, a5, a6, rfl, e0, tk, tp, tb⟩
            have el : (S.map (dTerm n)).length = (scaleL S A.p).length := by unfold scaleL; simp
            rw [el, List.take_length] at tb
            refine J _ _ ⟨_, _, _, _, _, _, _, rfl, e0, tb, ?_, hd.symm⟩
            have h1 := layAll_len (scaleL S A.p) []
            have := hS.len
            have h2 : (scaleL S A.p).length = S.length := by unfold scaleL; simp
            simp at h1; omega
        · have hk5' : ¬ A.kind = 5 := by simp at hb; omega
          refine s_ifJ (fun σ' H' => ∃ a1 a2 a3 a4 a5 a6 T', σ' = [some (.ref a), some v0, some w0, some (.int n), some (.int (A.kind : Nat)), some u2, some u3, some (.ref q), a1, a2, a3, a4, a5, a6] ∧ Ex H H' ∧ Tb P w H' q n T' ∧ T'.length ≤ 5000 ∧ listT T' = dueF n A S T) (evt_test (evd_eqI (evd_var rfl (.int _)) evd_int)) J (fun hb H9 e9 J => ?_) (fun hb H9 e9 J => ?_)
          · -- flipped
            have hk : A.kind = 6 := by simp at hb; omega
            have hd : dueF n A S T = listT (layAll [] (flipL n S)) := by unfold dueF; rw [if_neg hk2, if_neg hk5, if_neg hk5', if_pos hk]
            refine s_forT (evd_var rfl (t0.ex (e05.trans (((e6.trans e7).trans e8).trans e9)))) (fun Hs' i σ' H' => ∃ a1 a2 a3 a4 a5 a6, σ' = [some (.ref a), some v0, some w0, some (.int n), some (.int (A.kind : Nat)), some u2, some u3, some (.ref q), a1, a2, a3, a4, a5, a6] ∧ Ex H H' ∧ TK Hs' H' ∧ Tp H' u3 (dP A.p) ∧ Tb P w H' q n (layAll [] ((flipL n S).take i))) (fun Hs' es => ⟨_, _, _, _, _, _, rfl, (e05.trans (((e6.trans e7).trans e8).trans e9)).trans es, TK.refl _, (tp.ex (((e6.trans e7).trans e8).trans e9)).ex es, (tb5.ex (((e6.trans e7).trans e8).trans e9)).ex es⟩) (fun _ _ _ _ ⟨_, _, _, _, _, _, _, _, k, _⟩ => k) ?_ ?_
            · rintro Hs' i d x σ2 Hz es hd ⟨a1, a2, a3, a4, a5, a6, rfl, e0, tk, tp, tb⟩ tx
              obtain ⟨u, hu, rfl⟩ := dSum_get hd
              have hu' := List.mem_of_getElem? hu
              refine g_tup2 (tp_Term tx) fun y z ty tz => ?_
              have hg : (flipL n S)[i]? = some (downM n u.1, u.2) := by unfold flipL; rw [List.getElem?_map, hu]; rfl
              refine s_lay rfl (evd_callD (eva_cons (evd_var rfl ty) eva_nil) ⟨n, u.1, rfl, h6, okM_len (hS.ok.mat hu'), okM_lt (hS.ok.mat hu'), rfl⟩) (evd_var rfl tz) tb (by have := lay_take_len (L := flipL n S) (i := i) (b := 10) (by unfold flipL; have := hS.len; simp; omega); omega) (by have := (flip_Ln (k := 110) (hS.ln (by decide))) _ (List.mem_of_getElem? hg); simp at this ⊢; omega) ((((flip_Ln (k := 110) (hS.ln (by decide)))).take i).lay.le (by decide)) fun Hy by_ tby => ?_
              have ky := by_.tk tb.noTup
              refine ⟨_, _, _, _, _, _, rfl, by_.ex e0 nq0, tk.trans ky, tp.mono ky, ?_⟩
              rw [layAll_take hg]; exact tby
            · rintro Hs' σ2 Hz es ⟨a1, a2, a3, a4, a5, a6, rfl, e0, tk, tp, tb⟩
              have el : (S.map (dTerm n)).length = (flipL n S).length := by unfold flipL; simp
              rw [el, List.take_length] at tb
              refine J _ _ ⟨_, _, _, _, _, _, _, rfl, e0, tb, ?_, hd.symm⟩
              have h1 := layAll_len (flipL n S) []
              have := hS.len
              have h2 : (flipL n S).length = S.length := by unfold flipL; simp
              simp at h1; omega
          · have hk6 : ¬ A.kind = 6 := by simp at hb; omega
            have e59 := ((e6.trans e7).trans e8).trans e9
            refine s_if (evt_test (evd_eqI (evd_var rfl (.int _)) evd_int)) (fun hb H10 e10 => ?_) (fun hb H10 e10 => ?_)
            · have hk : A.kind = 7 := by simp at hb; omega
              have hd : dueF n A S T = [((wordV n A.w).2, List.replicate (wordV n A.w).1 0 ++ [1])] := by unfold dueF; rw [if_neg hk2, if_neg hk5, if_neg hk5', if_neg hk6, if_pos hk]
              rw [hd] at k
              refine s_ret (evd_callD (eva_cons (evd_var rfl (.int _)) (eva_cons (evd_ixL (evv_var rfl) (la5.ex (e59.trans e10)) evd_int rfl) eva_nil)) ⟨n, A.w, rfl, h2, h6, by have := hA.wl; omega, hA.wh, rfl⟩) fun v H11 e11 t11 => k v H11 ((e05.trans (e59.trans e10)).trans e11) t11
            · have hk : ¬ A.kind = 7 := by simp at hb; omega
              have hd : dueF n A S T = [(A.M, [1])] := by unfold dueF; rw [if_neg hk2, if_neg hk5, if_neg hk5', if_neg hk6, if_neg hk]
              rw [hd] at k
              refine s_ret (evd_tup (eva_cons (evd_tup (eva_cons (evd_var rfl (tM.ex (e59.trans e10))) (eva_cons (evd_tup (eva_cons evd_int eva_nil)) eva_nil))) eva_nil)) fun v H11 e11 t11 => k v H11 ((e05.trans (e59.trans e10)).trans e11) t11
end
end Hk


namespace Hk
open PySem PySem.Spec PyProof.Rows L2
/-! ### _law_same -/
theorem k_tuple_T : kitB "tuple" "tuple" = some true := by decide +kernel
theorem k_tuple_L : kitB "tuple" "list" = some false := by decide +kernel
theorem k_tuple_S : kitB "tuple" "str" = some false := by decide +kernel
theorem k_list_T : kitB "list" "tuple" = some false := by decide +kernel
theorem k_list_L : kitB "list" "list" = some true := by decide +kernel
theorem k_list_S : kitB "list" "str" = some false := by decide +kernel
theorem k_int_T : kitB "int" "tuple" = some false := by decide +kernel
theorem k_int_L : kitB "int" "list" = some false := by decide +kernel
theorem k_int_S : kitB "int" "str" = some false := by decide +kernel
theorem k_int_I : kitB "int" "int" = some true := by decide +kernel
theorem k_bool_T : kitB "bool" "tuple" = some false := by decide +kernel
theorem k_bool_L : kitB "bool" "list" = some false := by decide +kernel
theorem k_bool_S : kitB "bool" "str" = some false := by decide +kernel
theorem k_NoneType_T : kitB "NoneType" "tuple" = some false := by decide +kernel
theorem k_NoneType_L : kitB "NoneType" "list" = some false := by decide +kernel
theorem k_NoneType_S : kitB "NoneType" "str" = some false := by decide +kernel
/-- data, or a list of data -/
def Dl (H : Hp) (v : V) (d : PyData) : Prop := Tp H v d ∨ ∃ l ds, v = .ref l ∧ d = .list ds ∧ Ls H l ds
theorem Dl.ex {H H' : Hp} {v : V} {d : PyData} (e : Ex H H') (h : Dl H v d) : Dl H' v d := h.elim (fun h => .inl (h.ex e)) fun ⟨l, ds, a, b, c⟩ => .inr ⟨l, ds, a, b, c.ex e⟩
inductive Okd : Nat → PyData → Prop where
  | int {m : Nat} (i : Int) : Okd (m + 1) (.int i)
  | bl {m : Nat} (b : Bool) : Okd (m + 1) (.bool b)
  | non {m : Nat} : Okd (m + 1) .none
  | tup {m : Nat} {ds : List PyData} (h : ds.length ≤ 1000) (r : ∀ d ∈ ds, Okd m d) : Okd (m + 1) (.tuple ds)
  | lst {m : Nat} {ds : List PyData} (h : ds.length ≤ 1000) (r : ∀ d ∈ ds, Okd m d) : Okd (m + 1) (.list ds)
def tyS : PyData → String
  | .tuple _ => "tuple"
  | .list _ => "list"
  | .int _ => "int"
  | .bool _ => "bool"
  | _ => "NoneType"
theorem Dl.ty {K : PySem.W.Frag} {H : Hp} {v : V} {d : PyData} (h : Dl H v d) : TyX K H v (.type (tyS d)) := by
  rcases h with h | ⟨l, ds, rfl, rfl, xs, hx, _⟩
  · cases h with
    | non => exact .base .non
    | bl b => exact .base (.bl b)
    | int i => exact .base (.int i)
    | tup h r =>
      rcases h with h | ⟨o, h⟩
      · exact .base (.tup h)
      · exact .fTuple h
  · exact .base (.lst hx)
section
variable {K : PySem.W.Frag} {σ : L2.St} {H : Hp} {ta : TE} {v : V} {d : PyData}
theorem evd_isi {n : String} {b : Bool} (ha : EvV ta σ H v) (hd : Dl H v d) (hk : kitB (tyS d) n = some b) : EvD (tCB (rIsi K) (tCons ta (tCons (tC (.ty n)) tNil))) σ H (.bool b) :=
  fun H1 e1 Q q => ha H1 e1 _ fun H2 e2 => ⟨v, .ty n, .type (tyS d), .type n, b, rfl, .ty n, (hd.ex (e1.trans e2)).ty, kit_ty hk, q _ H2 e2 (.bl _)⟩
theorem evd_isiTL {b b1 b2 : Bool} (ha : EvV ta σ H v) (hd : Dl H v d) (h1 : kitB (tyS d) "tuple" = some b1) (h2 : kitB (tyS d) "list" = some b2) (hb : b = (b1 || b2)) :
    EvD (tCB (rIsiT K) (tCons ta (tCons (tTup (tCons (tC (.ty "tuple")) (tCons (tC (.ty "list")) tNil))) tNil))) σ H (.bool b) :=
  fun H1 e1 Q q => ha H1 e1 _ fun H2 e2 => ⟨by show 2 ≤ sizeLine; decide, fun p hp => ⟨v, p, [.ty "tuple", .ty "list"], .type (tyS d), [.type "tuple", .type "list"], b, rfl, upd_same, .cons (.ty _) (.cons (.ty _) .nil), (hd.ex ((e1.trans e2).trans (Ex.new hp))).ty,
    kitAny_cons (kit_ty h1) (fun e => kitAny_cons (kit_ty h2) (fun e2 => by rw [hb, e, e2]; rfl) fun e2 => by rw [hb, e2]; simp) fun e => by rw [hb, e]; rfl, q _ _ (e2.trans (Ex.new hp)) (.bl _)⟩⟩
theorem evd_isAV {b : Bool} {k : Bool} (ha : EvV ta σ H v) (hk : decide (v = .bl b) = k) : EvD (tOp rIsA ta (tC (.bl b))) σ H (.bool k) :=
  fun H1 e1 Q q => ha H1 e1 _ fun H2 e2 => ⟨b, rfl, by rw [hk]; exact q _ H2 e2 (.bl _)⟩
theorem evd_isnotAV {b : Bool} {k : Bool} (ha : EvV ta σ H v) (hk : decide (v = .bl b) = k) : EvD (tOp rIsnotA ta (tC (.bl b))) σ H (.bool (!k)) :=
  fun H1 e1 Q q => ha H1 e1 _ fun H2 e2 => ⟨b, rfl, by rw [hk]; exact q _ H2 e2 (.bl _)⟩
theorem evd_isNV {k : Bool} (ha : EvV ta σ H v) (hk : decide (v = .non) = k) : EvD (tOp (fun x y H Q => y = .non ∧ Q (.bl (decide (x = .non))) H) ta (tC .non)) σ H (.bool k) :=
  fun H1 e1 Q q => ha H1 e1 _ fun H2 e2 => ⟨rfl, by rw [hk]; exact q _ H2 e2 (.bl _)⟩
/-- the items of a tuple, of a list -/
def itemsOf : PyData → List PyData
  | .tuple ds => ds
  | .list ds => ds
  | _ => []
theorem evd_lenS2 (ha : EvV ta σ H v) (hd : Dl H v d) (hs : d = .tuple (itemsOf d) ∨ d = .list (itemsOf d)) : EvD (tCB (rLenA K) (tCons ta tNil)) σ H (.int ((itemsOf d).length : Int)) := by
  rcases hd with h | ⟨l, ds, rfl, rfl, hl⟩
  · rcases hs with hs | hs
    · rw [hs] at h
      exact evd_lenT (fun H1 e1 Q q => ha H1 e1 _ fun H2 e2 => q v H2 e2 (h.ex (e1.trans e2)))
    · rw [hs] at h; cases h
  · exact evd_lenL ha hl
theorem evv_ixS2 {tb : TE} {i : Nat} {e : PyData} (ha : EvV ta σ H v) (hd : Dl H v d) (hb : EvD tb σ H (.int i)) (hi : (itemsOf d)[i]? = some e) : ∀ H1, Ex H H1 → ∀ Q : VK, (∀ u H2, Ex H1 H2 → Dl H2 u e → Q u H2) → tOp (rIx K) ta tb σ H1 Q := by
  intro H1 e1 Q q
  rcases hd with h | ⟨l, ds, rfl, rfl, hl⟩
  · cases h with
    | non => simp [itemsOf] at hi
    | bl b => simp [itemsOf] at hi
    | int j => simp [itemsOf] at hi
    | @tup a xs ds h r =>
      refine ha H1 e1 _ fun H2 e2 => hb H2 (e1.trans e2) _ fun y H3 e3 ty => .inr (.inl ?_)
      obtain ⟨u, hu, tu⟩ := (r.ex ((e1.trans e2).trans e3)).get hi
      exact ⟨a, xs, i, u, rfl, ty.int_inv, .inl (((e1.trans e2).trans e3).tk.rd h), at_nat hu, q u H3 (e2.trans e3) (.inl tu)⟩
  · refine ha H1 e1 _ fun H2 e2 => hb H2 (e1.trans e2) _ fun y H3 e3 ty => .inl ?_
    obtain ⟨xs, hx, r⟩ := hl.ex ((e1.trans e2).trans e3)
    obtain ⟨u, hu, tu⟩ := r.get hi
    exact ⟨l, xs, i, u, rfl, ty.int_inv, SqL.of hx, at_nat hu, q u H3 (e2.trans e3) (.inl tu)⟩
end
abbrev sp_same (m : Nat) : Sp := spP fun H vs d => ∃ v v' dd, vs = [v, v'] ∧ Dl H v dd ∧ Dl H v' dd ∧ Okd m dd ∧ d = .bool true
local macro_rules | `(tactic| walk_at "tp") => `(tactic| first | assumption | exact .int _ | exact .bl _ | solve_by_elim (maxDepth := 6) [Tp.ex])
section
variable {P : Program} {w : World} {K : PySem.W.Frag} {mg : Str → Option Value} {base : Heap}
theorem sc_law_same : FnScope ["_law_found", "_law_due_here", "_law_k"] ["_law_found", "_law_due_here"] (defScope (top 48)) := ⟨rfl, rfl, rfl, by decide +kernel, rfl, by decide +kernel, by decide +kernel⟩
theorem w_law_same_base (D : DefIn K mg "_law_same" (top 48)) : Cal P w K mg base CX0 0 "_law_same" ["_law_found", "_law_due_here"] (sp_same 0) := by
  obtain ⟨f, fd, F, g⟩ := D.ex
  refine ⟨f, fd, ⟨fun vs H Q E h => ?_, fun A outer s H args us vs Q E hr he hb hv h => ?_⟩, g, F.kp, F.binds (ps := ["_law_found", "_law_due_here"]) fun _ _ _ _ _ _ us hl => match us, hl with | [_, _], _ => rfl⟩
  · obtain ⟨d, ⟨v, v', dd, rfl, _⟩, _⟩ := h
    rfl
  · obtain ⟨d, ⟨v, v', dd, rfl, _, _, ok, _⟩, _⟩ := h
    cases ok
theorem w_law_same_step (B : Bt mg) (D : DefIn K mg "_law_same" (top 48)) {m kk : Nat} (C_law_same : Cal P w K mg base CX0 kk "_law_same" ["_law_found", "_law_due_here"] (sp_same m)) : Cal P w K mg base CX0 (kk + 1) "_law_same" ["_law_found", "_law_due_here"] (sp_same (m + 1)) := by
  obtain ⟨f, fd, F, g⟩ := D.ex
  refine ⟨f, fd, F.ok sc_law_same (fun vs H Q E h => ?_) (fun cdv A outer s H vs Q E hr h => ?_), g, F.kp, F.binds (ps := ["_law_found", "_law_due_here"]) fun _ _ _ _ _ _ us hl => match us, hl with | [_, _], _ => rfl⟩
  · obtain ⟨d, ⟨v, v', dd, rfl, _⟩, _⟩ := h
    rfl
  · obtain ⟨d, ⟨v, v', dd, rfl, dv, dv', ok, rfl⟩, k⟩ := h
    refine ⟨_, (pss_cons (ps_if (pt_val (pe_callB call_isiT (by rfl) B.isinstance (by decide +kernel) (pa_cons (pv 1) (pa_cons (pe_tup (pa_cons (pe_bltn (v := .ty "tuple") (by rfl) B.tuple boot_tuple rfl) (pa_cons (pe_bltn (v := .ty "list") (by rfl) B.list boot_list rfl) pa_nil))) pa_nil))))
  (pss_cons (ps_if (PW.pt (pw_or (pt_cmpR op_ne (pe_callB call_isi (by rfl) B.isinstance (by decide +kernel) (pa_cons (pv 0) (pa_cons (pe_bltn (v := .ty "tuple") (by rfl) B.tuple boot_tuple rfl) pa_nil))) (pe_callB call_isi (by rfl) B.isinstance (by decide +kernel) (pa_cons (pv 1) (pa_cons (pe_bltn (v := .ty "tuple") (by rfl) B.tuple boot_tuple rfl) pa_nil))) (nomark _)) (pw_or1 (pt_cmpR op_ne (pe_callB call_isi (by rfl) B.isinstance (by decide +kernel) (pa_cons (pv 0) (pa_cons (pe_bltn (v := .ty "list") (by rfl) B.list boot_list rfl) pa_nil))) (pe_callB call_isi (by rfl) B.isinstance (by decide +kernel) (pa_cons (pv 1) (pa_cons (pe_bltn (v := .ty "list") (by rfl) B.list boot_list rfl) pa_nil))) (nomark _)))))
  (pss_one (ps_ret pe_bl))
  pss_nil)
  (pss_cons (ps_if (pt_cmpR op_ne (pe_callB call_lenA (by rfl) B.len PySem.boot_len (pa_cons (pv 0) pa_nil)) (pe_callB call_lenA (by rfl) B.len PySem.boot_len (pa_cons (pv 1) pa_nil)) (nomark _))
  (pss_one (ps_ret pe_bl))
  pss_nil)
  (pss_one (ps_ret (pe_callB (cr_all rfl) (by rfl) B.all (by decide +kernel) (pa_cons (pe_lc (own := [("_law_k", 2)]) (g := (gName 2)) rfl sc_law_same.nd (pi_range1 (by rfl) B.range (pa_cons (pe_callB call_lenA (by rfl) B.len PySem.boot_len (pa_cons (pv 1) pa_nil)) pa_nil)) (blkOk_by (N := ["_law_found", "_law_due_here", "_law_k"]) (sc := defScope (top 48)) (by decide +kernel)) (fun _ _ _ _ _ => (pg_name (i := 2) sc_law_same.nd rfl (Or.inl rfl))) (fun _ _ _ _ _ => pts_nil) (fun _ _ _ _ _ => (pe_callC C_law_same hr pass0 (pa_cons (pe_ix (ix_seqK (K := K) rfl) (pv 0) (pv 2) (fun _ _ => rfl)) (pa_cons (pe_ix (ix_seqK (K := K) rfl) (pv 1) (pv 2) (fun _ _ => rfl)) pa_nil))))) pa_nil))))))
  pss_nil)
  (pss_cons (ps_if (PW.pt (pw_or (pt_cmpR op_isN (pv 1) pe_non (nomark _)) (pw_or (pt_cmpR op_isA (pv 1) pe_bl (nomark _)) (pw_or1 (pt_cmpR op_isA (pv 1) pe_bl (nomark _))))))
  (pss_one (ps_ret (pe_or (pe_and (pe_cmpR op_isN (pv 1) pe_non (nomark _)) (pe_one (pe_cmpR op_isN (pv 0) pe_non (nomark _)))) (pe_or (pe_and (pe_cmpR op_isA (pv 1) pe_bl (nomark _)) (pe_one (pe_cmpR op_isA (pv 0) pe_bl (nomark _)))) (pe_one (pe_and (pe_cmpR op_isA (pv 1) pe_bl (nomark _)) (pe_one (pe_cmpR op_isA (pv 0) pe_bl (nomark _)))))))))
  pss_nil)
  (pss_cons (ps_if (pt_val (pe_callB call_isi (by rfl) B.isinstance (by decide +kernel) (pa_cons (pv 1) (pa_cons (pe_bltn (v := .ty "str") (by rfl) B.str boot_str rfl) pa_nil))))
  (pss_one (ps_ret (pe_and (pe_callB call_isi (by rfl) B.isinstance (by decide +kernel) (pa_cons (pv 0) (pa_cons (pe_bltn (v := .ty "str") (by rfl) B.str boot_str rfl) pa_nil))) (pe_one (pe_cmpR (op_eqD hr.units) (pv 0) (pv 1) (nomark _))))))
  pss_nil)
  (pss_one (ps_ret (pe_and (pe_callB call_isi (by rfl) B.isinstance (by decide +kernel) (pa_cons (pv 0) (pa_cons (pe_bltn (v := .ty "int") (by rfl) B.int boot_int rfl) pa_nil))) (pe_and (pe_cmpR op_isnotA (pv 0) pe_bl (nomark _)) (pe_and (pe_cmpR op_isnotA (pv 0) pe_bl (nomark _)) (pe_one (pe_cmpR (op_eqD hr.units) (pv 0) (pv 1) (nomark _))))))))))), ?_⟩
    by_cases hs : dd = .tuple (itemsOf dd) ∨ dd = .list (itemsOf dd)
    · obtain ⟨b1, b2, h1, h2, h12, hl, hr'⟩ : ∃ b1 b2, kitB (tyS dd) "tuple" = some b1 ∧ kitB (tyS dd) "list" = some b2 ∧ (b1 || b2) = true ∧ (itemsOf dd).length ≤ 1000 ∧ ∀ e ∈ itemsOf dd, Okd m e := by
        cases ok with
        | tup h r => exact ⟨true, false, k_tuple_T, k_tuple_L, rfl, h, r⟩
        | lst h r => exact ⟨false, true, k_list_T, k_list_L, rfl, h, r⟩
        | int i => simp at hs
        | bl b => simp at hs
        | non => simp at hs
      refine s_seq (s_if (b := true) (evt_test (evd_isiTL (evv_var rfl) dv' h1 h2 h12.symm)) (fun _ H1 e1 => ?_) (fun q => by cases q))
      have a1 := dv.ex e1
      have a2 := dv'.ex e1
      refine s_seq (s_if (b := false) (EvT.is (evt_or (evt_test (evd_neB (evd_isi (evv_var rfl) a1 h1) (evd_isi (evv_var rfl) a2 h1))) fun _ => (evt_test (evd_neB (evd_isi (evv_var rfl) a1 h2) (evd_isi (evv_var rfl) a2 h2)))) (by simp)) (fun q => by cases q) fun _ H2 e2 => s_next ?_)
      have a1 := a1.ex e2
      have a2 := a2.ex e2
      refine s_seq (s_if (b := false) (EvT.is (evt_test (evd_neI (evd_lenS2 (evv_var rfl) a1 hs) (evd_lenS2 (evv_var rfl) a2 hs))) (by simp)) (fun q => by cases q) fun _ H3 e3 => s_next ?_)
      have a1 := a1.ex e3
      have a2 := a2.ex e3
      dsimp only
      refine s_ret (EvD.is (d := .bool ((List.replicate (itemsOf dd).length true).all id)) (evd_allN ?_) (by simp)) fun v H4 e4 t4 => k v H4 (((e1.trans e2).trans e3).trans e4) t4
      have el : (List.replicate (itemsOf dd).length true).map PyData.bool = (((List.replicate (itemsOf dd).length true).map PyData.bool).map some).filterMap id := (filt_all _).symm
      rw [el]
      refine evn_lcR (n := (itemsOf dd).length) (evd_lenS2 (evv_var rfl) a2 hs) (by simp) (by simp; omega) fun i o H' e' ho => ⟨_, fun R r => r, rfl, ?_⟩
      have hi : i < (itemsOf dd).length := by have := lt_of_get ho; simpa using this
      have ho2 : o = some (.bool true) := by
        rw [List.getElem?_map, List.getElem?_map, List.getElem?_replicate, if_pos hi] at ho
        exact (Option.some.inj ho).symm
      subst ho2
      refine ⟨evt_yes, fun e he => ?_⟩
      cases he
      have hg : (itemsOf dd)[i]? = some (itemsOf dd)[i] := List.getElem?_eq_getElem hi
      intro H5 e5 Q' q'
      refine x_call (x_cons (evv_ixS2 (evv_var rfl) (a1.ex e') (evd_var rfl (.int _)) hg H5 e5 _ fun u H6 e6 du => x_cons (evv_ixS2 (evv_var rfl) (a2.ex e') (evd_var rfl (.int _)) hg H6 (e5.trans e6) _ fun u' H7 e7 du' => x_nil ?_)))
      exact ⟨_, ⟨u, u', _, rfl, du.ex e7, du', hr' _ (List.getElem_mem hi), rfl⟩, fun v H8 e8 tv => q' v H8 ((e6.trans e7).trans e8) tv⟩
    · have notS : ∀ (b : Bool), kitB (tyS dd) "tuple" = some false ∧ kitB (tyS dd) "list" = some false ∧ kitB (tyS dd) "str" = some false := fun _ => by
        cases ok with
        | tup h r => exact absurd (.inl rfl) hs
        | lst h r => exact absurd (.inr rfl) hs
        | int i => exact ⟨k_int_T, k_int_L, k_int_S⟩
        | bl b => exact ⟨k_bool_T, k_bool_L, k_bool_S⟩
        | non => exact ⟨k_NoneType_T, k_NoneType_L, k_NoneType_S⟩
      obtain ⟨n1, n2, n3⟩ := notS true
      refine s_seq (s_if (b := false) (evt_test (evd_isiTL (evv_var rfl) dv' n1 n2 rfl)) (fun q => by cases q) fun _ H1 e1 => s_next ?_)
      have a1 := dv.ex e1
      have a2 := dv'.ex e1
      have tp : ∀ {H : Hp} {v : V}, Dl H v dd → Tp H v dd := fun {H v} h => by
        rcases h with h | ⟨l, ds, _, rfl, _⟩
        · exact h
        · exact absurd (.inr rfl) hs
      cases ok with
      | tup h r => exact absurd (.inl rfl) hs
      | lst h r => exact absurd (.inr rfl) hs
      | int i =>
        cases (tp a1).int_inv; cases (tp a2).int_inv
        have f0 : decide (V.int i = .non) = false := decide_eq_false (by intro q; cases q)
        have f1 : ∀ b, decide (V.int i = .bl b) = false := fun b => decide_eq_false (by intro q; cases q)
        refine s_seq (s_if (b := false) (evt_or (b := false) (evt_test (evd_isNV (evv_var rfl) f0)) fun _ => evt_or (b := false) (evt_test (evd_isAV (evv_var rfl) (f1 true))) fun _ => evt_test (evd_isAV (evv_var rfl) (f1 false))) (fun q => by cases q) fun _ H2 e2 => s_next ?_)
        refine s_seq (s_if (b := false) (evt_test (evd_isi (evv_var rfl) (a2.ex e2) n3)) (fun q => by cases q) fun _ H3 e3 => s_next ?_)
        dsimp only
        refine s_ret (EvD.is (d := .bool (true && (!false && (!false && true)))) (evd_and (evd_isi (evv_var rfl) ((a1.ex e2).ex e3) k_int_I) fun _ => evd_and (evd_isnotAV (evv_var rfl) (f1 true)) fun _ => evd_and (evd_isnotAV (evv_var rfl) (f1 false)) fun _ => evd_eqD (evd_var rfl (.int i)) (evd_var rfl (.int i)) (sh_int i) (sh_int i) (by show (i == i) = true; simp)) rfl) fun v H4 e4 t4 => k v H4 (((e1.trans e2).trans e3).trans e4) t4
      | bl b =>
        cases (tp a1).bl_inv; cases (tp a2).bl_inv
        have f0 : decide (V.bl b = .non) = false := decide_eq_false (by intro q; cases q)
        have f1 : ∀ c, decide (V.bl b = .bl c) = decide (b = c) := fun c => decide_eq_decide.mpr ⟨fun q => by cases q; rfl, fun q => by rw [q]⟩
        refine s_seq (s_if (b := true) (EvT.is (evt_or (evt_test (evd_isNV (evv_var rfl) f0)) fun _ => evt_or (evt_test (evd_isAV (evv_var rfl) (f1 true))) fun _ => evt_test (evd_isAV (evv_var rfl) (f1 false))) (by cases b <;> rfl)) (fun _ H2 e2 => ?_) fun q => by cases q)
        refine s_ret (EvD.is (evd_or (evd_and (evd_isNV (evv_var rfl) f0) fun _ => evd_isNV (evv_var rfl) f0) fun _ => evd_or (evd_and (evd_isAV (evv_var rfl) (f1 true)) fun _ => evd_isAV (evv_var rfl) (f1 true)) fun _ => evd_and (evd_isAV (evv_var rfl) (f1 false)) fun _ => evd_isAV (evv_var rfl) (f1 false)) (by cases b <;> rfl)) fun v H4 e4 t4 => k v H4 ((e1.trans e2).trans e4) t4
      | non =>
        have hv := (tp a1).non_inv
        have hv' := (tp a2).non_inv
        subst hv; subst hv'
        have f0 : decide (V.non = .non) = true := decide_eq_true rfl
        have f1 : ∀ c, decide (V.non = .bl c) = false := fun c => decide_eq_false (by intro q; cases q)
        refine s_seq (s_if (b := true) (EvT.is (evt_or (evt_test (evd_isNV (evv_var rfl) f0)) fun _ => evt_or (evt_test (evd_isAV (evv_var rfl) (f1 true))) fun _ => evt_test (evd_isAV (evv_var rfl) (f1 false))) rfl) (fun _ H2 e2 => ?_) fun q => by cases q)
        refine s_ret (EvD.is (evd_or (evd_and (evd_isNV (evv_var rfl) f0) fun _ => evd_isNV (evv_var rfl) f0) fun _ => evd_or (evd_and (evd_isAV (evv_var rfl) (f1 true)) fun _ => evd_isAV (evv_var rfl) (f1 true)) fun _ => evd_and (evd_isAV (evv_var rfl) (f1 false)) fun _ => evd_isAV (evv_var rfl) (f1 false)) rfl) fun v H4 e4 t4 => k v H4 ((e1.trans e2).trans e4) t4
end
end Hk


namespace Hk
open PySem PySem.Spec PyProof.Rows L2
theorem okd_P {m : Nat} (p : List Int) (h : p.length ≤ 1000) : Okd (m + 2) (dP p) := .tup (by simpa using h) fun d hd => by
  obtain ⟨c, _, rfl⟩ := List.mem_map.mp hd
  exact .int c
theorem okd_N {m : Nat} (p : List Nat) (h : p.length ≤ 1000) : Okd (m + 2) (dN p) := .tup (by simpa using h) fun d hd => by
  obtain ⟨c, _, rfl⟩ := List.mem_map.mp hd
  exact .int c
theorem okd_Mat {m : Nat} (n : Nat) (M : List Nat) (h : M.length ≤ 1000) : Okd (m + 3) (dMat n M) := .tup (by simp) fun d hd => by
  simp at hd
  rcases hd with rfl | rfl
  · exact .int _
  · exact okd_N M h
theorem okd_Term {m : Nat} (n : Nat) (t : List Nat × List Int) (h : t.1.length ≤ 1000) (h2 : t.2.length ≤ 1000) : Okd (m + 4) (dTerm n t) := .tup (by simp) fun d hd => by
  simp at hd
  rcases hd with rfl | rfl
  · exact okd_Mat n t.1 h
  · exact okd_P (m := m + 1) t.2 h2
theorem okd_Sum {m n : Nat} {S : Tab} (hS : okS n S) (hl : S.length ≤ 1000) (hr : Ln 1000 S) : Okd (m + 5) (dSum n S) := .tup (by simpa using hl) fun d hd => by
  obtain ⟨t, ht, rfl⟩ := List.mem_map.mp hd
  exact okd_Term n t (by have := okM_len (hS.mat ht); have := hS.n6; omega) (hr t ht)
theorem okd_Worth {m n : Nat} {S : Tab} {x : Int} (hS : okS n S) (hl : S.length ≤ 1000) : Okd (m + 5) (.list ((worthL S x).map (dWorth n))) := by
  have h1 : (worthL S x).length ≤ S.length := by unfold worthL; exact Nat.le_trans (List.length_filter_le _ _) (by simp)
  refine .lst (by rw [List.length_map]; omega) fun d hd => ?_
  obtain ⟨p, hp, rfl⟩ := List.mem_map.mp hd
  have hp2 := (List.mem_filter.mp hp).1
  obtain ⟨t, ht, rfl⟩ := List.mem_map.mp hp2
  refine .tup (by simp) fun d hd => ?_
  simp at hd
  rcases hd with rfl | rfl
  · exact okd_Mat n t.1 (by have := okM_len (hS.mat ht); have := hS.n6; omega)
  · exact .int _
theorem rows_of (S : Tab) (M : List Nat) : (((S.map fun t => if t.1 = M then some (dP t.2) else none).filterMap id) ++ [dP []])[0]? = some (dP ((tget S M).getD [])) := by
  induction S with
  | nil => rfl
  | cons t S ih =>
    rw [tget_cons]
    by_cases h : t.1 = M
    · rw [if_pos h, List.map_cons, if_pos h]; rfl
    · rw [if_neg h, List.map_cons, if_neg h]; exact ih
/-- the least upper bound of what is there -/
theorem max_of : ∀ {ns : List Int}, ns ≠ [] → ∃ m ∈ ns, ∀ y ∈ ns, y ≤ m
  | [], h => absurd rfl h
  | [a], _ => ⟨a, List.mem_cons_self .., fun y hy => by simp at hy; omega⟩
  | a :: b :: ns, _ => by
    obtain ⟨m, hm, hb⟩ := max_of (ns := b :: ns) (by simp)
    by_cases h : a ≤ m
    · exact ⟨m, List.mem_cons_of_mem _ hm, fun y hy => (List.mem_cons.mp hy).elim (fun e => by rw [e]; exact h) (hb y)⟩
    · exact ⟨a, List.mem_cons_self .., fun y hy => (List.mem_cons.mp hy).elim (fun e => by rw [e]; exact Int.le_refl _) fun q => by have := hb y q; omega⟩
theorem cut_last {ds : List PyData} {d : PyData} : cutD (ds ++ [d]) (some (-1)) none = [d] := by
  unfold cutD
  rw [HT.sIx_none]
  have e : HT.sIx (ds ++ [d]).length 0 (some (-1)) = ds.length := by
    unfold HT.sIx
    dsimp only
    rw [if_pos (by decide)]; simp; omega
  rw [e]; simp
theorem isSumF_twice {n : Nat} {S : Tab} {t : List Nat × List Int} (h : okS n (S ++ [t])) : isSumF none ((S ++ [t] ++ [t]).map fun t => (n, t)) = false := by
  have := isSumF_from n (S ++ [t]) none (fun t ht => (h.vt t ht).2) h.asc (fun _ _ q => by cases q) [(n, t)]
  rw [← List.map_singleton (f := fun t => (n, t)), ← List.map_append] at this
  rw [this, dif_neg (by simp)]
  have hlast : (S ++ [t]).getLast (by simp) = t := by simp
  rw [hlast]
  have ht := h.vt t (by simp)
  show (if t.2 = [] ∨ t.2.getLast? = some 0 then false else if n = n ∧ t.1 < t.1 then isSumF (some (n, t.1)) [] else false) = false
  rw [if_neg (fun q => q.elim ht.2.2 ht.2.1), if_neg (fun q => List.lt_irrefl _ q.2)]
local macro_rules | `(tactic| walk_at "tp") => `(tactic| first | assumption | exact .int _ | exact .bl _ | solve_by_elim (maxDepth := 6) [Tp.ex])
section
variable {P : Program} {w : World} {K : PySem.W.Frag} {mg : Str → Option Value} {base : Heap}
abbrev sp_law_looked : Sp := fun vs H Q _ => ∃ (a : Addr) (v v' : V) (n : Nat) (A : Ask) (S : Tab), vs = [.ref a, v, v'] ∧ Ls H a (A.data n) ∧ Tp H v (dSum n S) ∧ Tp H v' (dSum n S) ∧ AskOk n A ∧ Hs n S ∧ ∀ H', Ex H H' → Q (.bl true) H'
theorem sc_law_looked : FnScope ["_law_asking_here", "_law_left", "_law_told_left", "_law_kind", "_law_mesh", "_law_x", "_law_due_here", "_law_found", "_law_one_mat", "_law_row_here", "_law_pair"] ["_law_asking_here", "_law_left", "_law_told_left"] (defScope (top 66)) := ⟨rfl, rfl, rfl, by decide +kernel, rfl, by decide +kernel, by decide +kernel⟩
theorem w_law_looked (B : Bt mg) (D : DefIn K mg "_law_looked" (top 66)) (C_law_same : Cal P w K mg base CX0 7 "_law_same" ["_law_found", "_law_due_here"] (sp_same 7)) (C_part : Cal P w K mg base CX0 5 "part" ["told", "mat"] (sp_part)) (C_law_value : Cal P w K mg base CX0 1 "_law_value" ["_law_row_here", "_law_x"] (sp_law_value)) (C_at_worth : Cal P w K mg base CX0 5 "at_worth" ["told", "number"] (sp_at_worth)) (C_is_sum : Cal P w K mg base CX0 3 "is_sum" ["told"] (sp_is_sum))  : Cal P w K mg base CX0 9 "_law_looked" ["_law_asking_here", "_law_left", "_law_told_left"] (sp_law_looked) := by
  obtain ⟨f, fd, F, g⟩ := D.ex
  refine ⟨f, fd, F.ok sc_law_looked (fun vs H Q E h => ?_) (fun cdv A outer s H vs Q E hr h => ?_), g, F.kp, F.binds (ps := ["_law_asking_here", "_law_left", "_law_told_left"]) fun _ _ _ _ _ _ us hl => match us, hl with | [_, _, _], _ => rfl⟩
  · obtain ⟨a, v, v', n, A, S, rfl, _⟩ := h; rfl
  · obtain ⟨a, v0, w0, n, A, S, rfl, la, t0, t1, hA, hS, k⟩ := h
    refine ⟨_, (pss_cons (ps_asg (pe_tup (pa_cons (pe_ix ix_list (pv 0) pe_int (fun _ _ => rfl)) (pa_cons (pe_ix ix_list (pv 0) pe_int (fun _ _ => rfl)) (pa_cons (pe_ix ix_list (pv 0) pe_int (fun _ _ => rfl)) pa_nil)))) (pg_tup rfl (pgs_cons (pg_name (i := 3) sc_law_looked.nd rfl (Or.inl rfl)) (pgs_cons (pg_name (i := 4) sc_law_looked.nd rfl (Or.inr rfl)) (pgs_cons (pg_name (i := 5) sc_law_looked.nd rfl (Or.inr rfl)) pgs_nil)))))
  (pss_cons (ps_if (pt_cmpR op_eq (pv 3) pe_int (nomark _))
  (pss_cons (ps_if (PW.pt (pw_and (pt_cmpR (op_neD hr.units) (pv 1) (pe_tup pa_nil) (nomark _)) (pw_and1 (pt_cmpR op_gt (pv 5) pe_int (nomark _)))))
  (pss_one (ps_set (i := 4) sc_law_looked.nd rfl (Or.inr rfl) (pe_ix ix_tup (pe_ix ix_tup (pv 1) (pe_op op_mod (pe_callTy call_int1 (by rfl) B.int PyProof.Rows.boot_int (pa_cons (pv 5) pa_nil)) (pe_callB call_lenA (by rfl) B.len PySem.boot_len (pa_cons (pv 1) pa_nil))) (fun _ _ => rfl)) pe_int (fun _ _ => rfl))))
  pss_nil)
  (pss_cons (ps_set (i := 6) sc_law_looked.nd rfl (Or.inl rfl) (pe_op op_cat (pe_lc (own := [("_law_one_mat", 8), ("_law_row_here", 9)]) (g := (gTup K 2 (gCons (gName 8) (gCons (gName 9) gNil)))) rfl sc_law_looked.nd (pi_tup (pv 1)) (blkOk_by (N := ["_law_asking_here", "_law_left", "_law_told_left", "_law_kind", "_law_mesh", "_law_x", "_law_due_here", "_law_found", "_law_one_mat", "_law_row_here", "_law_pair"]) (sc := defScope (top 66)) (by decide +kernel)) (fun _ _ _ _ _ => (pg_tup rfl (pgs_cons (pg_name (i := 8) sc_law_looked.nd rfl (Or.inl rfl)) (pgs_cons (pg_name (i := 9) sc_law_looked.nd rfl (Or.inl rfl)) pgs_nil)))) (fun _ _ _ _ _ => (pts_one (pt_cmpR (op_eqDK (K := K) hr.units rfl) (pv 8) (pv 4) (nomark _)))) (fun _ _ _ _ _ => (pv 9))) (pe_lst (pa_cons (pe_tup pa_nil) pa_nil))))
  (pss_one (ps_ret (pe_callC C_law_same (hr.mono (by decide)) pass0 (pa_cons (pe_callC C_part (hr.mono (by decide)) pass0 (pa_cons (pv 2) (pa_cons (pv 4) pa_nil))) (pa_cons (pe_ix ix_list (pv 6) pe_int (fun _ _ => rfl)) pa_nil)))))))
  pss_nil)
  (pss_cons (ps_if (pt_cmpR op_eq (pv 3) pe_int (nomark _))
  (pss_cons (ps_setLc (i := 6) (own := [("_law_one_mat", 8), ("_law_row_here", 9)]) (g := (gTup K 2 (gCons (gName 8) (gCons (gName 9) gNil)))) rfl sc_law_looked.nd rfl rfl (sw_true rfl rfl rfl (by decide +kernel)) (pi_tup (pv 1)) (blkOk_by (N := ["_law_asking_here", "_law_left", "_law_told_left", "_law_kind", "_law_mesh", "_law_x", "_law_due_here", "_law_found", "_law_one_mat", "_law_row_here", "_law_pair"]) (sc := defScope (top 66)) (by decide +kernel)) (fun _ _ _ _ _ => (pg_tup rfl (pgs_cons (pg_name (i := 8) sc_law_looked.nd rfl (Or.inl rfl)) (pgs_cons (pg_name (i := 9) sc_law_looked.nd rfl (Or.inl rfl)) pgs_nil)))) (fun _ _ _ _ _ => pts_nil) (fun _ _ _ _ _ => (pe_tup (pa_cons (pv 8) (pa_cons (pe_callC C_law_value (hr.mono (by decide)) pass0 (pa_cons (pv 9) (pa_cons (pv 5) pa_nil))) pa_nil)))))
  (pss_cons (ps_setLc (i := 6) (own := [("_law_pair", 10)]) (g := (gName 10)) rfl sc_law_looked.nd rfl rfl (sw_true rfl rfl rfl (by decide +kernel)) (pi_list (pv 6)) (blkOk_by (N := ["_law_asking_here", "_law_left", "_law_told_left", "_law_kind", "_law_mesh", "_law_x", "_law_due_here", "_law_found", "_law_one_mat", "_law_row_here", "_law_pair"]) (sc := defScope (top 66)) (by decide +kernel)) (fun _ _ _ _ _ => (pg_name (i := 10) sc_law_looked.nd rfl (Or.inl rfl))) (fun _ _ _ _ _ => (pts_one (pt_cmpR op_ne (pe_ix (ix_tupK (K := K) rfl) (pv 10) pe_int (fun _ _ => rfl)) pe_int (nomark _)))) (fun _ _ _ _ _ => (pv 10)))
  (pss_cons (ps_set (i := 7) sc_law_looked.nd rfl (Or.inl rfl) (pe_callC C_at_worth (hr.mono (by decide)) pass0 (pa_cons (pv 2) (pa_cons (pv 5) pa_nil))))
  (pss_cons (ps_if (pt_not (pt_val (pe_callC C_law_same (hr.mono (by decide)) pass0 (pa_cons (pv 7) (pa_cons (pv 6) pa_nil)))))
  (pss_one (ps_ret pe_bl))
  pss_nil)
  (pss_cons (ps_expr (pe_bm PySem.F.plainAttrs_list PySem.F.slot_list_append PySem.F.type_list_append mt_append (pv 7) (pa_cons pe_int pa_nil)))
  (pss_cons (ps_expr (pe_bm0 PySem.F.plainAttrs_list PySem.F.slot_list_reverse PySem.F.type_list_reverse mt_reverse (pv 7)))
  (pss_one (ps_ret (pe_callC C_law_same (hr.mono (by decide)) pass0 (pa_cons (pe_callC C_at_worth (hr.mono (by decide)) pass0 (pa_cons (pv 2) (pa_cons (pv 5) pa_nil))) (pa_cons (pv 6) pa_nil)))))))))))
  pss_nil)
  (pss_cons (ps_if (PW.pt (pw_and (pt_cmpR (op_neD hr.units) (pv 1) (pe_tup pa_nil) (nomark _)) (pw_and1 (pt_cmpR op_gt (pv 5) pe_int (nomark _)))))
  (pss_one (ps_ret (pe_callC C_law_same (hr.mono (by decide)) pass0 (pa_cons (pe_callC C_is_sum (hr.mono (by decide)) pass0 (pa_cons (pe_op op_catA (pv 2) (pe_slice sl_tupA (pv 2) (po_some (pe_un un_neg pe_int)) po_none)) pa_nil)) (pa_cons pe_bl pa_nil)))))
  pss_nil)
  (pss_one (ps_ret (pe_callC C_law_same (hr.mono (by decide)) pass0 (pa_cons (pe_callC C_is_sum (hr.mono (by decide)) pass0 (pa_cons (pv 2) pa_nil)) (pa_cons pe_bl pa_nil))))))))), ?_⟩
    have h2 := hS.ok.n2
    have h6 := hS.ok.n6
    have l8 := hS.len
    have hx : A.x.natAbs ≤ 20 := by have := hA.x0; have := hA.x1; omega
    refine s_seq (s_asgG (evd_tup (eva_cons (evd_ixL (evv_var rfl) la evd_int rfl) (eva_cons (evd_ixL (evv_var rfl) la evd_int rfl) (eva_cons (evd_ixL (evv_var rfl) la evd_int rfl) eva_nil)))) fun v H1 e1 tv => g_tup3 (d := .int (A.kind : Nat)) (e := dMat n A.M) (f := .int A.x) tv fun u1 u2 u3 tu1 tu2 tu3 => ?_)
    cases tu1.int_inv; cases tu3.int_inv
    have t0 := t0.ex e1
    have t1 := t1.ex e1
    refine s_seq (s_if (evt_test (evd_eqI (evd_var rfl (.int _)) evd_int)) (fun hb H2 e2 => ?_) fun hb H2 e2 => s_next ?_)
    · -- a part
      refine s_seq (s_ifJ (fun σ' H' => ∃ um M, σ' = [some (.ref a), some v0, some w0, some (.int (A.kind : Nat)), some um, some (.int A.x), none, none, none, none, none] ∧ Ex H2 H' ∧ M ∈ matsL n ∧ Tp H' um (dMat n M)) (evt_and (evt_test (evd_neD (evd_var rfl (t0.ex e2)) (evd_tup eva_nil) (sh_Sum _ _) sh_nil (eqv_Sum_nil n S))) fun _ => (evt_test (evd_IB (evd_var rfl (.int _)) evd_int))) ?_ (fun hb H3 e3 J => ?_) (fun hb H3 e3 J => s_next (J _ _ ⟨_, _, rfl, e3, hA.mat, (tu2.ex e2).ex e3⟩)))
      · rintro σ' H' ⟨um, M, rfl, e', hM, tm⟩
        have e02 := (e1.trans e2).trans e'
        have t0' := t0.ex (e2.trans e')
        have t1' := t1.ex (e2.trans e')
        dsimp only
        refine s_seq (s_asgN (ds := ((S.map fun t => if t.1 = M then some (dP t.2) else none).filterMap id) ++ [dP []]) (evn_cat (evn_lcT (evd_var rfl t0') (by simp) (by simp; omega) fun i d o v H5 e5 hd ho tv => ?_) (evn_lst (eva_cons (evd_tup eva_nil) eva_nil)) ?_) fun l H4 nl e4 ll => ?_)
        · obtain ⟨u, hu, rfl⟩ := dSum_get hd
          have ho2 : o = if u.1 = M then some (dP u.2) else none := by
            rw [List.getElem?_map, hu] at ho
            exact (Option.some.inj ho).symm
          obtain ⟨y, z, ty, tz, hg⟩ := gt2 (K := K) (i := 8) (j := 9) (tp_Term tv)
          refine ⟨_, fun R r => hg _ R r, rfl, ?_, fun e he => ?_⟩
          · refine EvT.is (evt_test (evd_eqD (evd_var rfl ty) (evd_var rfl (tm.ex e5)) (sh_Mat _ _) (sh_Mat _ _) (eqv_Mat n n u.1 M))) ?_
            rw [ho2]
            by_cases h : u.1 = M
            · rw [if_pos h]; simp [h]
            · rw [if_neg h]; simp [h]
          · by_cases h : u.1 = M
            · rw [ho2, if_pos h] at he; cases he; exact evd_var rfl tz
            · rw [ho2, if_neg h] at he; cases he
        · have := List.length_filterMap_le id (S.map fun t => if t.1 = M then some (dP t.2) else none)
          simp at this ⊢; omega
        · have hat : atI (((S.map fun t => if t.1 = M then some (dP t.2) else none).filterMap id) ++ [dP []]) 0 = some (dP ((tget S M).getD [])) := at_nat (i := 0) (rows_of S M)
          have hlen : ((tget S M).getD []).length ≤ 1000 := by have := (hS.ln (k := 9) (Nat.le_refl _)).get M; omega
          refine s_ret (d := .bool true) (evd_callP (as := [.dat (dP ((tget S M).getD [])), .dat (dP ((tget S M).getD []))]) (evm_dat (evd_callD (eva_cons (evd_var rfl (t1'.ex e4)) (eva_cons (evd_var rfl (tm.ex e4)) eva_nil)) ⟨n, S, M, rfl, hS.ok, hM, rfl⟩) (evm_dat (evd_ixL (evv_var rfl) ll evd_int hat) evm_nil)) fun vs H5 e5 ok => ?_) fun v H6 e6 t6 => by cases t6.bl_inv; exact k H6 ((e02.trans e4).trans e6)
          match vs, ok with
          | [x, y], ⟨tx, ty, _⟩ => exact ⟨x, y, _, rfl, .inl tx, .inl ty, okd_P (m := 5) _ hlen, rfl⟩
      · simp only [Bool.and_eq_true, Bool.not_eq_true', decide_eq_false_iff_not, decide_eq_true_eq] at hb
        have hS0 : 0 < S.length := List.length_pos_iff.mpr hb.1
        have hz : ((S.map (dTerm n)).length : Int) = (S.length : Int) := by rw [List.length_map]
        obtain ⟨j, hj⟩ : ∃ j : Nat, A.x % ((S.map (dTerm n)).length : Int) = (j : Int) := ⟨_, (Int.toNat_of_nonneg (Int.emod_nonneg _ (by rw [hz]; omega))).symm⟩
        have hjl : j < S.length := by have := Int.emod_lt_of_pos A.x (show (0 : Int) < ((S.map (dTerm n)).length : Int) by rw [hz]; omega); rw [hj, hz] at this; omega
        have hg : (S.map (dTerm n))[j]? = some (dTerm n S[j]) := by rw [List.getElem?_map, List.getElem?_eq_getElem hjl]; rfl
        refine s_asg (d := dMat n S[j].1) (evd_ixT (ds := [dMat n S[j].1, dP S[j].2]) (evd_ixT (evd_var rfl ((t0.ex e2).ex e3)) (evd_IC (evd_int1 (evd_var rfl (.int _))) (evd_lenT (evd_var rfl ((t0.ex e2).ex e3))) (by rw [hz]; omega)) (by rw [hj]; exact at_nat hg)) evd_int rfl) fun v H4 e4 t4 => J _ _ ⟨_, _, rfl, e3.trans e4, (hS.ok.vt _ (List.getElem_mem hjl)).1, t4⟩
    · refine s_seq (s_if (evt_test (evd_eqI (evd_var rfl (.int _)) evd_int)) (fun hb H3 e3 => ?_) fun hb H3 e3 => s_next ?_)
      · -- the values
        have e23 := e2.trans e3
        have t0' := t0.ex e23
        generalize hW : (S.map fun t => (t.1, valP A.x t.2)) = W
        have lW : W.length = S.length := by rw [← hW]; simp
        refine s_seq (s_asgN (ds := W.map (dWorth n)) ?_ fun l H4 nl e4 ll => ?_)
        · have el : W.map (dWorth n) = ((W.map (dWorth n)).map some).filterMap id := (filt_all _).symm
          rw [el]
          refine evn_lcT (evd_var rfl t0') (by simp [lW]) (by simp; omega) fun i d o v H' e' hd ho tv => ?_
          obtain ⟨u, hu, rfl⟩ := dSum_get hd
          have ho2 : o = some (dWorth n (u.1, valP A.x u.2)) := by
            rw [← hW, List.getElem?_map, List.getElem?_map, List.getElem?_map, hu] at ho
            exact (Option.some.inj ho).symm
          subst ho2
          have hu' := List.mem_of_getElem? hu
          obtain ⟨y, z, ty, tz, hg⟩ := gt2 (K := K) (i := 8) (j := 9) (tp_Term tv)
          refine ⟨_, fun R r => hg _ R r, rfl, evt_yes, fun e he => ?_⟩
          cases he
          exact evd_tup (eva_cons (evd_var rfl ty) (eva_cons (evd_callD (eva_cons (evd_var rfl tz) (eva_cons (evd_var rfl (.int _)) eva_nil)) ⟨u.2, A.x, rfl, hS.b u hu', by have := hS.rows u hu'; omega, hx, rfl⟩) eva_nil))
        · have el : (worthL S A.x).map (dWorth n) = ((W.map fun p => if p.2 = 0 then none else some (dWorth n p)).filterMap id) := by
            unfold worthL
            rw [hW]
            clear hW lW ll
            induction W with
            | nil => rfl
            | cons p W ih =>
              by_cases h : p.2 = 0
              · rw [List.filter_cons_of_neg (by simp [h]), ih, List.map_cons, if_pos h]; rfl
              · rw [List.filter_cons_of_pos (by simp [h]), List.map_cons, ih, List.map_cons, if_neg h]; rfl
          dsimp only
          refine s_seq (s_asgN (ds := (worthL S A.x).map (dWorth n)) ?_ fun l2 H5 nl2 e5 ll2 => ?_)
          · rw [el]
            refine evn_lcL (evv_var rfl) ll (by simp) (by simp; omega) fun i d o v H' e' hd ho tv => ⟨_, fun R r => r, rfl, ?_⟩
            rw [List.getElem?_map] at hd ho
            cases hp : W[i]? with
            | none => rw [hp] at hd; cases hd
            | some p =>
            rw [hp] at hd ho
            cases hd; cases ho
            refine ⟨?_, fun e he => ?_⟩
            · refine EvT.is (evt_test (evd_neI (evd_ixT (ds := [dMat n p.1, .int p.2]) (evd_var rfl (show Tp H' v (.tuple [dMat n p.1, .int p.2]) from tv)) evd_int rfl) evd_int)) ?_
              dsimp only
              by_cases h : p.2 = 0
              · rw [if_pos h]; simp [h]
              · rw [if_neg h]; simp [h]
            · dsimp only at he
              by_cases h : p.2 = 0
              · rw [if_pos h] at he; cases he
              · rw [if_neg h] at he; cases he
                exact evd_var rfl tv
          · have e25 := (e23.trans e4).trans e5
            have wok : Okd 7 (.list ((worthL S A.x).map (dWorth n))) := okd_Worth (m := 2) hS.ok (by omega)
            have atw : ∀ {σ : L2.St} {H' : Hp}, Ex H1 H' → σ[2]? = some (some w0) → σ[5]? = some (some (.int A.x)) → EvN (tCall sp_at_worth [] E0 (tCons (tVar 2) (tCons (tVar 5) tNil))) σ H' ((worthL S A.x).map (dWorth n)) := fun {σ H'} e h1 h2 => evn_callND (eva_cons (evd_var h1 (t1.ex e)) (eva_cons (evd_var h2 (.int _)) eva_nil)) ⟨n, S, A.x, rfl, hS.ok, by omega, hS.ln (by decide), hS.b, hx, rfl⟩
            refine s_seq (s_asgN (atw e25 rfl rfl) fun l3 H6 nl3 e6 ll3 => ?_)
            refine s_seq (s_if (b := false) (evt_not (a := true) (evt_test (evd_callP (as := [.val (.ref l3), .val (.ref l2)]) (evm_val (evv_var rfl) (evm_val (evv_var rfl) evm_nil)) fun vs H7 e7 ok => ?_))) (fun h => by cases h) fun _ H7 e7 => s_next ?_)
            · match vs, ok with
              | [_, _], ⟨rfl, rfl, _⟩ => exact ⟨_, _, _, rfl, .inr ⟨l3, _, rfl, rfl, ll3.ex e7⟩, .inr ⟨l2, _, rfl, rfl, (ll2.ex e6).ex e7⟩, wok, rfl⟩
            · have n32 : l2 ≠ l3 := ll2.ne_none nl3
              have nl30 : H1 l3 = none := e25.back nl3
              refine s_seq (s_appB (evv_var rfl) evd_int (ll3.ex e7) (by have : (worthL S A.x).length ≤ S.length := by { unfold worthL; exact Nat.le_trans (List.length_filter_le _ _) (by simp) }; simp; omega) fun H8 b8 l8' => ?_)
              have ll28 : Ls H8 l2 _ := ((ll2.ex e6).ex e7).keepB b8 n32 (ll3.ex e7).noTup
              obtain ⟨xs, hxs, rxs⟩ := id l8'
              refine s_seq ⟨.ref l3, rfl, .inl ⟨rfl, _, SqL.of hxs⟩, l3, xs, rfl, rfl, hxs, ?_⟩
              have b9 : ExB l3 H8 (upd H8 l3 (.lst xs.reverse)) := ExB.upd _ _ _
              have ll29 := ll28.keepB b9 n32 l8'.noTup
              have e19 : Ex H1 (upd H8 l3 (.lst xs.reverse)) := b9.ex (b8.ex ((e25.trans e6).trans e7) nl30) nl30
              refine s_ret (d := .bool true) (evd_callP (as := [.lst ((worthL S A.x).map (dWorth n)), .val (.ref l2)]) (evm_lst (atw e19 rfl rfl) (evm_val (evv_var rfl) evm_nil)) fun vs H10 e10 ok => ?_) fun v H11 e11 t11 => by cases t11.bl_inv; exact k H11 ((e1.trans e19).trans e11)
              match vs, ok with
              | [_, _], ⟨⟨l4, rfl, hl4⟩, rfl, _⟩ => exact ⟨_, _, _, rfl, .inr ⟨l4, _, rfl, rfl, hl4⟩, .inr ⟨l2, _, rfl, rfl, ll29.ex e10⟩, wok, rfl⟩
      · -- is it a sum
        have e23 := e2.trans e3
        have t0' := t0.ex e23
        have t1' := t1.ex e23
        have fin : ∀ (b : Bool) {σ : L2.St} {H' : Hp} {te : TE} {D : Ends}, Ex H1 H' → EvD te σ H' (.bool b) → (∀ v H, D.rt v H = Q v H) → tRet (tCall (sp_same 7) [] E0 (tCons te (tCons (tC (.bl b)) tNil))) D σ H' := fun b {σ H' te D} e he hD => s_ret (d := .bool true) (evd_callP (as := [.dat (.bool b), .dat (.bool b)]) (evm_dat he (evm_dat evd_bl evm_nil)) fun vs H5 e5 ok => by
          match vs, ok with
          | [x, y], ⟨tx, ty, _⟩ => exact ⟨x, y, .bool b, rfl, .inl tx, .inl ty, .bl b, rfl⟩) fun v H6 e6 t6 => by cases t6.bl_inv; rw [hD]; exact k H6 ((e1.trans e).trans e6)
        refine s_seq (s_if (evt_and (evt_test (evd_neD (evd_var rfl t0') (evd_tup eva_nil) (sh_Sum _ _) sh_nil (eqv_Sum_nil n S))) fun _ => (evt_test (evd_IB (evd_var rfl (.int _)) evd_int))) (fun hb H4 e4 => ?_) fun hb H4 e4 => s_next ?_)
        · simp only [Bool.and_eq_true, Bool.not_eq_true', decide_eq_false_iff_not, decide_eq_true_eq] at hb
          rcases List.eq_nil_or_concat S with rfl | ⟨S', t, rfl⟩
          · exact absurd rfl hb.1
          · rw [List.concat_eq_append] at *
            refine fin false (e23.trans e4) (evd_callD (eva_cons (EvD.is (d' := dSum n (S' ++ [t] ++ [t])) (evd_catT (evd_var rfl (t1'.ex e4)) (evd_slT (ds := S'.map (dTerm n) ++ [dTerm n t]) (evd_var rfl (by have := t1'.ex e4; unfold dSum at this; rw [List.map_append] at this; exact this)) (evo_some (evd_neg evd_int)) evo_none) (by rw [cut_last]; simp at l8 ⊢; omega)) (by rw [cut_last]; unfold dSum; rw [List.map_append (l₁ := S' ++ [t])]; rfl)) eva_nil) ⟨(S' ++ [t] ++ [t]).map fun t => (n, t), by rw [dSumG_of], ?_, by rw [isSumF_twice hS.ok]⟩) fun _ _ => rfl
            intro u hu
            obtain ⟨z, hz, rfl⟩ := List.mem_map.mp hu
            refine hS.ok.mat (t := z) ?_
            rcases List.mem_append.mp hz with h | h
            · exact h
            · simp at h; subst h; simp
        · exact fin true (e23.trans e4) (evd_callD (eva_cons (evd_var rfl (t1'.ex e4)) eva_nil) ⟨S.map fun t => (n, t), by rw [dSumG_of], hS.ok.tr, by rw [isSumF_ok hS.ok]⟩) fun _ _ => rfl
end
end Hk


namespace Hk
open PySem PySem.Spec PyProof.Rows L2
section
variable {P : Program} {w : World} {K : PySem.W.Frag} {mg : Str → Option Value} {base : Heap}
abbrev sp_law_made : Sp := fun vs H Q _ => ∃ (a : Addr) (v v' : V) (n : Nat) (A : Ask) (S T : Tab), vs = [.ref a, v, v', .int n] ∧ Ls H a (A.data n) ∧ Fz H v (dSum n S) ∧ Fz H v' (dSum n T) ∧ AskOk n A ∧ Hs n S ∧ Hs n T ∧ ∀ u H', Ex H H' → Fz H' u (dSum n (dueF n A S T)) → Q u H'
theorem sc_law_made : FnScope ["_law_asking_here", "_law_left", "_law_right", "_law_size", "_law_kind"] ["_law_asking_here", "_law_left", "_law_right", "_law_size"] (defScope (top 65)) := ⟨rfl, rfl, rfl, by decide +kernel, rfl, by decide +kernel, by decide +kernel⟩
theorem w_law_made (B : Bt mg) (D : DefIn K mg "_law_made" (top 65)) (C_add : Cal P w K mg base CX0 5 "add" ["one", "other"] (sp_add)) (C_multiply : Cal P w K mg base CX0 5 "multiply" ["one", "other"] (sp_multiply)) (C_scaled : Cal P w K mg base CX0 5 "scaled" ["told", "poly"] (sp_scaled)) (C_flipped : Cal P w K mg base CX0 5 "flipped" ["told"] (sp_flipped)) (C_word_sum : Cal P w K mg base CX0 5 "word_sum" ["n", "word"] (sp_word_sum)) (C_sum_of : Cal P w K mg base CX0 4 "sum_of" ["mat"] (sp_sum_of))  : Cal P w K mg base CX0 6 "_law_made" ["_law_asking_here", "_law_left", "_law_right", "_law_size"] (sp_law_made) := by
  obtain ⟨f, fd, F, g⟩ := D.ex
  refine ⟨f, fd, F.ok sc_law_made (fun vs H Q E h => ?_) (fun cdv A outer s H vs Q E hr h => ?_), g, F.kp, F.binds (ps := ["_law_asking_here", "_law_left", "_law_right", "_law_size"]) fun _ _ _ _ _ _ us hl => match us, hl with | [_, _, _, _], _ => rfl⟩
  · obtain ⟨a, v, v', n, A, S, T, rfl, _⟩ := h; rfl
  · obtain ⟨a, v0, w0, n, A, S, T, rfl, la, f0, f1, hA, hS, hT, k⟩ := h
    refine ⟨_, (pss_cons (ps_set (i := 4) sc_law_made.nd rfl (Or.inl rfl) (pe_ix ix_list (pv 0) pe_int (fun _ _ => rfl)))
  (pss_cons (ps_if (pt_cmpR op_lt (pv 4) pe_int (nomark _))
  (pss_one (ps_ret (pe_callC C_add (hr.mono (by decide)) pass0 (pa_cons (pv 1) (pa_cons (pv 2) pa_nil)))))
  pss_nil)
  (pss_cons (ps_if (pt_cmpR op_lt (pv 4) pe_int (nomark _))
  (pss_one (ps_ret (pe_callC C_multiply (hr.mono (by decide)) pass0 (pa_cons (pv 1) (pa_cons (pv 2) pa_nil)))))
  pss_nil)
  (pss_cons (ps_if (pt_cmpR op_eq (pv 4) pe_int (nomark _))
  (pss_one (ps_ret (pe_callC C_scaled (hr.mono (by decide)) pass0 (pa_cons (pv 1) (pa_cons (pe_ix ix_list (pv 0) pe_int (fun _ _ => rfl)) pa_nil)))))
  pss_nil)
  (pss_cons (ps_if (pt_cmpR op_eq (pv 4) pe_int (nomark _))
  (pss_one (ps_ret (pe_callC C_flipped (hr.mono (by decide)) pass0 (pa_cons (pv 1) pa_nil))))
  pss_nil)
  (pss_cons (ps_if (pt_cmpR op_eq (pv 4) pe_int (nomark _))
  (pss_one (ps_ret (pe_callC C_word_sum (hr.mono (by decide)) pass0 (pa_cons (pv 3) (pa_cons (pe_ix ix_list (pv 0) pe_int (fun _ _ => rfl)) pa_nil)))))
  pss_nil)
  (pss_one (ps_ret (pe_callC C_sum_of (hr.mono (by decide)) pass0 (pa_cons (pe_ix ix_list (pv 0) pe_int (fun _ _ => rfl)) pa_nil)))))))))), ?_⟩
    have h2 := hS.ok.n2
    have h6 := hS.ok.n6
    have l8 := hS.len
    have m8 := hT.len
    refine s_seq (s_asgI (n := (A.kind : Nat)) (evd_ixL (evv_var rfl) la evd_int rfl) fun H1 e1 => ?_)
    have la := la.ex e1
    have f0 := f0.ex e1
    have f1 := f1.ex e1
    dsimp only
    refine s_seq (s_if (evt_test (evd_IB (evd_var rfl (.int _)) evd_int)) (fun hb H2 e2 => ?_) fun hb H2 e2 => s_next ?_)
    · have hk : A.kind < 2 := by simp at hb; omega
      have hd : dueF n A S T = listT (layAll S T) := by unfold dueF; rw [if_pos hk, due_add hS.ok]
      rw [hd] at k
      refine s_retF (evf_callF (as := [.val v0, .val w0]) (evm_val (evv_var rfl) (evm_val (evv_var rfl) evm_nil)) fun vs H3 e3 ok => ?_) fun v H4 e4 t4 => k v H4 ((e1.trans e2).trans e4) t4
      match vs, ok with
      | [_, _], ⟨rfl, rfl, _⟩ => exact ⟨_, _, n, S, T, rfl, f0.ex (e2.trans e3), (f1.ex (e2.trans e3)).tp, hS.ok, hT.ok, by omega, by omega, hS.ln (by decide), hT.ln (by decide), rfl⟩
    · have hk2 : ¬ A.kind < 2 := by simp at hb; omega
      dsimp only
      refine s_seq (s_if (evt_test (evd_IB (evd_var rfl (.int _)) evd_int)) (fun hb H3 e3 => ?_) fun hb H3 e3 => s_next ?_)
      · have hk : A.kind < 5 := by simp at hb; omega
        have hd : dueF n A S T = listT (layAll [] (prodL n S T)) := by unfold dueF; rw [if_neg hk2, if_pos hk]
        rw [hd] at k
        refine s_retF (evf_callF (as := [.val v0, .val w0]) (evm_val (evv_var rfl) (evm_val (evv_var rfl) evm_nil)) fun vs H4 e4 ok => ?_) fun v H5 e5 t5 => k v H5 (((e1.trans e2).trans e3).trans e5) t5
        match vs, ok with
        | [_, _], ⟨rfl, rfl, _⟩ => exact ⟨_, _, n, S, T, rfl, (f0.ex ((e2.trans e3).trans e4)).tp, (f1.ex ((e2.trans e3).trans e4)).tp, hS.ok, hT.ok, by omega, by omega, hS.ln (by decide), hT.ln (by decide), hS.b, hT.b, rfl⟩
      · have hk5 : ¬ A.kind < 5 := by simp at hb; omega
        have e23 := e2.trans e3
        dsimp only
        refine s_seq (s_if (evt_test (evd_eqI (evd_var rfl (.int _)) evd_int)) (fun hb H4 e4 => ?_) fun hb H4 e4 => s_next ?_)
        · have hk : A.kind = 5 := by simp at hb; omega
          have hd : dueF n A S T = (if A.p = [] then [] else scaleL S A.p) := by unfold dueF; rw [if_neg hk2, if_neg hk5, if_pos hk, due_scale hS.ok hA.row]
          rw [hd] at k
          refine s_retF (evf_callF (as := [.val v0, .dat (dP A.p)]) (evm_val (evv_var rfl) (evm_dat (evd_ixL (evv_var rfl) (la.ex (e23.trans e4)) evd_int rfl) evm_nil)) fun vs H5 e5 ok => ?_) fun v H6 e6 t6 => k v H6 (((e1.trans e23).trans e4).trans e6) t6
          match vs, ok with
          | [_, u], ⟨rfl, tu, _⟩ => exact ⟨_, u, n, S, A.p, rfl, (f0.ex ((e23.trans e4).trans e5)).tp, tu, hS.ok, by omega, hA.row, fun c hc => Nat.lt_trans (hA.rbd c hc) (Nat.lt_of_lt_of_le (show 100 < 2 ^ 7 by decide) (Nat.pow_le_pow_right (by decide) (by decide))), by have := hA.rlen; omega, hS.ln (by decide), hS.b, rfl⟩
        · have hk5' : ¬ A.kind = 5 := by simp at hb; omega
          dsimp only
          refine s_seq (s_if (evt_test (evd_eqI (evd_var rfl (.int _)) evd_int)) (fun hb H5 e5 => ?_) fun hb H5 e5 => s_next ?_)
          · have hk : A.kind = 6 := by simp at hb; omega
            have hd : dueF n A S T = (flipL n S).mergeSort leT := by unfold dueF; rw [if_neg hk2, if_neg hk5, if_neg hk5', if_pos hk, due_flip hS.ok]
            rw [hd] at k
            refine s_retF (evf_callF (as := [.val v0]) (evm_val (evv_var rfl) evm_nil) fun vs H6 e6 ok => ?_) fun v H7 e7 t7 => k v H7 (((((e1.trans e23).trans e4).trans e5)).trans e7) t7
            match vs, ok with
            | [_], ⟨rfl, _⟩ => exact ⟨_, n, S, rfl, (f0.ex (((e23.trans e4).trans e5).trans e6)).tp, hS.ok, by omega, rfl⟩
          · have hk6 : ¬ A.kind = 6 := by simp at hb; omega
            have e25 := (e23.trans e4).trans e5
            dsimp only
            refine s_seq (s_if (evt_test (evd_eqI (evd_var rfl (.int _)) evd_int)) (fun hb H6 e6 => ?_) fun hb H6 e6 => s_next ?_)
            · have hk : A.kind = 7 := by simp at hb; omega
              have hd : dueF n A S T = [((wordV n A.w).2, List.replicate (wordV n A.w).1 0 ++ [1])] := by unfold dueF; rw [if_neg hk2, if_neg hk5, if_neg hk5', if_neg hk6, if_pos hk]
              rw [hd] at k
              refine s_retF (evf_callF (as := [.val (.int n), .dat (dN A.w)]) (evm_val (evv_var rfl) (evm_dat (evd_ixL (evv_var rfl) (la.ex (e25.trans e6)) evd_int rfl) evm_nil)) fun vs H7 e7 ok => ?_) fun v H8 e8 t8 => k v H8 (((e1.trans e25).trans e6).trans e8) t8
              match vs, ok with
              | [_, u], ⟨rfl, tu, _⟩ => exact ⟨u, n, A.w, rfl, tu, h2, h6, by have := hA.wl; omega, hA.wh, rfl⟩
            · have hk : ¬ A.kind = 7 := by simp at hb; omega
              have hd : dueF n A S T = [(A.M, [1])] := by unfold dueF; rw [if_neg hk2, if_neg hk5, if_neg hk5', if_neg hk6, if_neg hk]
              rw [hd] at k
              dsimp only
              refine s_retF (evf_callF (d := dSum n [(A.M, [1])]) (as := [.dat (dMat n A.M)]) (evm_dat (evd_ixL (evv_var rfl) (la.ex (e25.trans e6)) evd_int rfl) evm_nil) fun vs H7 e7 ok => ?_) fun v H8 e8 t8 => k v H8 (((e1.trans e25).trans e6).trans e8) t8
              match vs, ok with
              | [u], ⟨tu, _⟩ => exact ⟨u, n, A.M, rfl, tu, ok_of (by omega) h6 hA.mat, rfl⟩
end
end Hk


namespace Hk
open PySem PySem.Spec PyProof.Rows L2
section
variable {P : Program} {w : World} {K : PySem.W.Frag} {mg : Str → Option Value} {base : Heap}
abbrev sp_law_small : Sp := fun vs H Q _ => ∃ v n S, vs = [v] ∧ Tp H v (dSum n S) ∧ okS n S ∧ S.length ≤ 1000 ∧ Ln 1000 S ∧ ∀ b H', Ex H H' → (b = true → Hs n S) → Q (.bl b) H'
theorem sc_law_small : FnScope ["_law_parts", "_law_mesh", "_law_row_here", "_law_coefficient"] ["_law_parts"] (defScope (top 68)) := ⟨rfl, rfl, rfl, by decide +kernel, rfl, by decide +kernel, by decide +kernel⟩
theorem w_law_small (B : Bt mg) (D : DefIn K mg "_law_small" (top 68))   : Cal P w K mg base CX0 1 "_law_small" ["_law_parts"] (sp_law_small) := by
  obtain ⟨f, fd, F, g⟩ := D.ex
  refine ⟨f, fd, F.ok sc_law_small (fun vs H Q E h => ?_) (fun cdv A outer s H vs Q E hr h => ?_), g, F.kp, F.binds (ps := ["_law_parts"]) fun _ _ _ _ _ _ us hl => match us, hl with | [_], _ => rfl⟩
  · obtain ⟨v, n, S, rfl, _⟩ := h; rfl
  · obtain ⟨v0, n, S, rfl, t0, ok, hz, lS, k⟩ := h
    refine ⟨_, (pss_cons (ps_if (PW.pt (pw_or (pt_cmpR op_gt (pe_callB call_lenA (by rfl) B.len PySem.boot_len (pa_cons (pv 0) pa_nil)) pe_int (nomark _)) (pw_or1 (pt_cmpR op_gt (pe_callB (cr_max rfl) (by rfl) B.max (by decide +kernel) (pa_cons (pe_op op_cat (pe_lst (pa_cons pe_int pa_nil)) (pe_lc (own := [("_law_mesh", 1), ("_law_row_here", 2)]) (g := (gTup K 2 (gCons (gName 1) (gCons (gName 2) gNil)))) rfl sc_law_small.nd (pi_tup (pv 0)) (blkOk_by (N := ["_law_parts", "_law_mesh", "_law_row_here", "_law_coefficient"]) (sc := defScope (top 68)) (by decide +kernel)) (fun _ _ _ _ _ => (pg_tup rfl (pgs_cons (pg_name (i := 1) sc_law_small.nd rfl (Or.inl rfl)) (pgs_cons (pg_name (i := 2) sc_law_small.nd rfl (Or.inl rfl)) pgs_nil)))) (fun _ _ _ _ _ => pts_nil) (fun _ _ _ _ _ => (pe_callB (call_lenK (K := K) rfl) (by rfl) B.len PySem.boot_len (pa_cons (pv 2) pa_nil))))) pa_nil)) pe_int (nomark _)))))
  (pss_one (ps_ret pe_bl))
  pss_nil)
  (pss_one (ps_ret (pe_callB (cr_all rfl) (by rfl) B.all (by decide +kernel) (pa_cons (pe_lc (own := [("_law_mesh", 1), ("_law_row_here", 2)]) (g := (gTup K 2 (gCons (gName 1) (gCons (gName 2) gNil)))) rfl sc_law_small.nd (pi_tup (pv 0)) (blkOk_by (N := ["_law_parts", "_law_mesh", "_law_row_here", "_law_coefficient"]) (sc := defScope (top 68)) (by decide +kernel)) (fun _ _ _ _ _ => (pg_tup rfl (pgs_cons (pg_name (i := 1) sc_law_small.nd rfl (Or.inl rfl)) (pgs_cons (pg_name (i := 2) sc_law_small.nd rfl (Or.inl rfl)) pgs_nil)))) (fun _ _ _ _ _ => pts_nil) (fun _ _ _ _ _ => (pe_cmpR op_lt (pe_callB (cr_maxK (K := K) rfl rfl) (by rfl) B.max (by decide +kernel) (pa_cons (by
                      apply pe_lc (own := [("_law_coefficient", 3)]) (g := (gName 3)) (wi := iTup K (tVar 2)) (tt := tYes)
                      case he => exact (fun _ _ _ _ _ => (pe_callB call_abs (by rfl) B.abs (by decide +kernel) (pa_cons (pv 3) pa_nil)))
                      case hc => rfl
                      case hN => exact sc_law_small.nd
                      case hi => exact pi_tup (pv 2)
                      case ok => exact blkOk_by (by kernel_rfl)
                      case hg => exact fun _ _ _ _ _ => (pg_name (i := 3) sc_law_small.nd rfl (Or.inl rfl))
                      case ht => exact fun _ _ _ _ _ => pts_nil) pa_nil)) (pe_op op_pow pe_int pe_int) (nomark _)))) pa_nil))))), ?_⟩
    obtain ⟨m, hm, hmb⟩ := max_of (ns := [0] ++ S.map fun t => (t.2.length : Int)) (by simp)
    refine s_seq (s_if (evt_or (evt_test (evd_IB (evd_lenT (evd_var rfl t0)) evd_int)) fun hb0 => (evt_test (evd_IB (evd_maxN (ns := [0] ++ S.map fun t => (t.2.length : Int)) ?_ hm hmb) evd_int))) (fun hb H1 e1 => ?_) fun hb H1 e1 => s_next ?_)
    · rw [List.map_append]
      refine evn_cat (evn_lst (eva_cons evd_int eva_nil)) ?_ (by simp; omega)
      have el : (S.map fun t => (t.2.length : Int)).map PyData.int = (((S.map fun t => (t.2.length : Int)).map PyData.int).map some).filterMap id := (filt_all _).symm
      rw [el]
      refine evn_lcT (evd_var rfl t0) (by simp) (by simp; omega) fun i d o v H' e' hd ho tv => ?_
      obtain ⟨u, hu, rfl⟩ := dSum_get hd
      have ho2 : o = some (.int (u.2.length : Int)) := by
        rw [List.getElem?_map, List.getElem?_map, List.getElem?_map, hu] at ho
        exact (Option.some.inj ho).symm
      subst ho2
      obtain ⟨x, y, tx, ty, hg⟩ := gt2 (K := K) (i := 1) (j := 2) (tp_Term tv)
      refine ⟨_, fun R r => hg _ R r, rfl, evt_yes, fun e he => ?_⟩
      cases he
      exact EvD.is (evd_lenT (evd_var rfl ty)) (by rw [dP_len])
    · exact s_retV (EvD.bl evd_bl) fun H2 e2 => k false H2 (e1.trans e2) fun h => by cases h
    · simp only [Bool.or_eq_false_iff, decide_eq_false_iff_not, Int.not_lt] at hb
      obtain ⟨hb1, hb2⟩ := hb
      have hmax : ∀ t ∈ S, ∃ M : Int, M ∈ t.2.map (fun c : Int => if c < 0 then -c else c) ∧ ∀ y ∈ t.2.map (fun c : Int => if c < 0 then -c else c), y ≤ M := fun t ht => max_of (by
        have := (ok.vt t ht).2.2
        simpa using this)
      let B : (List Nat × List Int) → Bool := fun t => if h : t ∈ S then decide (Classical.choose (hmax t h) < (10 : Int) ^ (30 : Int).toNat) else false
      dsimp only
      refine s_retV (EvD.bl (evd_allN (bs := S.map B) ?_)) fun H2 e2 => k _ H2 (e1.trans e2) fun hall => ⟨ok, ?_, fun t ht => ?_, fun t ht x hx => ?_⟩
      · have el : (S.map B).map PyData.bool = (((S.map B).map PyData.bool).map some).filterMap id := (filt_all _).symm
        rw [el]
        refine evn_lcT (evd_var rfl (t0.ex e1)) (by simp) (by simp; omega) fun i d o v H' e' hd ho tv => ?_
        obtain ⟨u, hu, rfl⟩ := dSum_get hd
        have hu' := List.mem_of_getElem? hu
        have ho2 : o = some (.bool (B u)) := by
          rw [List.getElem?_map, List.getElem?_map, List.getElem?_map, hu] at ho
          exact (Option.some.inj ho).symm
        subst ho2
        obtain ⟨x, y, tx, ty, hg⟩ := gt2 (K := K) (i := 1) (j := 2) (tp_Term tv)
        refine ⟨_, fun R r => hg _ R r, rfl, evt_yes, fun e he => ?_⟩
        cases he
        have hch := Classical.choose_spec (hmax u hu')
        have eB : B u = decide (Classical.choose (hmax u hu') < (10 : Int) ^ (30 : Int).toNat) := dif_pos hu'
        rw [eB]
        refine evd_IB (evd_maxN (ns := u.2.map fun c : Int => if c < 0 then -c else c) ?_ hch.1 hch.2) (evd_IC evd_int evd_int (small_pow (by decide) (by decide) _ (by decide)))
        have el : (u.2.map fun c : Int => if c < 0 then -c else c).map PyData.int = (((u.2.map fun c : Int => if c < 0 then -c else c).map PyData.int).map some).filterMap id := (filt_all _).symm
        rw [el]
        refine evn_lcT (evd_var rfl ty) (by simp) (by have := lS u hu'; simp; omega) fun i d o v H' e' hd ho tv => ⟨_, fun R r => r, rfl, ?_⟩
        obtain ⟨c, hc, rfl⟩ := ints_get' hd
        have ho2 : o = some (.int (if c < 0 then -c else c)) := by
          rw [List.getElem?_map, List.getElem?_map, List.getElem?_map, hc] at ho
          exact (Option.some.inj ho).symm
        subst ho2
        refine ⟨evt_yes, fun e he => ?_⟩
        cases he
        cases tv.int_inv
        exact evd_abs (evd_var rfl (.int _))
      · have : ((S.map (dTerm n)).length : Int) ≤ 8 := hb1
        rw [List.length_map] at this; omega
      · have := hmb (t.2.length : Int) (List.mem_append_right _ (List.mem_map_of_mem ht))
        have : (t.2.length : Int) ≤ 9 := Int.le_trans this hb2
        omega
      · have h1 : B t = true := by
          have := List.all_eq_true.mp hall (B t) (List.mem_map_of_mem ht)
          simpa using this
        have eB : B t = decide (Classical.choose (hmax t ht) < (10 : Int) ^ (30 : Int).toNat) := dif_pos ht
        rw [eB] at h1
        have h2 := of_decide_eq_true h1
        have h3 := (Classical.choose_spec (hmax t ht)).2 (if x < 0 then -x else x) (List.mem_map_of_mem hx)
        have h4 : (if x < 0 then -x else x) < (10 : Int) ^ (30 : Int).toNat := by omega
        have h5 : ((10 : Int) ^ (30 : Int).toNat) = 1000000000000000000000000000000 := by decide
        rw [h5] at h4
        have h6 : (10 : Nat) ^ 30 = 1000000000000000000000000000000 := by decide
        rw [h6]
        split at h4 <;> omega
end
end Hk


namespace Hk
open PySem PySem.Spec PyProof.Rows L2
/-! ### the errors of the text -/
/-- the i-th statement of a class body -/
def inCls : Stmt → Nat → Stmt
  | .ClassDef _ _ _ b _ _ _ _ _ _ _, i => b.getD i (.Pass ⟨0, 0, 0, 0⟩)
  | s, _ => s
def stInit : Stmt := inCls (top 1) 0
/-- what MatError.__init__ does -/
def sp_init (K : PySem.W.Frag) : Sp := fun vs H Q _ => ∃ (a C : Addr) (v : V), vs = [.ref a, v] ∧ OexC K C ∧ PySem.W.findIn K (.ref C) "value" = some none ∧ H a = some (exo a C none) ∧
  ∀ d, H d = none → d ≠ a → Q .non (upd (upd H d (exd d [("value", v)])) a (exo a C (some d)))
structure InitF (P : Program) (w : World) (K : PySem.W.Frag) (mg : Str → Option Value) (base : Heap) (fI : Addr) : Prop where
  ok : ∃ fd, FnOk P w K mg base CX0 1 fI fd ["self", "value"] (sp_init K) ∧ Binds K fd ["self", "value"] []
  ty : PySem.W.typeIn K (.ref fI) = some (.type "function")
/-- an error class of the text: CM is MatError's place -/
structure ErrC (K : PySem.W.Frag) (mg : Str → Option Value) (x : Str) (C CM fI : Addr) : Prop where
  gC : mg x = some (.ref C)
  ox : OexC K C
  iC : PySem.W.findIn K (.ref C) "__init__" = some (some (.ref fI))
  nv : PySem.W.findIn K (.ref C) "value" = some none
  ga : PySem.W.findIn K (.ref C) "__getattribute__" = some (some (.builtin "BaseException.__getattribute__"))
  gg : PySem.W.findIn K (.ref C) "__getattr__" = some none
  hd : PySem.W.hasDictIn K C = true
  ex : PySem.W.exmOne K (.ref C) (.ref CM) = some true
section
variable {P : Program} {w : World} {K : PySem.W.Frag} {mg : Str → Option Value} {base : Heap}
theorem sc_init : FnScope ["self", "value"] ["self", "value"] (defScope stInit) := ⟨rfl, rfl, rfl, by decide +kernel, rfl, by decide +kernel, by decide +kernel⟩
theorem w_init {fI : Addr} {fd : FuncData} (hV : mg "ValueError" = none) (vV : PySem.W.findCls K (.type "ValueError") (.type "type") "__init__" = some (.val (.builtin "ValueError.__init__"))) (F : Fun K "__init__" "MatError.__init__" stInit fI fd) (ty : PySem.W.typeIn K (.ref fI) = some (.type "function")) : InitF P w K mg base fI := by
  refine ⟨⟨fd, F.ok sc_init (fun vs H Q E h => ?_) (fun cdv A outer s H vs Q E hr h => ?_), F.binds (ps := ["self", "value"]) fun _ _ _ _ _ _ us hl => match us, hl with | [_, _], _ => rfl⟩, ty⟩
  · obtain ⟨a, C, v, rfl, _⟩ := h; rfl
  · obtain ⟨a, C, v, rfl, T, nv, ha, k⟩ := h
    refine ⟨_, (pss_cons (ps_expr (pe_veinit (by rfl) hV vV (pa_cons (pv 0) (pa_cons (pv 1) pa_nil)))) (pss_one (ps_ost (pv 0) (pv 1)))), ?_⟩
    refine s_seq (x_drop (x_cons (x_var rfl (x_cons (x_var rfl (x_nil ?_))))))
    refine ⟨a, C, [v], rfl, (by show 1 ≤ 1000; omega), T, ha, ?_⟩
    dsimp only
    refine (show tOst K "value" (tVar 0) (tVar 1) _ _ _ from ?_)
    unfold tOst
    refine x_var rfl ?_
    refine x_var rfl ?_
    exact ⟨a, C, rfl, T, nv, .inl ⟨ha, fun d hd hne => k d hd hne⟩⟩
/-- X(v) -/
theorem x_mk {C : Addr} {ta : TA} {σ : L2.St} {H : Hp} {Q : XK} (h : ta σ H fun vs H1 => vs.length ≤ 1000 ∧ ∀ a, H1 a = none → sp_init K (.ref a :: (vs ++ [])) (upd H1 a (exo a C none))
    (fun v H2 => v = .non ∧ ∃ (d : Addr) (fs : List (Str × V)), H2 a = some (exo a C (some d)) ∧ H2 d = some (exd d fs) ∧ H1 d = none ∧ Q (.ref C) (some d) (upd (del H2 a) d (.xd fs))) (fun _ _ _ => False)) : tMkO C (sp_init K) [] ta σ H Q := h
theorem x_mk1 {C : Addr} {H : Hp} {Q : XK} {v : V} (T : OexC K C) (nv : PySem.W.findIn K (.ref C) "value" = some none) (k : ∀ d H', Ex H H' → H' d = some (.xd [("value", v)]) → Q (.ref C) (some d) H') :
    ([v] : List V).length ≤ 1000 ∧ ∀ a, H a = none → sp_init K (.ref a :: ([v] ++ [])) (upd H a (exo a C none))
    (fun v H2 => v = .non ∧ ∃ (d : Addr) (fs : List (Str × V)), H2 a = some (exo a C (some d)) ∧ H2 d = some (exd d fs) ∧ H d = none ∧ Q (.ref C) (some d) (upd (del H2 a) d (.xd fs))) (fun _ _ _ => False) := by
  refine ⟨(by show 1 ≤ 1000; omega), fun a ha => ⟨a, C, v, rfl, T, nv, upd_same, fun d hd hne => ?_⟩⟩
  have hd1 : H d = none := by rw [upd_ne hne] at hd; exact hd
  refine ⟨rfl, d, [("value", v)], upd_same, ?_, hd1, k d _ (fun b o e => ?_) upd_same⟩
  · rw [upd_ne hne, upd_same]
  · have h1 : b ≠ d := fun z => by rw [z, hd1] at e; cases e
    have h2 : b ≠ a := fun z => by rw [z, ha] at e; cases e
    rw [upd_ne h1, del_ne h2, upd_ne h2, upd_ne h1, upd_ne h2]; exact e
end
end Hk


namespace Hk
open PySem PySem.Spec PyProof.Rows L2
/-! ### a caught error that is kept -/
/-- at a: an error of the class at C, its dict at d -/
def exK (a C d : Addr) : HO := .ext fun h => ∃ (oe : Obj) (vs : Array Value), h.get? a = some oe ∧ oe.cls = .ref C ∧ oe.dict = some d ∧ oe.data = .fields vs
theorem exK_ok {P : Program} {w : World} {H : Hp} {h : Heap} {a C d : Addr} {oe : Obj} {vs : Array Value} (e : h.get? a = some oe) (c : oe.cls = .ref C) (dd : oe.dict = some d) (dt : oe.data = .fields vs) : ObjOk P w H h a (exK a C d) :=
  ⟨⟨oe, vs, e, c, dd, dt⟩, ⟨oe, e⟩, fun _ _ ⟨o, us, x, y, z, t⟩ k => ⟨o, us, k _ x, y, z, t⟩⟩
theorem exK_at {P : Program} {w : World} {H : Hp} {h : Heap} {a C d : Addr} (ok : HOk P w H h) (e : H a = some (exK a C d)) : ∃ (oe : Obj) (vs : Array Value), h.get? a = some oe ∧ oe.cls = .ref C ∧ oe.dict = some d ∧ oe.data = .fields vs := (ok a _ e).1
section
variable {X : Cx} {st : Stmt} {rest : List Stmt} {t : TS} {pins : List (Addr × Obj)} {σ : L2.St} {H : Hp} {s : Shared}
/-- a statement that never hands on: what stands behind it does not matter -/
def tStop (t : TS) : TS := fun D σ H => t { D with nx := fun _ _ => False } σ H
theorem pss_stop (h1 : PS X st t) : PSs X (st :: rest) (tStop t) := by
  refine ⟨fun pins s σ H D I h => ?_⟩
  refine wpAny_execs_cons (thn (h1.run pins s σ H { D with nx := fun _ _ => False } I h) fun f s1 q => ?_)
  cases f with
  | next => obtain ⟨_, _, _, z⟩ := q; exact False.elim z
  | ret v => exact q
  | brk => exact q
  | cont => exact q
/-- an object that was out of reach is tracked from here on -/
theorem Inv.track {a C d : Addr} {oe : Obj} {vs : Array Value} (I : Inv X pins σ H s) (na : H a = none) (nL : a ≠ X.env.locals) (hp : ∀ p ∈ X.pn ++ pins, p.1 ≠ a) (old : ∀ o, X.s_0.heap.get? a = some o → False)
    (e : s.heap.get? a = some oe) (c : oe.cls = .ref C) (dd : oe.dict = some d) (dt : oe.data = .fields vs) : Inv X pins σ (upd H a (exK a C d)) s := by
  have nf : ∀ b o, X.s_0.heap.get? b = some o → b ≠ a := fun b o q z => old o (z ▸ q)
  have same : ∀ b u, H b = some u → upd H a (exK a C d) b = some u := fun b u q => by rw [upd_ne (ne_of_none q na)]; exact q
  refine ⟨I.ok, I.os, I.bare, ⟨I.base.keep, I.base.slot, fun b o q n hx => ?_, I.base.there, fun b xs q => same _ _ (I.base.tups b xs q), fun b o u q => same _ _ (I.base.frzs b o u q), fun b ps q => ?_⟩, I.loc, I.cell, ?_, fun x k q => ?_, fun p q => ?_, fun b u q => ?_, I.len⟩
  · rw [upd_ne (nf b o q)]; exact I.base.free b o q n hx
  · obtain ⟨more, z⟩ := I.base.tbls b ps q
    exact ⟨more, same _ _ z⟩
  · rw [upd_ne (Ne.symm nL)]; exact I.free
  · have hc := I.freeC x k q
    have : k ≠ a := fun z => by
      obtain ⟨v, ob, hv, hd⟩ := I.cell x k q
      rw [z, e] at hv; cases hv
      rw [dt] at hd; cases hd
    rw [upd_ne this]; exact hc
  · obtain ⟨p1, p2, p3⟩ := I.pin p q
    exact ⟨p1, by rw [upd_ne (hp p q)]; exact p2, p3⟩
  · by_cases z : b = a
    · subst z; rw [upd_same] at q; cases q; exact exK_ok e c dd dt
    · rw [upd_ne z] at q
      exact (I.hok b u q).stay (fun _ _ _ g => g) (fun b' g => same _ _ g) fun b' xs g => same _ _ g
/-- what the clause wishes of an error of the body: the suite runs with it in slot i, behind it the slot is empty and the error is tracked -/
def wKeep (K : PySem.W.Frag) (c : Value) (i : Nat) (ts : TS) (D : Ends) : WX := fun cls d σ H =>
  ∃ C dd, cls = .ref C ∧ d = some dd ∧ PySem.W.exmOne K cls c = some true ∧ ∀ a, H a = none →
    ts { nx := fun σ' H' => D.nx (σ'.set i none) (upd H' a (exK a C dd)), rt := fun _ _ => False, bk := fun _ _ => False, ct := fun _ _ => False } (σ.set i (some (.ref a))) H
/-- try: body / except x as n: suite, the error kept -/
theorem ps_try_keep {x n : Str} {c : Value} {i : Nat} {body suite : List Stmt} {b₀ : Stmt} {np pos pos' : Pos} {tb : WX → TS} {ts : TS} (hs : X.stack = X.env :: X.outer) (hf : X.env.frame = some X.env.locals) (hex : X.ex = []) (hN : X.N.Nodup) (hi : X.N[i]? = some n)
    (hln : X.env.kindOf n = some .local) (hc : Gl X x ∧ (x == ("__debug__" : Str)) = false ∧ X.mg x = some c)
    (hb : ∀ (W : WX) (pn : List (Addr × Obj)) (xe : Value → Shared → Prop), Takes (X.tr pn xe) W → PassesOwn (model X.prog X.w) X.A X.env xe → PSs (X.tr pn xe) body (tb W))
    (hsu : ∀ (a : Addr) (oe : Obj) (pn : List (Addr × Obj)), PSs (X.suite a ((a, oe) :: pn)) (b₀ :: suite) ts) :
    PS X (.Try body [.ExceptHandler (some (.Name x np)) (some n) (b₀ :: suite) pos'] [] [] pos) (fun D σ H => tb (wKeep X.K c i ts D) D σ H) := by
  refine ⟨fun pins s σ H D I h => wpAny_Try_except ?_⟩
  have ok := I.ok
  have afr : X.A.frames = some (X.env :: X.outer) := ok.frames.trans (congrArg some hs)
  refine wpAny_mono ((hb (wKeep X.K c i ts D) (X.pn ++ pins) (fun u t0 => wpAny (model X.prog X.w) X.A (noteFrame u X.env) (fun _ t1 => wpAny (model X.prog X.w) X.A (setFlight u none) (fun _ t2 =>
    wpAny (model X.prog X.w) X.A (handleBy u X.env [.ExceptHandler (some (.Name x np)) (some n) (b₀ :: suite) pos']) (SP X pins D) X.xe t2) X.xe t1) X.xe t0) (fun u s1 hx => ?_) PassesOwn.looking).run [] s σ H D (I.toTry _) h) (fun f s1 q => ?_) (fun _ _ z => z)
  · obtain ⟨a, B, sI, ps1, σ1, H1, cls, d, rfl, I1, inB, up, sky, na, eos, bare, C, dd, rfl, rfl, hm, hsuite⟩ := hx
    have J1 : Inv X pins σ1 H1 sI := Inv.ofTry I1 ok
    have sky1 : Sky B (X.env :: X.outer) a (Zc (.ref C) (some dd)) X.env.locals s1.heap := by rw [← hs]; exact sky
    refine Sky.land Zc.steady afr hf sky1 fun h2 fly2 up2 => ?_
    have J2 : Inv X pins σ1 H1 { s1 with heap := h2 } := J1.landed inB fly2.1 (up.trans up2) eos bare
    obtain ⟨o2, us2, at2, z2, dt2⟩ := fly2.there
    have nofr : a ∉ frs (X.env :: X.outer) := fun hm => by
      obtain ⟨_, o', e', nfl⟩ := fly2.2.2.1.mem hm
      rw [at2] at e'; cases e'; exact nfl _ dt2
    have nL : a ≠ X.env.locals := fun z => nofr (List.mem_filterMap.mpr ⟨X.env, List.mem_cons_self, hf.trans (congrArg some z.symm)⟩)
    have nF : a ∉ X.fs := fun hm => by
      obtain ⟨en, h1, h2⟩ := List.mem_filterMap.mp hm
      exact nofr (List.mem_filterMap.mpr ⟨en, List.mem_cons_of_mem _ h1, h2⟩)
    have T2 := J2.suite at2 dt2 na nL nF
    refine wpAny_handleBy_cons (codeAny_handlers_test ?_) (by intro z; cases z)
    have ty2 : PySem.W.Looks (model X.prog X.w) h2 (typeOf (.ref a)) (.ref C) := fun A Q E s k q => wpAny_typeOf_ref (k _ _ at2) (by rw [z2.1]; exact q)
    obtain ⟨hg, hdb, hm2⟩ := hc
    refine ld_glob (X := X.suite a ((a, o2) :: (X.pn ++ pins))) T2 hg hm2 ?_ hdb
    refine (PySem.W.exm_one (M := model X.prog X.w) J2.kIn ty2 hm).here ?_
    refine codeAny_handlers_suite_as (HandSPX.lands_againZ fly2 fun h3 fly3 up3 => ?_)
    have J3 : Inv X pins σ1 H1 { s1 with heap := h3 } := J1.landed inB fly3.1 ((up.trans up2).trans up3) eos bare
    obtain ⟨o3, us3, at3, z3, dt3⟩ := fly3.there
    have T3 := J3.suite at3 dt3 na nL nF
    refine store_ok (X := X.suite a ((a, o3) :: (X.pn ++ pins))) (v := .ref a) T3 hN hi (.inl hln) rfl (fun s4 T4 => ?_) (.inr hln)
    refine wpAny_mono ((hsu a o3 (X.pn ++ pins)).run [] s4 _ H1 _ T4 (hsuite a na)) (fun f s5 q => ?_) (fun _ _ z => False.elim z)
    cases f with
    | next =>
      obtain ⟨σ5, H5, T5, q5⟩ := q
      refine gone_ok (X := X.suite a ((a, o3) :: (X.pn ++ pins))) T5 hN hi hln fun s6 T6 => ?_
      obtain ⟨at6, n6, _⟩ := T6.pin (a, o3) (List.mem_append_left _ List.mem_cons_self)
      refine ⟨_, _, Inv.track (T6.unsuite ok) n6 nL (fun p hp z => ?_) (fun o ho => ?_) at6 z3.1 z3.2 dt3, q5⟩
      · obtain ⟨p1, _, p3, p4, _⟩ := J1.pin p hp
        rw [z] at p1 p3 p4
        have z1 := inB a _ p1 fun hm => by
          rcases List.mem_cons.mp (I.stkSub a hm) with y | y
          · exact p3 y
          · exact p4 y
        rw [fly2.2.1] at z1; cases z1
      · obtain ⟨o', p1⟩ := J1.base.there a o ho (by rw [hex]; exact List.not_mem_nil)
        have z1 := inB a o' p1 (by rw [hs]; exact nofr)
        rw [fly2.2.1] at z1; cases z1
    | brk => obtain ⟨_, _, _, z⟩ := q; exact False.elim z
    | cont => obtain ⟨_, _, _, z⟩ := q; exact False.elim z
    | ret u => obtain ⟨_, _, _, _, _, z⟩ := q; exact False.elim z
  · cases f with
    | next =>
      obtain ⟨σ1, H1, I1, q⟩ := q
      exact wpAny_execs_nil ⟨σ1, H1, Inv.ofTry I1 ok, q⟩
    | brk =>
      obtain ⟨σ1, H1, I1, q⟩ := q
      exact ⟨σ1, H1, Inv.ofTry I1 ok, q⟩
    | cont =>
      obtain ⟨σ1, H1, I1, q⟩ := q
      exact ⟨σ1, H1, Inv.ofTry I1 ok, q⟩
    | ret u =>
      obtain ⟨v, σ1, H1, I1, r, q⟩ := q
      exact ⟨v, σ1, H1, Inv.ofTry I1 ok, r, q⟩
end
end Hk


namespace PySem.W
/-- isinstance(x, type(x)) -/
theorem kit_self {K : Frag} {x t : Value} {H : Heap → Prop} (ty : ∀ (M : Model) (h : Heap), K.In h → H h → Looks M h (typeOf x) t) : Answers (fun s => K.In s.heap ∧ H s.heap) x t true := by
  intro dep tk prog w A R s hs
  obtain ⟨h0, g, d, tt, os⟩ := s
  obtain ⟨⟨X, p⟩, hq⟩ := hs
  have L := ty (model prog w) h0 X p
  unfold Builtin.«isinstance.nested»
  refine wpAny_bind (L.at ?_)
  rw [if_pos (beq_self_eq_true t)]
  first
    | exact wpAny_bind (wpAny_rule (hq tt))
    | exact wpAny_bind (wpAny_rule (wpAny_pure (hq tt)))
    | (refine wpAny_bind ?_; exact wpAny_pure (hq tt))
end PySem.W
namespace Hk
open PySem PySem.Spec PySem.Calls PyProof.Rows L2
section
variable {X : Cx} {K : PySem.W.Frag} {mg : Str → Option Value} {σ : L2.St} {H : Hp}
/-- isinstance(e, C), e a kept error of the class at C -/
def rIsK : List V → Hp → VK → Prop := fun xs H Q => ∃ (a C d : Addr) (c : V), xs = [.ref a, c] ∧ (∀ u, RelV c u → u = .ref C) ∧ H a = some (exK a C d) ∧ Q (.bl true) H
theorem call_isK : CallR X (.builtin "isinstance") rIsK := by
  intro pins s σ H xs us Q I r h
  obtain ⟨a, C, d, c, rfl, hcv, ha, q⟩ := h
  cases r with | cons rx rr => cases rr with | cons rt rr =>
  cases rr
  cases rx
  have ec := hcv _ rt
  subst ec
  obtain ⟨oe, vs, h1, h2, h3, h4⟩ := exK_at I.hok ha
  refine call_isinstance (S := fun _ R s => (X.K.In s.heap ∧ s.heap.get? a = some oe) ∧ ∀ tk, R (.ok (.ret (.bool true))) { s with toks := tk })
    (fun prog w A R s hs => isinstance_outer (PySem.W.kit_self (K := X.K) (H := fun h => h.get? a = some oe) (fun M h _ g => ?_) 0 _ prog w A R s hs) (fun z => nomatch z)) ⟨⟨I.kIn, h1⟩, fun tk => ⟨.bl true, H, I.kept (t' := tk) fun _ _ z => z, rfl, q⟩⟩
  exact fun A Q E s k q => wpAny_typeOf_ref (k _ _ g) (by rw [h2]; exact q)
/-- e.value, e a kept error -/
def tVal (K : PySem.W.Frag) (te : TE) : TE := fun σ H Q => te σ H fun x H1 => ∃ (a C d : Addr) (v : V), x = .ref a ∧ PySem.W.findIn K (.ref C) "__getattribute__" = some (some (.builtin "BaseException.__getattribute__")) ∧ PySem.W.findIn K (.ref C) "__getattr__" = some none ∧
  PySem.W.subIn K (.ref C) (.type "BaseException") = some true ∧ PySem.W.hasDictIn K C = true ∧ PySem.W.findIn K (.ref C) "value" = some none ∧ H1 a = some (exK a C d) ∧ H1 d = some (.xd [("value", v)]) ∧ Q v H1
theorem pe_val {e : Expr} {te : TE} {pos : Pos} (he : PE X e te) (hb : attributeBase e "value" X.env (eval e X.env) = eval e X.env := by rfl) : PE X (.Attribute e "value" pos) (tVal X.K te) := by
  refine ⟨fun pins s σ H Q I h => attr_of hb (thn (he.run pins s σ H _ I h) fun u s1 hh => ?_)⟩
  obtain ⟨x, H1, I1, rx, a, C, d, v, rfl, ga, gg, sub, hd, nv, ea, ed, q⟩ := hh
  obtain rfl : u = Value.ref a := rx
  obtain ⟨oe, vs, h1, h2, h3, h4⟩ := exK_at I1.hok ea
  have hx : ObjOk X.prog X.w H1 s1.heap d (.xd [(("value" : Str), v)]) := I1.hok d _ ed
  obtain ⟨mA, hns, hr⟩ := hx
  obtain ⟨od, ho, hl⟩ := lookIn_ns hns
  have lv : List.lookup ("value" : Str) [(("value" : Str), v)] = some v := by simp [List.lookup]
  obtain ⟨uv, hu, ru⟩ := RelO.some_of (v := v) (o := mA "value") (by rw [← lv]; exact hr "value")
  have J : PySem.W.InstAt s1.heap a oe C (some od) := ⟨h1, h2, by unfold PySem.W.notCls; rw [h4] <;> rfl, by rw [h3]; exact ho⟩
  exact HandSPX.exc_get I1.kIn J ga gg sub (PySem.W.findObj_own hd nv rfl (by rw [hl, hu])) (handed_of ru) ⟨v, H1, I1.tok _, ru, q⟩
end
end Hk


namespace Hk
open PySem PySem.Spec PyProof.Rows L2
section
variable {X : Cx} {k : Nat} {x : Str} {ps : List Str} {sp : Sp} {p pos : Pos} {e : Expr} {es : List Expr} {t : TA} {W : WX}
/-- a call that may raise -/
theorem pe_callX (C : Cal X.prog X.w X.K X.mg X.base (L2.CX X.prog X.w) k x ps sp) (hr : Room k X.A) (tk : Takes X W) (ha : PA X (e :: es) t) (hg : Gl X x := by rfl) (hdb : (x == ("__debug__" : Str)) = false := by decide)
    (he : starEach (e :: es) X.env = (false, eval e X.env) :: starEach es X.env := by rfl) (hpl : (backTo pos (starEach es X.env)).any (·.1) = false := by rfl) : PE X (.Call (.Name x p) (e :: es) [] pos) (tCallS sp (WE W) t) := by
  obtain ⟨f, fd, F, m, kp, b⟩ := C.ex
  exact pe_callS F hr hg m kp b (fun σ => passAt tk σ) ha hdb he hpl
/-- raise C(v) -/
theorem ps_rais {C CM fI : Addr} {pos2 : Pos} (I : InitF X.prog X.w X.K X.mg X.base fI) (EC : ErrC X.K X.mg x C CM fI) (hr : Room 2 X.A) (hc : X.calm = true) (tk : Takes X W) (ha : PA X (e :: es) t) (hg : Gl X x := by rfl) (hdb : (x == ("__debug__" : Str)) = false := by decide)
    (he : starEach (e :: es) X.env = (false, eval e X.env) :: starEach es X.env := by rfl) (hpl : (backTo pos (starEach es X.env)).any (·.1) = false := by rfl) :
    PS X (.Raise (some (.Call (.Name x p) (e :: es) [] pos)) none pos2) (fun _ σ H => tMkO C (sp_init X.K) [] t σ H fun cls d H' => W cls d σ H') := by
  obtain ⟨fd, F, b⟩ := I.ok
  exact ps_raise hc tk (pmk_oex EC.ox EC.iC I.ty F hr b .nil pass0 hg EC.gC ha hdb he hpl)
theorem x_callS {σ : L2.St} {H : Hp} {Q : VK} {E : L2.St → XK} (h : t σ H fun vs H1 => sp vs H1 Q (E σ)) : tCallS sp E t σ H Q := h
theorem x_raise {C : Addr} {K : PySem.W.Frag} {σ : L2.St} {H : Hp} {E : XK} {v : V} {te : TE} (T : OexC K C) (nv : PySem.W.findIn K (.ref C) "value" = some none) (h : EvV te σ H v) (k : ∀ d H', Ex H H' → H' d = some (.xd [("value", v)]) → E (.ref C) (some d) H') :
    tMkO C (sp_init K) [] (tCons te tNil) σ H E := by
  refine x_mk (x_cons (h H (Ex.refl _) _ fun H1 e1 => x_nil (x_mk1 T nv fun d H' e2 q => k d H' (e1.trans e2) q)))
end
/-- the data v raises the error of the class at C, unless it is sound -/
def orErr (C : Addr) (v : V) (ok : Bool) (H : Hp) (Q : VK) (E : XK) : Prop := (ok = true → ∀ H', Ex H H' → Q v H') ∧ (ok = false → ∀ d H', Ex H H' → H' d = some (.xd [("value", v)]) → E (.ref C) (some d) H')
section
variable {P : Program} {w : World} {K : PySem.W.Frag} {mg : Str → Option Value} {base : Heap} {C CM fI : Addr}
def spX_sum (C : Addr) : Sp := fun vs H Q E => ∃ v L, vs = [v] ∧ Tp H v (dSumG L) ∧ (∀ t ∈ L, okMat t.1 t.2.1 = true) ∧ orErr C v (isSumF none L) H Q E
theorem wX_checked_sum (B : Bt mg) (D : DefIn K mg "checked_sum" (top 35)) (C_is_sum : Cal P w K mg base CX0 3 "is_sum" ["told"] (sp_is_sum)) (I : InitF P w K mg base fI) (EC : ErrC K mg "InvalidSum" C CM fI) : Cal P w K mg base (L2.CX P w) 4 "checked_sum" ["told"] (spX_sum C) := by
  obtain ⟨f, fd, F, g⟩ := D.ex
  refine ⟨f, fd, F.okX sc_checked_sum (fun vs H Q E h => ?_) (fun cdv A outer s H vs Q E hr h => ?_), g, F.kp, F.binds (ps := ["told"]) fun _ _ _ _ _ _ us hl => match us, hl with | [_], _ => rfl⟩
  · obtain ⟨v, L, rfl, _⟩ := h; rfl
  · obtain ⟨v, L, rfl, t0, hL, k1, k2⟩ := h
    refine ⟨_, (pss_cons (ps_if (pt_not (pt_val (pe_callC C_is_sum (hr.mono (by decide)) pass0 (pa_cons (pv 0) pa_nil))))
      (pss_one (ps_rais I EC (hr.mono (by decide)) rfl (takes_of rfl rfl rfl rfl) (by exact (pa_cons (pv 0) pa_nil)))) pss_nil) (pss_one (ps_ret (pv 0)))), ?_⟩
    refine s_seq (s_if (evt_not (evt_test (evd_callD (eva_cons (evd_var rfl t0) eva_nil) ⟨L, rfl, hL, rfl⟩))) (fun b H1 e1 => ?_) fun b H1 e1 => ?_)
    · exact x_raise EC.ox EC.nv (evv_var rfl) fun d H' e2 q => k2 (by simpa using b) d H' (e1.trans e2) q
    · exact s_next (s_retV (evv_var rfl) fun H2 e2 => k1 (by simpa using b) H2 (e1.trans e2))
def spX_poly (C : Addr) : Sp := fun vs H Q E => ∃ v p, vs = [v] ∧ Tp H v (dP p) ∧ orErr C v (!decide (p.getLast? = some 0)) H Q E
theorem wX_checked_poly (B : Bt mg) (D : DefIn K mg "checked_poly" (top 27)) (C_is_poly : Cal P w K mg base CX0 1 "is_poly" ["told"] (sp_is_poly)) (I : InitF P w K mg base fI) (EC : ErrC K mg "InvalidPoly" C CM fI) : Cal P w K mg base (L2.CX P w) 4 "checked_poly" ["told"] (spX_poly C) := by
  obtain ⟨f, fd, F, g⟩ := D.ex
  refine ⟨f, fd, F.okX (k := 3) sc_checked_poly (fun vs H Q E h => ?_) (fun cdv A outer s H vs Q E hr h => ?_), g, F.kp, F.binds (ps := ["told"]) fun _ _ _ _ _ _ us hl => match us, hl with | [_], _ => rfl⟩
  · obtain ⟨v, L, rfl, _⟩ := h; rfl
  · obtain ⟨v, L, rfl, t0, k1, k2⟩ := h
    refine ⟨_, (pss_cons (ps_if (pt_not (pt_val (pe_callC C_is_poly (hr.mono (by decide)) pass0 (pa_cons (pv 0) pa_nil))))
      (pss_one (ps_rais I EC (hr.mono (by decide)) rfl (takes_of rfl rfl rfl rfl) (by exact (pa_cons (pv 0) pa_nil)))) pss_nil) (pss_one (ps_ret (pv 0)))), ?_⟩
    refine s_seq (s_if (evt_not (evt_test (evd_callD (eva_cons (evd_var rfl t0) eva_nil) ⟨L, rfl, rfl⟩))) (fun b H1 e1 => ?_) fun b H1 e1 => ?_)
    · exact x_raise EC.ox EC.nv (evv_var rfl) fun d H' e2 q => k2 (by simpa using b) d H' (e1.trans e2) q
    · exact s_next (s_retV (evv_var rfl) fun H2 e2 => k1 (by simpa using b) H2 (e1.trans e2))
end
end Hk


namespace Hk
open PySem PySem.Spec PyProof.Rows L2
theorem x_raiseD {C : Addr} {K : PySem.W.Frag} {σ : L2.St} {H : Hp} {E : XK} {dd : PyData} {te : TE} (T : OexC K C) (nv : PySem.W.findIn K (.ref C) "value" = some none) (h : EvD te σ H dd) (k : ∀ v d H', Ex H H' → Tp H' v dd → H' d = some (.xd [("value", v)]) → E (.ref C) (some d) H') :
    tMkO C (sp_init K) [] (tCons te tNil) σ H E := by
  refine x_mk (x_cons (h H (Ex.refl _) _ fun v H1 e1 tv => x_nil (x_mk1 T nv fun d H' e2 q => k v d H' (e1.trans e2) (tv.ex e2) q)))
/-- raises the error of the class at C with v -/
abbrev kErr (C : Addr) (v : V) (H : Hp) (E : XK) : Prop := ∀ d H', Ex H H' → H' d = some (.xd [("value", v)]) → E (.ref C) (some d) H'
section
variable {P : Program} {w : World} {K : PySem.W.Frag} {mg : Str → Option Value} {base : Heap} {C C1 C2 CM fI : Addr}
def okL (L : List Tr) : Prop := ∀ t ∈ L, okMat t.1 t.2.1 = true
def spX_add (C : Addr) : Sp := fun vs H Q E => ∃ v v' L L', vs = [v, v'] ∧ Tp H v (dSumG L) ∧ Tp H v' (dSumG L') ∧ okL L ∧ okL L' ∧ isSumF none L = true ∧ isSumF none L' = false ∧ kErr C v' H E
theorem wX_add (B : Bt mg) (D : DefIn K mg "add" (top 38)) (CS : Cal P w K mg base (L2.CX P w) 4 "checked_sum" ["told"] (spX_sum C)) : Cal P w K mg base (L2.CX P w) 5 "add" ["one", "other"] (spX_add C) := by
  obtain ⟨f, fd, F, g⟩ := D.ex
  refine ⟨f, fd, F.okX sc_add (fun vs H Q E h => ?_) (fun cdv A outer s H vs Q E hr h => ?_), g, F.kp, F.binds (ps := ["one", "other"]) fun _ _ _ _ _ _ us hl => match us, hl with | [_, _], _ => rfl⟩
  · obtain ⟨v, v', L, L', rfl, _⟩ := h; rfl
  · obtain ⟨v, v', L, L', rfl, t0, t1, o0, o1, s0, s1, k⟩ := h
    refine ⟨_, (pss_cons (ps_expr (pe_callX CS hr (takes_of rfl rfl rfl rfl) (by exact (pa_cons (pv 0) pa_nil)))) (pss_stop (ps_expr (pe_callX CS hr (takes_of rfl rfl rfl rfl) (by exact (pa_cons (pv 1) pa_nil)))))), ?_⟩
    refine s_seq (x_drop (x_callS (x_cons (x_var rfl (x_nil ⟨v, L, rfl, t0, o0, fun _ H1 e1 => ?_, fun h => absurd (s0.symm.trans h) (by decide)⟩)))))
    exact x_drop (x_callS (x_cons (x_var rfl (x_nil ⟨v', L', rfl, t1.ex e1, o1, fun h => absurd (s1.symm.trans h) (by decide), fun _ d H2 e2 q => k d H2 (e1.trans e2) q⟩))))
def spX_mul (C1 C2 : Addr) : Sp := fun vs H Q E => ∃ v v' L L', vs = [v, v'] ∧ Tp H v (dSumG L) ∧ Tp H v' (dSumG L') ∧ okL L ∧ okL L' ∧ ((isSumF none L = false ∧ kErr C1 v H E) ∨
  (isSumF none L = true ∧ isSumF none L' = true ∧ ∃ (n n' : Nat) (t t' : List Nat × List Int) (S T : Tab), L = (t :: S).map (fun t => (n, t)) ∧ L' = (t' :: T).map (fun t => (n', t)) ∧ n ≠ n' ∧ ∀ u d H', Ex H H' → Tp H' u (.tuple [.int (n : Nat), .int (n' : Nat)]) → H' d = some (.xd [("value", u)]) → E (.ref C2) (some d) H'))
theorem wX_multiply (B : Bt mg) (D : DefIn K mg "multiply" (top 39)) (CS : Cal P w K mg base (L2.CX P w) 4 "checked_sum" ["told"] (spX_sum C1)) (C_pegs_of : Cal P w K mg base CX0 1 "pegs_of" ["told"] (sp_pegs_of)) (I : InitF P w K mg base fI) (EC : ErrC K mg "InvalidPair" C2 CM fI) :
    Cal P w K mg base (L2.CX P w) 5 "multiply" ["one", "other"] (spX_mul C1 C2) := by
  obtain ⟨f, fd, F, g⟩ := D.ex
  refine ⟨f, fd, F.okX sc_multiply (fun vs H Q E h => ?_) (fun cdv A outer s H vs Q E hr h => ?_), g, F.kp, F.binds (ps := ["one", "other"]) fun _ _ _ _ _ _ us hl => match us, hl with | [_, _], _ => rfl⟩
  · obtain ⟨v, v', L, L', rfl, _⟩ := h; rfl
  · obtain ⟨v, v', L, L', rfl, t0, t1, o0, o1, ⟨s0, k⟩ | ⟨s0, s1, n, n', t, t', S, T, rfl, rfl, ne, k⟩⟩ := h
    · refine ⟨_, (pss_stop (ps_expr (pe_callX CS hr (takes_of rfl rfl rfl rfl) (by exact (pa_cons (pv 0) pa_nil))))), ?_⟩
      exact x_drop (x_callS (x_cons (x_var rfl (x_nil ⟨v, L, rfl, t0, o0, fun h => absurd (s0.symm.trans h) (by decide), fun _ d H2 e2 q => k d H2 e2 q⟩))))
    · refine ⟨_, (pss_cons (ps_expr (pe_callX CS hr (takes_of rfl rfl rfl rfl) (by exact (pa_cons (pv 0) pa_nil)))) (pss_cons (ps_expr (pe_callX CS hr (takes_of rfl rfl rfl rfl) (by exact (pa_cons (pv 1) pa_nil))))
  (pss_cons (ps_if (PW.pt (pw_or (pt_cmpR (op_eqD hr.units) (pv 0) (pe_tup pa_nil) (nomark _)) (pw_or1 (pt_cmpR (op_eqD hr.units) (pv 1) (pe_tup pa_nil) (nomark _)))))
  (pss_one (ps_ret (pe_tupF pa_nil)))
  pss_nil)
  (pss_stop (ps_if (pt_cmpR op_ne (pe_ix ix_tup (pe_callC C_pegs_of (hr.mono (by decide)) pass0 (pa_cons (pv 0) pa_nil)) pe_int (fun _ _ => rfl)) (pe_ix ix_tup (pe_callC C_pegs_of (hr.mono (by decide)) pass0 (pa_cons (pv 1) pa_nil)) pe_int (fun _ _ => rfl)) (nomark _))
  (pss_one (ps_rais I EC (hr.mono (by decide)) rfl (takes_of rfl rfl rfl rfl) (by exact (pa_cons (pe_tup (pa_cons (pe_ix ix_tup (pe_callC C_pegs_of (hr.mono (by decide)) pass0 (pa_cons (pv 0) pa_nil)) pe_int (fun _ _ => rfl)) (pa_cons (pe_ix ix_tup (pe_callC C_pegs_of (hr.mono (by decide)) pass0 (pa_cons (pv 1) pa_nil)) pe_int (fun _ _ => rfl)) pa_nil))) pa_nil))))
  pss_nil))))), ?_⟩
      refine s_seq (x_drop (x_callS (x_cons (x_var rfl (x_nil ⟨v, _, rfl, t0, o0, fun _ H1 e1 => ?_, fun h => absurd (s0.symm.trans h) (by decide)⟩)))))
      refine s_seq (x_drop (x_callS (x_cons (x_var rfl (x_nil ⟨v', _, rfl, t1.ex e1, o1, fun _ H2 e2 => ?_, fun h => absurd (s1.symm.trans h) (by decide)⟩)))))
      have e02 := e1.trans e2
      have t0' := t0.ex e02
      have t1' := t1.ex e02
      dsimp only
      refine s_seq (s_if (evt_or (evt_test (evd_eqD (evd_var rfl (show Tp H2 v (dSum n (t :: S)) by rw [← dSumG_of]; exact t0')) (evd_tup eva_nil) (sh_Sum _ _) sh_nil (eqv_Sum_nil n _))) fun _ => (evt_test (evd_eqD (evd_var rfl (show Tp H2 v' (dSum n' (t' :: T)) by rw [← dSumG_of]; exact t1')) (evd_tup eva_nil) (sh_Sum _ _) sh_nil (eqv_Sum_nil n' _)))) (fun hb H3 e3 => by simp at hb) fun hb H3 e3 => s_next ?_)
      have e03 := e02.trans e3
      have t0'' := t0.ex e03
      have t1'' := t1.ex e03
      dsimp only
      refine (s_if (b := true) (EvT.is (evt_test (evd_neI (evd_ixT (evd_callD (eva_cons (evd_var rfl t0'') eva_nil) ⟨(n, t), _, rfl, rfl⟩) evd_int rfl) (evd_ixT (evd_callD (eva_cons (evd_var rfl t1'') eva_nil) ⟨(n', t'), _, rfl, rfl⟩) evd_int rfl))) (by simp; omega)) (fun _ H4 e4 => ?_) (fun h => by cases h))
      have e04 := e03.trans e4
      refine x_raiseD EC.ox EC.nv (evd_tup (eva_cons (evd_ixT (evd_callD (eva_cons (evd_var rfl (t0.ex e04)) eva_nil) ⟨(n, t), _, rfl, rfl⟩) evd_int rfl) (eva_cons (evd_ixT (evd_callD (eva_cons (evd_var rfl (t1.ex e04)) eva_nil) ⟨(n', t'), _, rfl, rfl⟩) evd_int rfl) eva_nil))) fun u d H5 e5 tu q => k u d H5 (e04.trans e5) tu q
def spX_scaled (C2 : Addr) : Sp := fun vs H Q E => ∃ v v' L p, vs = [v, v'] ∧ Tp H v (dSumG L) ∧ Tp H v' (dP p) ∧ okL L ∧ isSumF none L = true ∧ p.getLast? = some 0 ∧ kErr C2 v' H E
theorem wX_scaled (B : Bt mg) (D : DefIn K mg "scaled" (top 40)) (CS : Cal P w K mg base (L2.CX P w) 4 "checked_sum" ["told"] (spX_sum C1)) (CP : Cal P w K mg base (L2.CX P w) 4 "checked_poly" ["told"] (spX_poly C2)) : Cal P w K mg base (L2.CX P w) 5 "scaled" ["told", "poly"] (spX_scaled C2) := by
  obtain ⟨f, fd, F, g⟩ := D.ex
  refine ⟨f, fd, F.okX sc_scaled (fun vs H Q E h => ?_) (fun cdv A outer s H vs Q E hr h => ?_), g, F.kp, F.binds (ps := ["told", "poly"]) fun _ _ _ _ _ _ us hl => match us, hl with | [_, _], _ => rfl⟩
  · obtain ⟨v, v', L, L', rfl, _⟩ := h; rfl
  · obtain ⟨v, v', L, p, rfl, t0, t1, o0, s0, s1, k⟩ := h
    refine ⟨_, (pss_cons (ps_expr (pe_callX CS hr (takes_of rfl rfl rfl rfl) (by exact (pa_cons (pv 0) pa_nil)))) (pss_stop (ps_if (pt_cmpR (op_eqD hr.units) (pe_callX CP hr (takes_of rfl rfl rfl rfl) (by exact (pa_cons (pv 1) pa_nil))) (pe_tup pa_nil) (nomark _)) (pss_one (ps_ret (pe_tupF pa_nil))) pss_nil))), ?_⟩
    refine s_seq (x_drop (x_callS (x_cons (x_var rfl (x_nil ⟨v, L, rfl, t0, o0, fun _ H1 e1 => ?_, fun h => absurd (s0.symm.trans h) (by decide)⟩)))))
    dsimp only
    refine x_if (x_test (x_op (x_callS (x_cons (x_var rfl (x_nil ⟨v', p, rfl, t1.ex e1, fun h => ?_, fun _ d H2 e2 q => k d H2 (e1.trans e2) q⟩))))))
    rw [s1] at h; simp at h
end
end Hk


namespace Hk
open PySem PySem.Spec PyProof.Rows L2
section
variable {P : Program} {w : World} {K : PySem.W.Frag} {mg : Str → Option Value} {base : Heap} {C C1 C2 CM fI : Addr}
theorem cxNew : CXNew (L2.CX P w) := by
  rintro outer s H h2 p rest E e s' k hp hn ⟨a, B, H', cls, d, rfl, fly, ok, u, na, os, bare, q⟩
  have ne : ∀ b o, s.heap.get? b = some o → b ≠ p := fun b o e z => Nat.lt_irrefl p (Nat.lt_of_lt_of_le (z ▸ Heap.lt_size e) hp)
  have up : ∀ b o, H b = some o → upd H p (.tup rest) b = some o := fun b o e => by rw [upd_ne (ne_of_none e hn)]; exact e
  exact ⟨a, B, H', cls, d, rfl, fly, ok, ⟨fun b o e n f => u.keep b o (k b o e) (by rw [upd_ne (ne b o e)]; exact n) f, fun b o e f => u.slot b o (k b o e) f, fun b o e n => u.free b o (k b o e) (by rw [upd_ne (ne b o e)]; exact n),
    fun b o e f => u.there b o (k b o e) f, fun b xs e => u.tups b xs (up _ _ e), fun b o xs e => u.frzs b o xs (up _ _ e), fun b ps e => u.tbls b ps (up _ _ e)⟩, na, os, bare, q⟩
/-- a word with a hook that there is not, at j -/
def badW (n : Nat) (wd : List Nat) (m : Nat) : Prop := ∃ j : Nat, wd[j]? = some m ∧ ¬ (m + 1 < n) ∧ ∀ i l : Nat, i < j → wd[i]? = some l → l + 1 < n
def spX_words (C : Addr) : Sp := fun vs H Q E => ∃ (n m : Nat) (wd : List Nat) (v : V), vs = [.int n, v] ∧ Tp H v (dN wd) ∧ 1 ≤ n ∧ badW n wd m ∧ kErr C (.int m) H E
theorem wX_check_words (B : Bt mg) (D : DefIn K mg "check_words" (top 30)) (C_check_size : Cal P w K mg base CX0 1 "check_size" ["n"] sp_check_size) (I : InitF P w K mg base fI) (EC : ErrC K mg "InvalidHook" C CM fI) : CalR P w K mg base (L2.CX P w) 4 "check_words" (spX_words C) := by
  obtain ⟨f, fd, F, g⟩ := D.ex
  have kp := F.kp
  obtain ⟨oc, od, kV, doc, pm, an, cdv, ct, osl, rfl, lk, hcd⟩ := F.ex
  have R := fn_ofV (P := P) (w := w) (mg := mg) (base := base) (CX := L2.CX P w) (k := 3) (pa := "n") (pv := "words") (nmax := 5) (N := ["n", "words", "word", "index"])
    (sp := fun vs H Q E => ∃ (n m : Nat) (wd : List Nat), TpAll H vs [.int n, .tuple [dN wd]] ∧ 1 ≤ n ∧ badW n wd m ∧ kErr C (.int m) H E) lk hcd sc_check_words (by decide)
    (bindV_of (fun _ => rfl) (fun _ _ => rfl) (fun _ _ _ => rfl) (fun _ _ _ _ => rfl) (fun _ _ _ _ _ => rfl) (fun _ _ _ _ _ _ => rfl)) cxNew (fun A outer s H vs Q E hr h => by
      obtain ⟨n, m, wd, t, h1, ⟨j, hj, hm, hlt⟩, k⟩ := h
      obtain ⟨v0, w0, rfl, t0, t1⟩ := t.i2
      cases t0.int_inv
      refine ⟨_, (pss_cons (ps_expr (pe_callC C_check_size (hr.mono (by decide)) pass0 (pa_cons (pv 0) pa_nil)))
  (pss_one (ps_for (passes_of rfl) rfl (pi_tup (pv 1)) (pg_name (i := 2) sc_check_words.nd rfl (Or.inl rfl))
  (pss_one (ps_for (passes_of rfl) rfl (pi_tup (pv 2)) (pg_name (i := 3) sc_check_words.nd rfl (Or.inl rfl))
  (pss_one (ps_if (pt_not (pt_chain op_le op_lt pe_int (pv 3) (pe_op op_sub (pv 0) pe_int)))
  (pss_one (ps_rais I EC (hr.mono (by decide)) rfl (takes_of rfl rfl rfl rfl) (by exact (pa_cons (pv 3) pa_nil))))
  pss_nil))))))), ?_⟩
      refine s_seq (s_drop (evd_callD (eva_cons (evd_var rfl (.int _)) eva_nil) ⟨_, rfl, by omega, rfl⟩) fun H1 e1 => ?_)
      refine s_forT (evd_var rfl (t1.ex e1)) (fun Hs i σ' H' => ∃ a b, σ' = [some (.int n), some w0, a, b] ∧ Ex H H' ∧ Ex Hs H' ∧ i = 0) (fun Hs es => ⟨_, _, rfl, e1.trans es, Ex.refl _, rfl⟩) (fun _ _ _ _ ⟨_, _, _, _, e, _⟩ => e.tk) ?_ ?_
      · rintro Hs i d x σ2 H2 es hd ⟨a, b, rfl, e0, e2, rfl⟩ tx
        have ed : d = dN wd := (Option.some.inj hd).symm
        subst ed
        refine s_forT (evd_var rfl (show Tp H2 x (.tuple (nats wd)) from tx)) (fun Ht i σ' H' => ∃ b, σ' = [some (.int n), some w0, some x, b] ∧ Ex H H' ∧ Ex Hs H' ∧ Ex Ht H' ∧ i ≤ j) (fun Ht es => ⟨_, rfl, e0.trans es, e2.trans es, Ex.refl _, Nat.zero_le _⟩) (fun _ _ _ _ ⟨_, _, _, _, e, _⟩ => e.tk) ?_ ?_
        · rintro Ht i d y σ3 H3 et hd ⟨b, rfl, e0, e2, e3, hi⟩ ty
          obtain ⟨l, hl, rfl⟩ := nats_get' hd
          cases ty.int_inv
          refine x_name ?_
          refine s_if (b := !(decide ((0 : Int) ≤ (l : Nat)) && decide (((l : Nat) : Int) < (n : Int) - 1))) ?_ (fun hb H4 e4 => ?_) fun hb H4 e4 => ?_
          · exact EvT.is (evt_not (evt_test (evd_chain evd_int (evd_var rfl (.int _)) (evd_II (evd_var rfl (.int _)) evd_int)))) rfl
          · have hij : i = j := by
              refine Classical.byContradiction fun hne => ?_
              have := hlt i l (by omega) hl
              simp at hb; omega
            subst hij
            rw [hj] at hl
            obtain rfl := Option.some.inj hl
            exact x_raise EC.ox EC.nv (evv_var rfl) fun d H5 e5 q => k d H5 ((e0.trans e4).trans e5) q
          · have hij : i ≠ j := fun z => by
              subst z
              rw [hj] at hl
              obtain rfl := Option.some.inj hl
              simp at hb; omega
            exact ⟨_, rfl, e0.trans e4, e2.trans e4, e3.trans e4, by omega⟩
        · rintro Ht σ3 H3 et ⟨b, rfl, e0, e2, e3, hi⟩
          have := (List.getElem?_eq_some_iff.mp hj).1
          have hl : (nats wd).length = wd.length := by unfold nats; simp
          rw [hl] at hi; omega
      · rintro Hs σ2 H2 es ⟨a, b, rfl, e0, e2, hi⟩
        exact absurd hi (by simp))
  refine ⟨f, R.imp fun vs H Q E h => ?_, g, kp⟩
  obtain ⟨n, m, wd, v, rfl, t1, h1, hb, k⟩ := h
  refine ⟨.int n, [v], rfl, by simp, fun p hp => ⟨n, m, wd, .cons (.int _) (.cons (.tup (.inl upd_same) (.cons (t1.ex (Ex.new hp)) .nil)) .nil), h1, hb, fun d H' e' q => k d H' ((Ex.new hp).trans e') q⟩⟩
theorem wX_value_of (B : Bt mg) (D : DefIn K mg "value_of" (top 31)) (CW : CalR P w K mg base (L2.CX P w) 4 "check_words" (spX_words C)) : Cal P w K mg base (L2.CX P w) 5 "value_of" ["n", "word"] (spX_words C) := by
  obtain ⟨f, fd, F, g⟩ := D.ex
  refine ⟨f, fd, F.okX sc_value_of (fun vs H Q E h => ?_) (fun cdv A outer s H vs Q E hr h => ?_), g, F.kp, F.binds (ps := ["n", "word"]) fun _ _ _ _ _ _ us hl => match us, hl with | [_, _], _ => rfl⟩
  · obtain ⟨n, m, wd, v, rfl, _⟩ := h; rfl
  · obtain ⟨n, m, wd, v, rfl, t1, h1, hb, k⟩ := h
    refine ⟨_, pss_stop (ps_expr (pe_callR CW hr (passes_call (takes_of rfl rfl rfl rfl) fun _ _ _ _ h => h) (by exact (pa_cons (pv 0) (pa_cons (pv 1) pa_nil))))), ?_⟩
    exact x_drop (x_call (x_cons (x_var rfl (x_cons (x_var rfl (x_nil ⟨n, m, wd, v, rfl, t1, h1, hb, k⟩))))))
theorem wX_word_sum (B : Bt mg) (D : DefIn K mg "word_sum" (top 43)) (CV : Cal P w K mg base (L2.CX P w) 5 "value_of" ["n", "word"] (spX_words C)) : Cal P w K mg base (L2.CX P w) 6 "word_sum" ["n", "word"] (spX_words C) := by
  obtain ⟨f, fd, F, g⟩ := D.ex
  refine ⟨f, fd, F.okX sc_word_sum (fun vs H Q E h => ?_) (fun cdv A outer s H vs Q E hr h => ?_), g, F.kp, F.binds (ps := ["n", "word"]) fun _ _ _ _ _ _ us hl => match us, hl with | [_, _], _ => rfl⟩
  · obtain ⟨n, m, wd, v, rfl, _⟩ := h; rfl
  · obtain ⟨n, m, wd, v, rfl, t1, h1, hb, k⟩ := h
    refine ⟨_, pss_stop (ps_asg (pe_callX CV hr (takes_of rfl rfl rfl rfl) (by exact (pa_cons (pv 0) (pa_cons (pv 1) pa_nil)))) (pg_tup rfl (pgs_cons (pg_name (i := 2) sc_word_sum.nd rfl (Or.inl rfl)) (pgs_cons (pg_name (i := 3) sc_word_sum.nd rfl (Or.inl rfl)) pgs_nil)))), ?_⟩
    exact x_asg (x_callS (x_cons (x_var rfl (x_cons (x_var rfl (x_nil ⟨n, m, wd, v, rfl, t1, h1, hb, k⟩))))))
end
end Hk


namespace Hk
open PySem PySem.Spec PyProof.Rows L2
section
variable {P : Program} {w : World} {K : PySem.W.Frag} {mg : Str → Option Value} {base : Heap} {C C1 C2 CM fI : Addr}
def spX_flip (C : Addr) : Sp := fun vs H Q E => ∃ v L, vs = [v] ∧ Tp H v (dSumG L) ∧ okL L ∧ isSumF none L = false ∧ kErr C v H E
theorem wX_flipped (B : Bt mg) (D : DefIn K mg "flipped" (top 42)) (CS : Cal P w K mg base (L2.CX P w) 4 "checked_sum" ["told"] (spX_sum C)) (C_upside_down : Cal P w K mg base CX0 4 "upside_down" ["mat"] (sp_upside_down)) : Cal P w K mg base (L2.CX P w) 5 "flipped" ["told"] (spX_flip C) := by
  obtain ⟨f, fd, F, g⟩ := D.ex
  refine ⟨f, fd, F.okX sc_flipped (fun vs H Q E h => ?_) (fun cdv A outer s H vs Q E hr h => ?_), g, F.kp, F.binds (ps := ["told"]) fun _ _ _ _ _ _ us hl => match us, hl with | [_], _ => rfl⟩
  · obtain ⟨v, L, rfl, _⟩ := h; rfl
  · obtain ⟨v, L, rfl, t0, o0, s0, k⟩ := h
    refine ⟨_, (pss_one (ps_ret (pe_tupleF (by rfl) B.tuple (pe_callB (cr_sortedD hr.units) (by rfl) B.sorted (by decide +kernel) (pa_cons (pe_lc (own := [("mat", 1), ("poly", 2)]) (g := (gTup K 2 (gCons (gName 1) (gCons (gName 2) gNil)))) rfl sc_flipped.nd (pi_tup (pe_callX CS hr (takes_of rfl rfl rfl rfl) (by exact (pa_cons (pv 0) pa_nil)))) (blkOk_by (N := ["told", "mat", "poly"]) (sc := defScope (top 42)) (by decide +kernel)) (fun _ _ _ _ _ => (pg_tup rfl (pgs_cons (pg_name (i := 1) sc_flipped.nd rfl (Or.inl rfl)) (pgs_cons (pg_name (i := 2) sc_flipped.nd rfl (Or.inl rfl)) pgs_nil)))) (fun _ _ _ _ _ => pts_nil) (fun _ _ _ _ _ => (pe_tup (pa_cons (pe_callC C_upside_down (hr.mono (by decide)) pass0 (pa_cons (pv 1) pa_nil)) (pa_cons (pv 2) pa_nil))))) pa_nil))))), ?_⟩
    refine x_ret ?_
    refine x_then ?_
    unfold tCB
    refine x_cons ?_
    unfold tLc iTup
    exact x_callS (x_cons (x_var rfl (x_nil ⟨v, L, rfl, t0, o0, fun h => absurd (s0.symm.trans h) (by decide), fun _ d H2 e2 q => k d H2 e2 q⟩)))
end
end Hk


namespace Hk
open PySem PySem.Spec PyProof.Rows L2
section
variable {K : PySem.W.Frag} {mg : Str → Option Value} {σ : L2.St} {H : Hp} {ae C d cM fI : Addr} {x : Str} {val : V}
theorem evd_isK (hv : σ[7]? = some (some (.ref ae))) (ha : H ae = some (exK ae C d)) : EvD (tCB rIsK (tCons (tVar 7) (tCons (tC (.ref C)) tNil))) σ H (.bool true) :=
  fun H1 e1 Q q => ⟨.ref ae, hv, ⟨ae, C, d, .ref C, rfl, fun _ r => r, e1 _ _ ha, q _ H1 (Ex.refl _) (.bl _)⟩⟩
theorem evv_val (EC : ErrC K mg x C cM fI) (hv : σ[7]? = some (some (.ref ae))) (ha : H ae = some (exK ae C d)) (hd : H d = some (.xd [("value", val)])) : EvV (tVal K (tVar 7)) σ H val :=
  fun H1 e1 Q q => ⟨.ref ae, hv, ae, C, d, val, rfl, EC.ga, EC.gg, EC.ox.exC, EC.hd, EC.nv, e1 _ _ ha, e1 _ _ hd, q H1 (Ex.refl _)⟩
theorem s_fin {D : Ends} {dd : PyData} {te : TE} (EC : ErrC K mg x C cM fI) (hv : σ[7]? = some (some (.ref ae))) (ha : H ae = some (exK ae C d)) (hd : H d = some (.xd [("value", val)])) (tv : Tp H val dd) (ht : EvD te σ H dd) (ok : Okd 7 dd) (k : ∀ H', Ex H H' → D.rt (.bl true) H') :
    tRet (tAndV (tCB rIsK (tCons (tVar 7) (tCons (tC (.ref C)) tNil))) (tCall (sp_same 7) [] E0 (tCons (tVal K (tVar 7)) (tCons te tNil)))) D σ H := by
  refine s_ret (d := .bool true) (evd_and (a := true) (b := true) (evd_isK hv ha) fun _ => evd_callP (as := [.val val, .dat dd]) (evm_val (evv_val EC hv ha hd) (evm_dat ht evm_nil)) fun vs H1 e1 ak => ?_) fun v H1 e1 t1 => by rw [t1.bl_inv]; exact k H1 e1
  match vs, ak with
  | [_, y], ⟨rfl, ty, _⟩ => exact ⟨_, _, dd, rfl, .inl (tv.ex e1), .inl ty, ok, rfl⟩
end
end Hk


namespace Hk
open PySem PySem.Spec PyProof.Rows L2
section
variable {P : Program} {w : World} {K : PySem.W.Frag} {mg : Str → Option Value} {base : Heap} {cES cEPo cEH cEPa cM fI : Addr}
/-- the wrong sum -/
def wrongL (n : Nat) (S : Tab) : List Tr := S.map (fun t => (n, t)) ++ [(n - 1, strM (n - 1), [1, 0])]
theorem wrong_data (n : Nat) (S : Tab) : dSumG (wrongL n S) = .tuple (S.map (dTerm n) ++ [.tuple [dMat (n - 1) (strM (n - 1)), dP [1, 0]]]) := by
  unfold wrongL dSumG
  rw [List.map_append, List.map_map]; rfl
theorem str_ok {n : Nat} (h1 : 1 ≤ n) (h6 : n ≤ 6) : okMat n (strM n) = true := by
  have : n = 1 ∨ n = 2 ∨ n = 3 ∨ n = 4 ∨ n = 5 ∨ n = 6 := by omega
  rcases this with rfl | rfl | rfl | rfl | rfl | rfl <;> decide +kernel
theorem wrong_ok {n : Nat} {S : Tab} (h : okS n S) : okL (wrongL n S) := fun t ht => by
  have h2 := h.n2
  have h6 := h.n6
  rcases List.mem_append.mp ht with z | z
  · exact h.tr t z
  · rw [List.mem_singleton.mp z]; exact str_ok (by omega) (by omega)
theorem wrong_not {n : Nat} {S : Tab} (h : okS n S) : isSumF none (wrongL n S) = false := by
  unfold wrongL
  rw [isSumF_from n S none (fun t ht => (h.vt t ht).2) h.asc (fun _ _ q => by cases q)]
  unfold isSumF
  exact if_pos (.inr rfl)
theorem badW_of {n : Nat} {wd : List Nat} (h : 1 ≤ n) (hw : ∀ h ∈ wd, h + 1 < n) : badW n (wd ++ [n - 1] ++ wd) (n - 1) := by
  refine ⟨wd.length, ?_, by omega, fun i l hi hl => hw l ?_⟩
  · rw [List.getElem?_append_left (by simp), List.getElem?_append_right (Nat.le_refl _)]; simp
  · rw [List.getElem?_append_left (by simp; omega), List.getElem?_append_left hi] at hl
    exact List.mem_of_getElem? hl
theorem wrong_okd {n : Nat} {S : Tab} (h : okS n S) (hl : S.length ≤ 999) (hr : Ln 1000 S) : Okd 7 (dSumG (wrongL n S)) := by
  have h2 := h.n2
  have h6 := h.n6
  rw [wrong_data]
  refine .tup (by simp; omega) fun d hd => ?_
  rcases List.mem_append.mp hd with z | z
  · cases okd_Sum (m := 2) h (by omega) hr with | tup _ r => exact r d z
  · rw [List.mem_singleton.mp z]
    refine .tup (by simp) fun d hd => ?_
    simp at hd
    rcases hd with rfl | rfl
    · exact okd_Mat (m := 2) _ _ (by unfold strM; simp; omega)
    · exact okd_P (m := 3) _ (by simp)
def sp_law_refused : Sp := fun vs H Q _ => ∃ (a : Addr) (v : V) (n : Nat) (A : Ask) (S : Tab), vs = [.ref a, v, .int n] ∧ Ls H a (A.data n) ∧ Tp H v (dSum n S) ∧ AskOk n A ∧ Hs n S ∧ 12 ≤ A.kind ∧ ∀ H', Ex H H' → Q (.bl true) H'
theorem sc_law_refused : FnScope ["_law_asking_here", "_law_told_left", "_law_size", "_law_kind", "_law_x", "_law_mesh", "_law_wrong", "_law_caught", "_law_hooks", "_law_bent_row", "e"] ["_law_asking_here", "_law_told_left", "_law_size"] (defScope (top 67)) := ⟨rfl, rfl, rfl, by decide +kernel, rfl, by decide +kernel, by decide +kernel⟩
theorem w_law_refused (B : Bt mg) (D : DefIn K mg "_law_refused" (top 67)) (C_law_same : Cal P w K mg base CX0 7 "_law_same" ["_law_found", "_law_due_here"] (sp_same 7)) (C_law_straight : Cal P w K mg base CX0 1 "_law_straight" ["_law_size"] sp_law_straight)
    (XA : Cal P w K mg base (L2.CX P w) 5 "add" ["one", "other"] (spX_add cES)) (XM : Cal P w K mg base (L2.CX P w) 5 "multiply" ["one", "other"] (spX_mul cES cEPa)) (XS : Cal P w K mg base (L2.CX P w) 5 "scaled" ["told", "poly"] (spX_scaled cEPo))
    (XW : Cal P w K mg base (L2.CX P w) 6 "word_sum" ["n", "word"] (spX_words cEH)) (XF : Cal P w K mg base (L2.CX P w) 5 "flipped" ["told"] (spX_flip cES)) (hM : mg "MatError" = some (.ref cM))
    (ES : ErrC K mg "InvalidSum" cES cM fI) (EPo : ErrC K mg "InvalidPoly" cEPo cM fI) (EH : ErrC K mg "InvalidHook" cEH cM fI) (EPa : ErrC K mg "InvalidPair" cEPa cM fI) :
    Cal P w K mg base CX0 8 "_law_refused" ["_law_asking_here", "_law_told_left", "_law_size"] sp_law_refused := by
  obtain ⟨f, fd, F, g⟩ := D.ex
  refine ⟨f, fd, F.ok sc_law_refused (fun vs H Q E h => ?_) (fun cdv A outer s H vs Q E hr h => ?_), g, F.kp, F.binds (ps := ["_law_asking_here", "_law_told_left", "_law_size"]) fun _ _ _ _ _ _ us hl => match us, hl with | [_, _, _], _ => rfl⟩
  · obtain ⟨a, v, n, A, S, rfl, _⟩ := h; rfl
  · obtain ⟨a, v, n, A, S, rfl, la, t0, hA, hS, hk, k⟩ := h
    refine ⟨_, (pss_cons (ps_par3 (i := 3) (j := 4) (l := 5) rfl sc_law_refused.nd rfl rfl rfl (by decide) (by decide) (by decide) rfl rfl rfl (pa_cons (pe_ix ix_list (pv 0) pe_int (fun _ _ => rfl)) (pa_cons (pe_ix ix_list (pv 0) pe_int (fun _ _ => rfl)) (pa_cons (pe_callC C_law_straight (hr.mono (by decide)) pass0 (pa_cons (pe_op op_sub (pv 2) pe_int) pa_nil)) pa_nil))) (by rfl))
  (pss_cons (ps_par (i := 6) (j := 7) rfl sc_law_refused.nd rfl rfl (by decide) rfl rfl (pa_cons (pe_op op_catA (pv 1) (pe_tup (pa_cons (pe_tup (pa_cons (pv 5) (pa_cons (pe_tup (pa_cons pe_int (pa_cons pe_int pa_nil))) pa_nil))) pa_nil))) (pa_cons pe_non pa_nil)) (by rfl))
  (pss_cons (ps_set (i := 8) sc_law_refused.nd rfl (Or.inl rfl) (pe_op op_catA (pe_op op_catA (pe_ix ix_list (pv 0) pe_int (fun _ _ => rfl)) (pe_tup (pa_cons (pe_op op_sub (pv 2) pe_int) pa_nil))) (pe_ix ix_list (pv 0) pe_int (fun _ _ => rfl))))
  (pss_cons (ps_set (i := 9) sc_law_refused.nd rfl (Or.inl rfl) (pe_op op_catA (pe_ix ix_list (pv 0) pe_int (fun _ _ => rfl)) (pe_tup (pa_cons pe_int pa_nil))))
  (pss_cons (ps_try_keep (i := 10) (tb := fun W => _) rfl rfl rfl sc_law_refused.nd rfl rfl ⟨by rfl, by decide, hM⟩ (fun W pn xe tk _ => by exact (pss_one (ps_if (PW.pt (pw_and (pt_cmpR op_eq (pv 3) pe_int (nomark _)) (pw_and1 (pt_cmpR op_eq (pe_op op_mod (pe_callTy call_int1 (by rfl) B.int PyProof.Rows.boot_int (pa_cons (pv 4) pa_nil)) pe_int) pe_int (nomark _)))))
  (pss_one (ps_expr (pe_callX XA (hr.mono (by decide)) tk (pa_cons (pv 1) (pa_cons (pv 6) pa_nil)))))
  (pss_one (ps_if (pt_cmpR op_eq (pv 3) pe_int (nomark _))
  (pss_one (ps_expr (pe_callX XM (hr.mono (by decide)) tk (pa_cons (pv 6) (pa_cons (pv 1) pa_nil)))))
  (pss_one (ps_if (PW.pt (pw_and (pt_cmpR op_eq (pv 3) pe_int (nomark _)) (pw_and1 (pt_cmpR op_eq (pe_op op_mod (pe_callTy call_int1 (by rfl) B.int PyProof.Rows.boot_int (pa_cons (pv 4) pa_nil)) pe_int) pe_int (nomark _)))))
  (pss_one (ps_expr (pe_callX XS (hr.mono (by decide)) tk (pa_cons (pv 1) (pa_cons (pv 9) pa_nil)))))
  (pss_one (ps_if (pt_cmpR op_eq (pv 3) pe_int (nomark _))
  (pss_one (ps_expr (pe_callX XW (hr.mono (by decide)) tk (pa_cons (pv 2) (pa_cons (pv 8) pa_nil)))))
  (pss_one (ps_if (PW.pt (pw_or (pt_cmpR op_eq (pe_op op_mod (pe_callTy call_int1 (by rfl) B.int PyProof.Rows.boot_int (pa_cons (pv 4) pa_nil)) pe_int) pe_int (nomark _)) (pw_or1 (pt_cmpR (show OpR _ _ (rEqD K) from op_eqD hr.units) (pv 1) (pe_tup pa_nil) (nomark _)))))
  (pss_one (ps_expr (pe_callX XF (hr.mono (by decide)) tk (pa_cons (pv 6) pa_nil))))
  (pss_one (ps_expr (pe_callX XM (hr.mono (by decide)) tk (pa_cons (pv 1) (pa_cons (pe_tup (pa_cons (pe_tup (pa_cons (pv 5) (pa_cons (pe_tup (pa_cons pe_int pa_nil)) pa_nil))) pa_nil)) pa_nil))))))))))))))))
  (fun a oe pn => (pss_one (ps_set (i := 7) sc_law_refused.nd rfl (Or.inl rfl) (pv 10)))))
  (pss_cons (ps_if (PW.pt (pw_and (pt_cmpR op_eq (pv 3) pe_int (nomark _)) (pw_and1 (pt_cmpR op_eq (pe_op op_mod (pe_callTy call_int1 (by rfl) B.int PyProof.Rows.boot_int (pa_cons (pv 4) pa_nil)) pe_int) pe_int (nomark _)))))
  (pss_one (ps_ret (pe_and (pe_callB call_isK (by rfl) B.isinstance (by decide +kernel) (pa_cons (pv 7) (pa_cons (pe_glob (v := .ref cEPo) (by rfl) EPo.gC rfl) pa_nil))) (pe_one (pe_callC C_law_same (hr.mono (by decide)) pass0 (pa_cons (pe_val (pv 7)) (pa_cons (pv 9) pa_nil)))))))
  pss_nil)
  (pss_cons (ps_if (pt_cmpR op_eq (pv 3) pe_int (nomark _))
  (pss_one (ps_ret (pe_and (pe_callB call_isK (by rfl) B.isinstance (by decide +kernel) (pa_cons (pv 7) (pa_cons (pe_glob (v := .ref cEH) (by rfl) EH.gC rfl) pa_nil))) (pe_one (pe_callC C_law_same (hr.mono (by decide)) pass0 (pa_cons (pe_val (pv 7)) (pa_cons (pe_op op_sub (pv 2) pe_int) pa_nil)))))))
  pss_nil)
  (pss_cons (ps_if (PW.pt (pw_and (pt_cmpR op_eq (pv 3) pe_int (nomark _)) (pw_and (pt_cmpR op_eq (pe_op op_mod (pe_callTy call_int1 (by rfl) B.int PyProof.Rows.boot_int (pa_cons (pv 4) pa_nil)) pe_int) pe_int (nomark _)) (pw_and1 (pt_cmpR (op_neD hr.units) (pv 1) (pe_tup pa_nil) (nomark _))))))
  (pss_one (ps_ret (pe_and (pe_callB call_isK (by rfl) B.isinstance (by decide +kernel) (pa_cons (pv 7) (pa_cons (pe_glob (v := .ref cEPa) (by rfl) EPa.gC rfl) pa_nil))) (pe_one (pe_callC C_law_same (hr.mono (by decide)) pass0 (pa_cons (pe_val (pv 7)) (pa_cons (pe_tup (pa_cons (pv 2) (pa_cons (pe_op op_sub (pv 2) pe_int) pa_nil))) pa_nil)))))))
  pss_nil)
  (pss_one (ps_ret (pe_and (pe_callB call_isK (by rfl) B.isinstance (by decide +kernel) (pa_cons (pv 7) (pa_cons (pe_glob (v := .ref cES) (by rfl) ES.gC rfl) pa_nil))) (pe_one (pe_callC C_law_same (hr.mono (by decide)) pass0 (pa_cons (pe_val (pv 7)) (pa_cons (pv 6) pa_nil))))))))))))))), ?_⟩
    have h2 := hS.ok.n2
    have h6 := hS.ok.n6
    have l8 := hS.len
    have e1n : ((n : Nat) : Int) - 1 = ((n - 1 : Nat) : Int) := by omega
    refine s_seq (s_par3D (d := .int (A.kind : Nat)) (e := .int A.x) (f := dMat (n - 1) (strM (n - 1))) (eva_cons (evd_ixL (evv_var rfl) la evd_int rfl) (eva_cons (evd_ixL (evv_var rfl) la evd_int rfl) (eva_cons (evd_callD (eva_cons (evd_II (evd_var rfl (.int _)) evd_int) eva_nil) ⟨n - 1, by rw [e1n], by omega, rfl⟩) eva_nil))) fun v1 v2 v3 H1 e1 t1 t2 t3 => ?_)
    cases t1.int_inv
    cases t2.int_inv
    have la := la.ex e1
    have t0 := t0.ex e1
    dsimp only
    refine s_seq (s_parD (d := dSumG (wrongL n S)) (e := .none) (eva_cons (EvD.is (evd_catT (evd_var rfl t0) (evd_tup (eva_cons (evd_tup (eva_cons (evd_var rfl t3) (eva_cons (evd_tup (eva_cons evd_int (eva_cons evd_int eva_nil))) eva_nil))) eva_nil)) (by simp; omega)) (wrong_data n S).symm) (eva_cons evd_non eva_nil)) fun v4 v5 H2 e2 t4 t5 => ?_)
    have la := la.ex e2
    have t0 := t0.ex e2
    have t3 := t3.ex e2
    dsimp only
    refine s_seq (s_asg (d := dN (A.w ++ [n - 1] ++ A.w)) (EvD.is (evd_catT (evd_catT (evd_ixL (evv_var rfl) la evd_int rfl) (evd_tup (eva_cons (evd_II (evd_var rfl (.int _)) evd_int) eva_nil)) ?_) (evd_ixL (evv_var rfl) la evd_int rfl) ?_) ?_) fun v6 H3 e3 t6 => ?_)
    · have := hA.wl
      simp; omega
    · have := hA.wl
      simp; omega
    · have : dN (A.w ++ [n - 1] ++ A.w) = .tuple (nats A.w ++ [.int ((n - 1 : Nat) : Int)] ++ nats A.w) := by unfold dN nats; simp
      rw [this, ← e1n]; rfl
    have la := la.ex e3
    have t0 := t0.ex e3
    have t3 := t3.ex e3
    have t4 := t4.ex e3
    dsimp only
    refine s_seq (s_asg (d := dP (A.p ++ [0])) (EvD.is (evd_catT (evd_ixL (evv_var rfl) la evd_int rfl) (evd_tup (eva_cons evd_int eva_nil)) ?_) ?_) fun v7 H4 e4 t7 => ?_)
    · have := hA.rlen
      simp; omega
    · unfold dP; simp
    have t0 := t0.ex e4
    have t3 := t3.ex e4
    have t4 := t4.ex e4
    have t6 := t6.ex e4
    have e04 := ((e1.trans e2).trans e3).trans e4
    have tS : Tp H4 v (dSumG (S.map fun t => (n, t))) := by rw [dSumG_of]; exact t0
    have kS : (14 : Int) = (A.kind : Nat) ∨ (12 : Int) = (A.kind : Nat) ∨ (13 : Int) = (A.kind : Nat) := by have := hA.kind; omega
    have okW := wrong_ok hS.ok
    have noW := wrong_not hS.ok
    have badw : badW n (A.w ++ [n - 1] ++ A.w) (n - 1) := badW_of (by omega) hA.wh
    have okW0 : Okd 7 (dSumG (wrongL n S)) := wrong_okd hS.ok (by omega) (hS.ln (by decide))
    dsimp only
    refine s_seq ?_
    have kf : ∀ H', Ex H4 H' → Q (.bl true) H' := fun H' e' => k H' (e04.trans e')
    refine s_if (evt_and (evt_test (evd_eqI (evd_var rfl (.int _)) evd_int)) fun _ => evt_test (evd_eqI (evd_IC (evd_int1 (evd_var rfl (.int _))) evd_int (by decide)) evd_int)) (fun hb H5 e5 => ?_) fun hb H5 e5 => ?_
    · have f1 : A.kind = 12 ∧ A.x % 2 = 0 := by simp at hb; omega
      refine x_drop (x_callS (x_cons (x_var rfl (x_cons (x_var rfl (x_nil ⟨v, v4, _, _, rfl, tS.ex e5, t4.ex e5, hS.ok.tr, okW, isSumF_ok hS.ok, noW, fun d H6 e6 hd => ?_⟩))))))
      refine ⟨cES, d, rfl, rfl, ES.ex, fun ae na => x_asg (x_var rfl (x_name ?_))⟩
      have eK : Ex H4 (upd H6 ae (exK ae cES d)) := Ex.trans (e5.trans e6) (Ex.new na)
      have hd2 : upd H6 ae (exK ae cES d) d = some (.xd [("value", _)]) := (Ex.new na) _ _ hd
      have ha2 : upd H6 ae (exK ae cES d) ae = some (exK ae cES d) := upd_same
      dsimp only
      refine s_seq (s_if (evt_and (evt_test (evd_eqI (evd_var rfl (.int _)) evd_int)) fun _ => evt_test (evd_eqI (evd_IC (evd_int1 (evd_var rfl (.int _))) evd_int (by decide)) evd_int)) (fun hb H8 e8 => ?_) fun hb H8 e8 => s_next ?_)
      · simp at hb; omega
      dsimp only
      refine s_seq (s_if (evt_test (evd_eqI (evd_var rfl (.int _)) evd_int)) (fun hb H9 e9 => ?_) fun hb H9 e9 => s_next ?_)
      · simp at hb; omega
      dsimp only
      refine s_seq (s_if (evt_and (evt_test (evd_eqI (evd_var rfl (.int _)) evd_int)) fun _ => evt_and (evt_test (evd_eqI (evd_IC (evd_int1 (evd_var rfl (.int _))) evd_int (by decide)) evd_int)) fun _ => evt_test (evd_neD (evd_var rfl (t0.ex ((eK.trans e8).trans e9))) (evd_tup eva_nil) (sh_Sum _ _) sh_nil (eqv_Sum_nil n _))) (fun hb H10 e10 => ?_) fun hb H10 e10 => s_next ?_)
      · simp at hb; omega
      exact s_fin ES rfl (((e8.trans e9).trans e10) _ _ ha2) (((e8.trans e9).trans e10) _ _ hd2) (t4.ex (((eK.trans e8).trans e9).trans e10)) (evd_var rfl (t4.ex (((eK.trans e8).trans e9).trans e10))) okW0 fun H11 e11 => kf H11 ((((eK.trans e8).trans e9).trans e10).trans e11)
    have f1 : ¬ (A.kind = 12 ∧ A.x % 2 = 0) := by simp at hb; omega
    refine s_if (evt_test (evd_eqI (evd_var rfl (.int _)) evd_int)) (fun hb H5b e5b => ?_) fun hb H5b e5b => ?_
    · have f2 : A.kind = 12 := by simp at hb; omega
      refine x_drop (x_callS (x_cons (x_var rfl (x_cons (x_var rfl (x_nil ⟨v4, v, _, _, rfl, t4.ex (e5.trans e5b), tS.ex (e5.trans e5b), okW, hS.ok.tr, .inl ⟨noW, fun d H6 e6 hd => ?_⟩⟩))))))
      refine ⟨cES, d, rfl, rfl, ES.ex, fun ae na => x_asg (x_var rfl (x_name ?_))⟩
      have eK : Ex H4 (upd H6 ae (exK ae cES d)) := Ex.trans ((e5.trans e5b).trans e6) (Ex.new na)
      have hd2 : upd H6 ae (exK ae cES d) d = some (.xd [("value", _)]) := (Ex.new na) _ _ hd
      have ha2 : upd H6 ae (exK ae cES d) ae = some (exK ae cES d) := upd_same
      dsimp only
      refine s_seq (s_if (evt_and (evt_test (evd_eqI (evd_var rfl (.int _)) evd_int)) fun _ => evt_test (evd_eqI (evd_IC (evd_int1 (evd_var rfl (.int _))) evd_int (by decide)) evd_int)) (fun hb H8 e8 => ?_) fun hb H8 e8 => s_next ?_)
      · simp at hb; omega
      dsimp only
      refine s_seq (s_if (evt_test (evd_eqI (evd_var rfl (.int _)) evd_int)) (fun hb H9 e9 => ?_) fun hb H9 e9 => s_next ?_)
      · simp at hb; omega
      dsimp only
      refine s_seq (s_if (evt_and (evt_test (evd_eqI (evd_var rfl (.int _)) evd_int)) fun _ => evt_and (evt_test (evd_eqI (evd_IC (evd_int1 (evd_var rfl (.int _))) evd_int (by decide)) evd_int)) fun _ => evt_test (evd_neD (evd_var rfl (t0.ex ((eK.trans e8).trans e9))) (evd_tup eva_nil) (sh_Sum _ _) sh_nil (eqv_Sum_nil n _))) (fun hb H10 e10 => ?_) fun hb H10 e10 => s_next ?_)
      · simp at hb; omega
      exact s_fin ES rfl (((e8.trans e9).trans e10) _ _ ha2) (((e8.trans e9).trans e10) _ _ hd2) (t4.ex (((eK.trans e8).trans e9).trans e10)) (evd_var rfl (t4.ex (((eK.trans e8).trans e9).trans e10))) okW0 fun H11 e11 => kf H11 ((((eK.trans e8).trans e9).trans e10).trans e11)
    have f2 : A.kind ≠ 12 := by simp at hb; omega
    have e5 := e5.trans e5b
    refine s_if (evt_and (evt_test (evd_eqI (evd_var rfl (.int _)) evd_int)) fun _ => evt_test (evd_eqI (evd_IC (evd_int1 (evd_var rfl (.int _))) evd_int (by decide)) evd_int)) (fun hb H5c e5c => ?_) fun hb H5c e5c => ?_
    · have f3 : A.kind = 13 ∧ A.x % 2 = 0 := by simp at hb; omega
      refine x_drop (x_callS (x_cons (x_var rfl (x_cons (x_var rfl (x_nil ⟨v, v7, _, A.p ++ [0], rfl, tS.ex (e5.trans e5c), t7.ex (e5.trans e5c), hS.ok.tr, isSumF_ok hS.ok, by simp, fun d H6 e6 hd => ?_⟩))))))
      refine ⟨cEPo, d, rfl, rfl, EPo.ex, fun ae na => x_asg (x_var rfl (x_name ?_))⟩
      have eK : Ex H4 (upd H6 ae (exK ae cEPo d)) := Ex.trans ((e5.trans e5c).trans e6) (Ex.new na)
      have hd2 : upd H6 ae (exK ae cEPo d) d = some (.xd [("value", _)]) := (Ex.new na) _ _ hd
      have ha2 : upd H6 ae (exK ae cEPo d) ae = some (exK ae cEPo d) := upd_same
      dsimp only
      refine s_seq (s_if (evt_and (evt_test (evd_eqI (evd_var rfl (.int _)) evd_int)) fun _ => evt_test (evd_eqI (evd_IC (evd_int1 (evd_var rfl (.int _))) evd_int (by decide)) evd_int)) (fun hb H8 e8 => ?_) fun hb H8 e8 => s_next ?_)
      · exact s_fin EPo rfl (e8 _ _ ha2) (e8 _ _ hd2) (t7.ex (eK.trans e8)) (evd_var rfl (t7.ex (eK.trans e8))) (okd_P _ (by have := hA.rlen; simp; omega)) fun H9 e9 => kf H9 ((eK.trans e8).trans e9)
      · simp at hb; omega
    have f3 : ¬ (A.kind = 13 ∧ A.x % 2 = 0) := by simp at hb; omega
    have e5 := e5.trans e5c
    refine s_if (evt_test (evd_eqI (evd_var rfl (.int _)) evd_int)) (fun hb H5d e5d => ?_) fun hb H5d e5d => ?_
    · have f4 : A.kind = 13 := by simp at hb; omega
      refine x_drop (x_callS (x_cons (x_var rfl (x_cons (x_var rfl (x_nil ⟨n, n - 1, A.w ++ [n - 1] ++ A.w, v6, rfl, t6.ex (e5.trans e5d), by omega, badw, fun d H6 e6 hd => ?_⟩))))))
      refine ⟨cEH, d, rfl, rfl, EH.ex, fun ae na => x_asg (x_var rfl (x_name ?_))⟩
      have eK : Ex H4 (upd H6 ae (exK ae cEH d)) := Ex.trans ((e5.trans e5d).trans e6) (Ex.new na)
      have hd2 : upd H6 ae (exK ae cEH d) d = some (.xd [("value", _)]) := (Ex.new na) _ _ hd
      have ha2 : upd H6 ae (exK ae cEH d) ae = some (exK ae cEH d) := upd_same
      dsimp only
      refine s_seq (s_if (evt_and (evt_test (evd_eqI (evd_var rfl (.int _)) evd_int)) fun _ => evt_test (evd_eqI (evd_IC (evd_int1 (evd_var rfl (.int _))) evd_int (by decide)) evd_int)) (fun hb H8 e8 => ?_) fun hb H8 e8 => s_next ?_)
      · simp at hb; omega
      dsimp only
      refine s_seq (s_if (evt_test (evd_eqI (evd_var rfl (.int _)) evd_int)) (fun hb H9 e9 => ?_) fun hb H9 e9 => s_next ?_)
      · exact s_fin EH rfl ((e8.trans e9) _ _ ha2) ((e8.trans e9) _ _ hd2) (.int _) (EvD.is (evd_II (evd_var rfl (.int _)) evd_int) (by rw [e1n])) (.int _) fun H10 e10 => kf H10 (((eK.trans e8).trans e9).trans e10)
      · simp at hb; omega
    have f4 : A.kind = 14 := by have := hA.kind; simp at hb; omega
    have e5 := e5.trans e5d
    refine s_if (evt_or (evt_test (evd_eqI (evd_IC (evd_int1 (evd_var rfl (.int _))) evd_int (by decide)) evd_int)) fun _ => evt_test (evd_eqD (evd_var rfl (t0.ex e5)) (evd_tup eva_nil) (sh_Sum _ _) sh_nil (eqv_Sum_nil n _))) (fun hb H5e e5e => ?_) fun hb H5e e5e => ?_
    · have f5 : A.x % 2 = 0 ∨ S = [] := by simpa using hb
      refine x_drop (x_callS (x_cons (x_var rfl (x_nil ⟨v4, _, rfl, t4.ex (e5.trans e5e), okW, noW, fun d H6 e6 hd => ?_⟩))))
      refine ⟨cES, d, rfl, rfl, ES.ex, fun ae na => x_asg (x_var rfl (x_name ?_))⟩
      have eK : Ex H4 (upd H6 ae (exK ae cES d)) := Ex.trans ((e5.trans e5e).trans e6) (Ex.new na)
      have hd2 : upd H6 ae (exK ae cES d) d = some (.xd [("value", _)]) := (Ex.new na) _ _ hd
      have ha2 : upd H6 ae (exK ae cES d) ae = some (exK ae cES d) := upd_same
      dsimp only
      refine s_seq (s_if (evt_and (evt_test (evd_eqI (evd_var rfl (.int _)) evd_int)) fun _ => evt_test (evd_eqI (evd_IC (evd_int1 (evd_var rfl (.int _))) evd_int (by decide)) evd_int)) (fun hb H8 e8 => ?_) fun hb H8 e8 => s_next ?_)
      · simp at hb; omega
      dsimp only
      refine s_seq (s_if (evt_test (evd_eqI (evd_var rfl (.int _)) evd_int)) (fun hb H9 e9 => ?_) fun hb H9 e9 => s_next ?_)
      · simp at hb; omega
      dsimp only
      refine s_seq (s_if (evt_and (evt_test (evd_eqI (evd_var rfl (.int _)) evd_int)) fun _ => evt_and (evt_test (evd_eqI (evd_IC (evd_int1 (evd_var rfl (.int _))) evd_int (by decide)) evd_int)) fun _ => evt_test (evd_neD (evd_var rfl (t0.ex ((eK.trans e8).trans e9))) (evd_tup eva_nil) (sh_Sum _ _) sh_nil (eqv_Sum_nil n _))) (fun hb H10 e10 => ?_) fun hb H10 e10 => s_next ?_)
      · simp at hb; obtain ⟨_, z1, z2⟩ := hb; rcases f5 with z | z; omega; exact absurd z z2
      exact s_fin ES rfl (((e8.trans e9).trans e10) _ _ ha2) (((e8.trans e9).trans e10) _ _ hd2) (t4.ex (((eK.trans e8).trans e9).trans e10)) (evd_var rfl (t4.ex (((eK.trans e8).trans e9).trans e10))) okW0 fun H11 e11 => kf H11 ((((eK.trans e8).trans e9).trans e10).trans e11)
    have f5 : ¬ (A.x % 2 = 0) ∧ S ≠ [] := by simpa using hb
    have e5 := e5.trans e5e
    obtain ⟨t1, S1, rfl⟩ := List.exists_cons_of_ne_nil f5.2
    refine x_drop (x_callS (x_cons (x_var rfl (x_cons (x_ev (d := dSumG [(n - 1, strM (n - 1), [1])]) (evd_tup (eva_cons (evd_tup (eva_cons (evd_var rfl (t3.ex e5)) (eva_cons (evd_tup (eva_cons evd_int eva_nil)) eva_nil))) eva_nil)) fun u H5f e5f tu0 => x_nil ⟨v, u, _, _, rfl, tS.ex (e5.trans e5f), tu0, hS.ok.tr, fun t ht => ?_, .inr ⟨isSumF_ok hS.ok, rfl, n, n - 1, t1, (strM (n - 1), [1]), S1, [], rfl, rfl, by omega, fun u2 d H6 e6 tu hd => ?_⟩⟩)))))
    · rw [List.mem_singleton.mp ht]; exact str_ok (by omega) (by omega)
    refine ⟨cEPa, d, rfl, rfl, EPa.ex, fun ae na => x_asg (x_var rfl (x_name ?_))⟩
    have eK : Ex H4 (upd H6 ae (exK ae cEPa d)) := Ex.trans ((e5.trans e5f).trans e6) (Ex.new na)
    have hd2 : upd H6 ae (exK ae cEPa d) d = some (.xd [("value", _)]) := (Ex.new na) _ _ hd
    have ha2 : upd H6 ae (exK ae cEPa d) ae = some (exK ae cEPa d) := upd_same
    dsimp only
    refine s_seq (s_if (evt_and (evt_test (evd_eqI (evd_var rfl (.int _)) evd_int)) fun _ => evt_test (evd_eqI (evd_IC (evd_int1 (evd_var rfl (.int _))) evd_int (by decide)) evd_int)) (fun hb H8 e8 => ?_) fun hb H8 e8 => s_next ?_)
    · simp at hb; omega
    dsimp only
    refine s_seq (s_if (evt_test (evd_eqI (evd_var rfl (.int _)) evd_int)) (fun hb H9 e9 => ?_) fun hb H9 e9 => s_next ?_)
    · simp at hb; omega
    dsimp only
    refine s_seq (s_if (evt_and (evt_test (evd_eqI (evd_var rfl (.int _)) evd_int)) fun _ => evt_and (evt_test (evd_eqI (evd_IC (evd_int1 (evd_var rfl (.int _))) evd_int (by decide)) evd_int)) fun _ => evt_test (evd_neD (evd_var rfl (t0.ex ((eK.trans e8).trans e9))) (evd_tup eva_nil) (sh_Sum _ _) sh_nil (eqv_Sum_nil n _))) (fun hb H10 e10 => ?_) fun hb H10 e10 => s_next ?_)
    · exact s_fin EPa rfl (((e8.trans e9).trans e10) _ _ ha2) (((e8.trans e9).trans e10) _ _ hd2) (tu.ex ((((Ex.new na).trans e8).trans e9).trans e10)) (EvD.is (evd_tup (eva_cons (evd_var rfl (.int _)) (eva_cons (evd_II (evd_var rfl (.int _)) evd_int) eva_nil))) (by rw [e1n])) (.tup (by simp) fun d hd => by simp at hd; rcases hd with rfl | rfl <;> exact .int _) fun H11 e11 => kf H11 ((((eK.trans e8).trans e9).trans e10).trans e11)
    · simp at hb; omega
end
end Hk


namespace Hk
open PySem PySem.Spec PyProof.Rows L2
/-! ### what is held, what was told -/
/-- the list at l holds told sums -/
def Ft (n : Nat) (H : Hp) (l : Addr) (Ss : List Tab) : Prop := ∃ ys : List V, H l = some (.lst ys) ∧ ys.length = Ss.length ∧ ∀ (i : Nat) (y : V) (S : Tab), ys[i]? = some y → Ss[i]? = some S → Fz H y (dSum n S)
structure HT (n : Nat) (l1 l2 : Addr) (Ss : List Tab) (H : Hp) : Prop where
  ne : l1 ≠ l2
  held : Ls H l1 (Ss.map (dSum n))
  told : Ft n H l2 Ss
  ok : ∀ S ∈ Ss, Hs n S
  nn : Ss ≠ []
theorem Ft.ex {n : Nat} {H H' : Hp} {l : Addr} {Ss : List Tab} (e : Ex H H') (h : Ft n H l Ss) : Ft n H' l Ss := by
  obtain ⟨ys, a, b, c⟩ := h
  exact ⟨ys, e _ _ a, b, fun i y S p q => (c i y S p q).ex e⟩
theorem HT.ex {n : Nat} {H H' : Hp} {l1 l2 : Addr} {Ss : List Tab} (e : Ex H H') (h : HT n l1 l2 Ss H) : HT n l1 l2 Ss H' := ⟨h.ne, h.held.ex e, h.told.ex e, h.ok, h.nn⟩
theorem Ft.get {n : Nat} {H : Hp} {l : Addr} {Ss : List Tab} {i : Nat} {S : Tab} (h : Ft n H l Ss) (hi : Ss[i]? = some S) : ∃ ys y, H l = some (.lst ys) ∧ ys[i]? = some y ∧ ys.length = Ss.length ∧ Fz H y (dSum n S) := by
  obtain ⟨ys, a, b, c⟩ := h
  have hlt := (List.getElem?_eq_some_iff.mp hi).1
  have hy : ys[i]? = some ys[i] := List.getElem?_eq_getElem (by omega)
  exact ⟨ys, _, a, hy, b, c i _ S hy hi⟩
/-- both lists get one more -/
theorem HT.more {n : Nat} {H : Hp} {l1 l2 : Addr} {Ss : List Tab} {S : Tab} {x y : V} (h : HT n l1 l2 Ss H) {xs ys : List V} (h1 : H l1 = some (.lst xs)) (h2 : H l2 = some (.lst ys)) (tx : Tp H x (dSum n S)) (ty : Fz H y (dSum n S)) (hS : Hs n S) :
    HT n l1 l2 (Ss ++ [S]) (upd (upd H l1 (.lst (xs ++ [x]))) l2 (.lst (ys ++ [y]))) := by
  have k1 : TK H (upd H l1 (.lst (xs ++ [x]))) := TK.updL h1
  have h2' : upd H l1 (.lst (xs ++ [x])) l2 = some (.lst ys) := by rw [upd_ne (Ne.symm h.ne)]; exact h2
  have k := k1.trans (TK.updL (o := .lst (ys ++ [y])) h2')
  obtain ⟨xs', a, r⟩ := h.held
  rw [h1] at a; cases a
  obtain ⟨ys', a, b, c⟩ := h.told
  rw [h2] at a; cases a
  refine ⟨h.ne, ⟨_, by rw [upd_ne h.ne, upd_same], ?_⟩, ⟨_, upd_same, by simp [b], fun i y' S' p q => ?_⟩, fun S' hS' => ?_, by simp⟩
  · rw [List.map_append]
    exact (r.append (.cons tx .nil)).mono k
  · by_cases hi : i < ys.length
    · rw [List.getElem?_append_left hi] at p
      rw [List.getElem?_append_left (by omega)] at q
      exact (c i y' S' p q).mono k
    · have hl := (List.getElem?_eq_some_iff.mp p).1
      have : i = ys.length := by simp at hl; omega
      subst this
      rw [List.getElem?_append_right (Nat.le_refl _)] at p
      rw [List.getElem?_append_right (by omega)] at q
      simp [b] at p q
      subst p q
      exact ty.mono k
  · rcases List.mem_append.mp hS' with z | z
    · exact h.ok S' z
    · rw [List.mem_singleton.mp z]; exact hS
end Hk


namespace Hk
open PySem PySem.Spec PyProof.Rows L2
section
variable {P : Program} {w : World} {K : PySem.W.Frag} {mg : Str → Option Value} {base : Heap}
/-- l.append(v) -/
theorem x_app {D : Ends} {σ : L2.St} {H : Hp} {i j : Nat} {l : Addr} {xs : List V} {v : V} (hi : σ[i]? = some (some (.ref l))) (hj : σ[j]? = some (some v)) (hx : H l = some (.lst xs)) (hz : xs.length < 100000) (k : D.nx σ (upd H l (.lst (xs ++ [v])))) :
    tDrop (tBM K "list" rAppend (tVar i) (tCons (tVar j) tNil)) D σ H :=
  ⟨.ref l, hi, .inl ⟨rfl, _, SqL.of hx⟩, ⟨v, hj, ⟨l, xs, v, rfl, rfl, hx, small_lt hz, k⟩⟩⟩
def sp_law_asked : Sp := fun vs H Q _ => ∃ (a l1 l2 : Addr) (n : Nat) (A : Ask) (Ss : List Tab), vs = [.ref a, .ref l1, .ref l2, .int n] ∧ Ls H a (A.data n) ∧ AskOk n A ∧ a ≠ l1 ∧ a ≠ l2 ∧ HT n l1 l2 Ss H ∧ Ss.length ≤ 40 ∧
  ∀ Ss' H', Ss'.length ≤ Ss.length + 1 → HT n l1 l2 Ss' H' → (∀ b o, b ≠ l1 → b ≠ l2 → H b = some o → H' b = some o) → Q (.bl true) H'
theorem atI_get {α : Type} {xs : List α} {i : Nat} {x : α} (h : xs[i]? = some x) : atI xs ((i : Nat) : Int) = some x := by
  have hl := (List.getElem?_eq_some_iff.mp h).1
  unfold atI
  rw [ixN_nat hl]
  exact h
theorem atI_mod {α : Type} {xs : List α} (h : xs ≠ []) (m : Nat) : ∃ i x, ((m : Nat) : Int) % ((xs.length : Nat) : Int) = ((i : Nat) : Int) ∧ xs[i]? = some x := by
  have hl : 0 < xs.length := List.length_pos_iff.mpr h
  exact ⟨m % xs.length, xs[m % xs.length]'(Nat.mod_lt _ hl), by omega, List.getElem?_eq_getElem _⟩
theorem sc_law_asked : FnScope ["_law_asking_here", "_law_held", "_law_told", "_law_size", "_law_left", "_law_right", "_law_kind", "_law_due_here", "_law_found"] ["_law_asking_here", "_law_held", "_law_told", "_law_size"] (defScope (top 69)) := ⟨rfl, rfl, rfl, by decide +kernel, rfl, by decide +kernel, by decide +kernel⟩
theorem w_law_asked (B : Bt mg) (D : DefIn K mg "_law_asked" (top 69)) (C_law_due : Cal P w K mg base CX0 4 "_law_due" ["_law_asking_here", "_law_left", "_law_right", "_law_size"] sp_law_due) (C_law_made : Cal P w K mg base CX0 6 "_law_made" ["_law_asking_here", "_law_left", "_law_right", "_law_size"] sp_law_made)
    (C_law_same : Cal P w K mg base CX0 7 "_law_same" ["_law_found", "_law_due_here"] (sp_same 7)) (C_law_small : Cal P w K mg base CX0 1 "_law_small" ["_law_parts"] sp_law_small) (C_law_looked : Cal P w K mg base CX0 9 "_law_looked" ["_law_asking_here", "_law_left", "_law_told_left"] sp_law_looked)
    (C_law_refused : Cal P w K mg base CX0 8 "_law_refused" ["_law_asking_here", "_law_told_left", "_law_size"] sp_law_refused) : Cal P w K mg base CX0 10 "_law_asked" ["_law_asking_here", "_law_held", "_law_told", "_law_size"] sp_law_asked := by
  obtain ⟨f, fd, F, g⟩ := D.ex
  refine ⟨f, fd, F.ok sc_law_asked (fun vs H Q E h => ?_) (fun cdv A outer s H vs Q E hr h => ?_), g, F.kp, F.binds (ps := ["_law_asking_here", "_law_held", "_law_told", "_law_size"]) fun _ _ _ _ _ _ us hl => match us, hl with | [_, _, _, _], _ => rfl⟩
  · obtain ⟨a, l1, l2, n, A, Ss, rfl, _⟩ := h; rfl
  · obtain ⟨a, l1, l2, n, A, Ss, rfl, la, hA, n1, n2, hT, hz, k⟩ := h
    refine ⟨_, (pss_cons (ps_par (i := 4) (j := 5) rfl sc_law_asked.nd rfl rfl (by decide) rfl rfl (pa_cons (pe_op op_mod (pe_callTy call_int1 (by rfl) B.int PyProof.Rows.boot_int (pa_cons (pe_ix ix_list (pv 0) pe_int (fun _ _ => rfl)) pa_nil)) (pe_callB call_lenA (by rfl) B.len PySem.boot_len (pa_cons (pv 1) pa_nil))) (pa_cons (pe_op op_mod (pe_callTy call_int1 (by rfl) B.int PyProof.Rows.boot_int (pa_cons (pe_ix ix_list (pv 0) pe_int (fun _ _ => rfl)) pa_nil)) (pe_callB call_lenA (by rfl) B.len PySem.boot_len (pa_cons (pv 1) pa_nil))) pa_nil)) (by rfl))
  (pss_cons (ps_set (i := 6) sc_law_asked.nd rfl (Or.inl rfl) (pe_ix ix_list (pv 0) pe_int (fun _ _ => rfl)))
  (pss_cons (ps_if (pt_cmpR op_lt (pv 6) pe_int (nomark _))
  (pss_cons (ps_set (i := 7) sc_law_asked.nd rfl (Or.inl rfl) (pe_callC C_law_due (hr.mono (by decide)) pass0 (pa_cons (pv 0) (pa_cons (pe_ix ix_list (pv 1) (pv 4) (fun _ _ => rfl)) (pa_cons (pe_ix ix_list (pv 1) (pv 5) (fun _ _ => rfl)) (pa_cons (pv 3) pa_nil))))))
  (pss_cons (ps_set (i := 8) sc_law_asked.nd rfl (Or.inl rfl) (pe_callC C_law_made (hr.mono (by decide)) pass0 (pa_cons (pv 0) (pa_cons (pe_ix ix_list (pv 2) (pv 4) (fun _ _ => rfl)) (pa_cons (pe_ix ix_list (pv 2) (pv 5) (fun _ _ => rfl)) (pa_cons (pv 3) pa_nil))))))
  (pss_cons (ps_if (pt_not (pt_val (pe_callC C_law_same (hr.mono (by decide)) pass0 (pa_cons (pv 8) (pa_cons (pv 7) pa_nil)))))
  (pss_one (ps_ret pe_bl))
  pss_nil)
  (pss_cons (ps_if (pt_val (pe_callC C_law_small (hr.mono (by decide)) pass0 (pa_cons (pv 7) pa_nil)))
  (pss_cons (ps_expr (pe_bm PySem.F.plainAttrs_list PySem.F.slot_list_append PySem.F.type_list_append mt_append (pv 1) (pa_cons (pv 7) pa_nil)))
  (pss_one (ps_expr (pe_bm PySem.F.plainAttrs_list PySem.F.slot_list_append PySem.F.type_list_append mt_append (pv 2) (pa_cons (pv 8) pa_nil)))))
  pss_nil)
  (pss_one (ps_ret pe_bl))))))
  pss_nil)
  (pss_cons (ps_if (pt_cmpR op_lt (pv 6) pe_int (nomark _))
  (pss_one (ps_ret (pe_callC C_law_looked (hr.mono (by decide)) pass0 (pa_cons (pv 0) (pa_cons (pe_ix ix_list (pv 1) (pv 4) (fun _ _ => rfl)) (pa_cons (pe_ix ix_list (pv 2) (pv 4) (fun _ _ => rfl)) pa_nil))))))
  pss_nil)
  (pss_one (ps_ret (pe_callC C_law_refused (hr.mono (by decide)) pass0 (pa_cons (pv 0) (pa_cons (pe_ix ix_list (pv 2) (pv 4) (fun _ _ => rfl)) (pa_cons (pv 3) pa_nil)))))))))), ?_⟩
    have hlen : (Ss.map (dSum n)).length = Ss.length := List.length_map _
    have hpos : 0 < Ss.length := List.length_pos_iff.mpr hT.nn
    obtain ⟨i, S, ei, hi⟩ := atI_mod hT.nn A.i
    obtain ⟨j, T, ej, hj⟩ := atI_mod hT.nn A.j
    have hS := hT.ok S (List.mem_of_getElem? hi)
    have hTT := hT.ok T (List.mem_of_getElem? hj)
    refine s_seq (s_parD (d := .int (i : Nat)) (e := .int (j : Nat)) (eva_cons (EvD.is (evd_IC (evd_int1 (evd_ixL (evv_var rfl) la evd_int rfl)) (evd_lenL (evv_var rfl) hT.held) ?_) ?_) (eva_cons (EvD.is (evd_IC (evd_int1 (evd_ixL (evv_var rfl) la evd_int rfl)) (evd_lenL (evv_var rfl) hT.held) ?_) ?_) eva_nil)) fun v1 v2 H1 e1 t1 t2 => ?_)
    · rw [hlen]; omega
    · rw [hlen, ei]
    · rw [hlen]; omega
    · rw [hlen, ej]
    cases t1.int_inv
    cases t2.int_inv
    have la := la.ex e1
    have hT := hT.ex e1
    dsimp only
    refine s_seq (s_asgI (n := (A.kind : Nat)) (evd_ixL (evv_var rfl) la evd_int rfl) fun H2 e2 => ?_)
    have la := la.ex e2
    have hT := hT.ex e2
    dsimp only
    have e12 := e1.trans e2
    obtain ⟨ys, y, hy, hyi, hyl, fy⟩ := hT.told.get hi
    obtain ⟨ys', y', hy', hyj, _, fy'⟩ := hT.told.get hj
    rw [hy] at hy'; cases hy'
    have hdi : atI (Ss.map (dSum n)) ((i : Nat) : Int) = some (dSum n S) := atI_get (by rw [List.getElem?_map, hi]; rfl)
    have hdj : atI (Ss.map (dSum n)) ((j : Nat) : Int) = some (dSum n T) := atI_get (by rw [List.getElem?_map, hj]; rfl)
    have hvi : atI ys ((i : Nat) : Int) = some y := atI_get hyi
    have hvj : atI ys ((j : Nat) : Int) = some y' := atI_get hyj
    refine s_seq (s_if (evt_test (evd_IB (evd_var rfl (.int _)) evd_int)) (fun hb H3 e3 => ?_) fun hb H3 e3 => s_next ?_)
    · have la := la.ex e3
      have hT := hT.ex e3
      have dok := due_ok hA hS.ok hTT.ok
      have dl := due_len (A := A) hS hTT
      have dL := due_Ln hA hS hTT
      dsimp only
      refine s_seq (x_asg (x_call (evm_val (as := [.dat (dSum n S), .dat (dSum n T), .val (.int n)]) (evv_var rfl) (evm_dat (evd_ixL (evv_var rfl) hT.held (evd_var rfl (.int _)) hdi) (evm_dat (evd_ixL (evv_var rfl) hT.held (evd_var rfl (.int _)) hdj) (evm_val (evv_var rfl) evm_nil))) H3 (Ex.refl _) _ fun vs H4 e4 ok => ?_)))
      match vs, ok with
      | [_, x, x', _], ⟨rfl, tx, tx', rfl, _⟩ =>
      refine ⟨a, x, x', n, A, S, T, rfl, la.ex e4, tx, tx', hA, hS, hTT, fun u H5 e5 tu => x_name ?_⟩
      have e35 := e4.trans e5
      have e25 := e3.trans e35
      dsimp only
      refine s_seq (x_asg (x_call (evm_val (as := [.val y, .val y', .val (.int n)]) (evv_var rfl) (evm_val (evv_ixL (evv_var rfl) (e25 _ _ hy) (evd_var rfl (.int _)) hvi) (evm_val (evv_ixL (evv_var rfl) (e25 _ _ hy) (evd_var rfl (.int _)) hvj) (evm_val (evv_var rfl) evm_nil))) H5 (Ex.refl _) _ fun vs H6 e6 ok => ?_)))
      match vs, ok with
      | [_, _, _, _], ⟨rfl, rfl, rfl, rfl, _⟩ =>
      refine ⟨a, y, y', n, A, S, T, rfl, la.ex (e35.trans e6), fy.ex (e25.trans e6), fy'.ex (e25.trans e6), hA, hS, hTT, fun z H7 e7 fz => x_name ?_⟩
      have e57 := e6.trans e7
      have tu := tu.ex e57
      dsimp only
      refine s_seq (s_if (b := false) (EvT.is (evt_not (evt_test (evd_callP (d := .bool true) (as := [.val z, .val u]) (evm_val (evv_var rfl) (evm_val (evv_var rfl) evm_nil)) fun vs H8 e8 ok => ?_))) rfl) (fun h => by cases h) fun _ H8 e8 => s_next ?_)
      · match vs, ok with
        | [_, _], ⟨rfl, rfl, _⟩ => exact ⟨z, u, dSum n (dueF n A S T), rfl, .inl (fz.tp.ex e8), .inl (tu.ex e8), okd_Sum dok (by omega) (fun t ht => Nat.le_trans (dL t ht) (by decide)), rfl⟩
      dsimp only
      have e28 := (e25.trans e57).trans e8
      refine s_seq (x_if (x_test (x_call (x_cons (x_var rfl (x_nil ⟨u, n, dueF n A S T, rfl, tu.ex e8, dok, by omega, fun t ht => Nat.le_trans (dL t ht) (by decide), fun b H9 e9 hb => ⟨b, rfl, ?_⟩⟩))))))
      have e29 := e28.trans e9
      have e09 := e12.trans e29
      have hT9 := hT.ex ((e35.trans e57).trans (e8.trans e9))
      cases b with
      | false =>
        refine iteF (s_next ?_)
        dsimp only
        refine x_ret ?_
        refine x_c ?_
        exact k Ss H9 (Nat.le_succ _) hT9 fun b o _ _ q => e09 b o q
      | true =>
        refine iteT ?_
        obtain ⟨xs, hx, rx⟩ := hT9.held
        have hxl : xs.length = Ss.length := by rw [rx.length, List.length_map]
        have hy9 := e29 _ _ hy
        dsimp only
        refine s_seq (x_app rfl rfl hx (by omega) ?_)
        dsimp only
        refine x_app (xs := ys) rfl rfl (by rw [upd_ne (Ne.symm hT9.ne)]; exact hy9) (by omega) ?_
        dsimp only
        refine x_ret ?_
        refine x_c ?_
        refine k (Ss ++ [dueF n A S T]) _ (by simp) (hT9.more hx hy9 (tu.ex (e8.trans e9)) (fz.ex (e8.trans e9)) (hb rfl)) fun b o b1 b2 q => ?_
        rw [upd_ne b2, upd_ne b1]; exact e09 b o q
    · dsimp only
      refine s_seq (s_if (evt_test (evd_IB (evd_var rfl (.int _)) evd_int)) (fun hb2 H4 e4 => ?_) fun hb2 H4 e4 => s_next ?_)
      · refine x_ret (x_call (evm_val (as := [.dat (dSum n S), .val y]) (evv_var rfl) (evm_dat (evd_ixL (evv_var rfl) ((hT.ex e3).ex e4).held (evd_var rfl (.int _)) hdi) (evm_val (evv_ixL (evv_var rfl) ((e3.trans e4) _ _ hy) (evd_var rfl (.int _)) hvi) evm_nil)) H4 (Ex.refl _) _ fun vs H5 e5 ok => ?_))
        match vs, ok with
        | [_, x, _], ⟨rfl, tx, rfl, _⟩ =>
          have e := (e3.trans e4).trans e5
          exact ⟨a, x, y, n, A, S, rfl, la.ex e, tx, (fy.ex e).tp, hA, hS, fun H6 e6 => k Ss H6 (Nat.le_succ _) ((hT.ex e).ex e6) fun b o _ _ q => ((e12.trans e).trans e6) b o q⟩
      · dsimp only
        refine x_ret (x_call (evm_val (as := [.val y, .val (.int n)]) (evv_var rfl) (evm_val (evv_ixL (evv_var rfl) ((e3.trans e4) _ _ hy) (evd_var rfl (.int _)) hvi) (evm_val (evv_var rfl) evm_nil)) H4 (Ex.refl _) _ fun vs H5 e5 ok => ?_))
        match vs, ok with
        | [_, _, _], ⟨rfl, rfl, rfl, _⟩ =>
          have e := (e3.trans e4).trans e5
          exact ⟨a, y, n, A, S, rfl, la.ex e, (fy.ex e).tp, hA, hS, by simp at hb2; omega, fun H6 e6 => k Ss H6 (Nat.le_succ _) ((hT.ex e).ex e6) fun b o _ _ q => ((e12.trans e).trans e6) b o q⟩
end
end Hk


namespace Hk
open PySem PySem.Spec PyProof.Rows L2
section
variable {P : Program} {w : World} {K : PySem.W.Frag} {mg : Str → Option Value} {base : Heap}
theorem Ft.snoc {n : Nat} {H : Hp} {l : Addr} {Ss : List Tab} {S : Tab} {ys : List V} {y : V} (h : Ft n H l Ss) (hy : H l = some (.lst ys)) (f : Fz H y (dSum n S)) : Ft n (upd H l (.lst (ys ++ [y]))) l (Ss ++ [S]) := by
  have k : TK H (upd H l (.lst (ys ++ [y]))) := TK.updL hy
  obtain ⟨ys', a, b, c⟩ := h
  rw [hy] at a; cases a
  refine ⟨_, upd_same, by simp [b], fun i y' S' p q => ?_⟩
  by_cases hi : i < ys.length
  · rw [List.getElem?_append_left hi] at p
    rw [List.getElem?_append_left (by omega)] at q
    exact (c i y' S' p q).mono k
  · have hl := (List.getElem?_eq_some_iff.mp p).1
    have : i = ys.length := by simp at hl; omega
    subst this
    rw [List.getElem?_append_right (Nat.le_refl _)] at p
    rw [List.getElem?_append_right (by omega)] at q
    simp [b] at p q
    subst p q
    exact f.mono k
theorem Ft.keep {n : Nat} {H H' : Hp} {l : Addr} {Ss : List Tab} {ys : List V} (h : Ft n H l Ss) (hy : H l = some (.lst ys)) (k : TK H H') (hy' : H' l = some (.lst ys)) : Ft n H' l Ss := by
  obtain ⟨ys', a, b, c⟩ := h
  rw [hy] at a; cases a
  exact ⟨ys, hy', b, fun i y S p q => (c i y S p q).mono k⟩
theorem ftv_snoc {n : Nat} {H : Hp} {Ss : List Tab} {S : Tab} {ys : List V} {y : V} (b : ys.length = Ss.length) (c : ∀ (i : Nat) (y : V) (S : Tab), ys[i]? = some y → Ss[i]? = some S → Fz H y (dSum n S)) (f : Fz H y (dSum n S)) :
    (ys ++ [y]).length = (Ss ++ [S]).length ∧ ∀ (i : Nat) (y' : V) (S' : Tab), (ys ++ [y])[i]? = some y' → (Ss ++ [S])[i]? = some S' → Fz H y' (dSum n S') := by
  refine ⟨by simp [b], fun i y' S' p q => ?_⟩
  by_cases hi : i < ys.length
  · rw [List.getElem?_append_left hi] at p
    rw [List.getElem?_append_left (by omega)] at q
    exact c i y' S' p q
  · have hl := (List.getElem?_eq_some_iff.mp p).1
    have : i = ys.length := by simp at hl; omega
    subst this
    rw [List.getElem?_append_right (Nat.le_refl _)] at p
    rw [List.getElem?_append_right (by omega)] at q
    simp [b] at p q
    subst p q
    exact f
theorem ftv_tp {n : Nat} {H : Hp} : ∀ {Ss : List Tab} {ys : List V}, ys.length = Ss.length → (∀ (i : Nat) (y : V) (S : Tab), ys[i]? = some y → Ss[i]? = some S → Fz H y (dSum n S)) → TpAll H ys (Ss.map (dSum n))
  | [], [], _, _ => .nil
  | S :: Ss, y :: ys, b, c => .cons (c 0 y S rfl rfl).tp (ftv_tp (by simpa using b) fun i y' S' p q => c (i + 1) y' S' p q)
theorem Ft.ls {n : Nat} {H : Hp} {l : Addr} {Ss : List Tab} (h : Ft n H l Ss) : Ls H l (Ss.map (dSum n)) := by
  obtain ⟨ys, a, b, c⟩ := h
  exact ⟨ys, a, ftv_tp b c⟩
theorem hs_nil {n : Nat} (h2 : 2 ≤ n) (h6 : n ≤ 6) : Hs n [] := ⟨okS.nil h2 h6, by simp, fun t h => absurd h List.not_mem_nil, fun t h => absurd h List.not_mem_nil⟩
/-- list(l) -/
theorem x_listA {σ : L2.St} {H : Hp} {Q : VK} {i : Nat} {l : Addr} {xs : List V} (hv : σ[i]? = some (some (.ref l))) (hx : H l = some (.lst xs)) (k : ∀ p, H p = none → Q (.ref p) (upd H p (.lst xs))) : tCB (rListA K) (tCons (tVar i) tNil) σ H Q :=
  ⟨.ref l, hv, l, xs, rfl, .inl (SqL.of hx), k⟩
theorem HT.keepW {n : Nat} {H H' : Hp} {l1 l2 : Addr} {Ss : List Tab} (h : HT n l1 l2 Ss H) (k : TK H H') (e1 : ∀ o, H l1 = some o → H' l1 = some o) (e2 : ∀ o, H l2 = some o → H' l2 = some o) : HT n l1 l2 Ss H' := by
  obtain ⟨ys, a, b, c⟩ := h.told
  exact ⟨h.ne, h.held.keep k e1, ⟨ys, e2 _ a, b, fun i y S p q => (c i y S p q).mono k⟩, h.ok, h.nn⟩
theorem x_not {t : TT} {σ : L2.St} {H : Hp} {R : Bool → Hp → Prop} (h : t σ H fun b H1 => R (!b) H1) : tNot t σ H R := h
/-- two lists alone are written -/
theorem HT.tk {n : Nat} {H H' : Hp} {l1 l2 : Addr} {Ss : List Tab} (h : HT n l1 l2 Ss H) (kp : ∀ b o, b ≠ l1 → b ≠ l2 → H b = some o → H' b = some o) : TK H H' := by
  obtain ⟨xs, h1, _⟩ := h.held
  obtain ⟨ys, h2, _⟩ := h.told
  exact ⟨fun a zs q => kp a _ (fun e => by rw [e, h1] at q; cases q) (fun e => by rw [e, h2] at q; cases q) q, fun a o u q => kp a _ (fun e => by rw [e, h1] at q; cases q) (fun e => by rw [e, h2] at q; cases q) q⟩
def sp_law (K : PySem.W.Frag) : Sp := fun vs H Q _ => ∃ (a : Addr) (ns : List Int), vs = [.ref a] ∧ SqL K H a (ns.map V.int) ∧ ns.length ≤ 63 ∧ ∀ H', Q (.bl true) H'
theorem sc_law : FnScope ["_law_script", "_law_well_here", "_law_size", "_law_held", "_law_told", "_law_askings", "_law_asking_here", "_law_k"] ["_law_script"] (defScope (top 70)) := ⟨rfl, rfl, rfl, by decide +kernel, rfl, by decide +kernel, by decide +kernel⟩
theorem w_law (B : Bt mg) {f : Addr} {fd : FuncData} (F : Fun K "law" "law" (top 70) f fd) (C_law_well : Cal P w K mg base CX0 1 "_law_well" ["_law_script"] (sp_law_well K)) (C_law_draw : Cal P w K mg base CX0 1 "_law_draw" ["_law_well_here", "_law_limit"] sp_law_draw) (C_law_sum : Cal P w K mg base CX0 3 "_law_sum" ["_law_well_here", "_law_above", "_law_below", "_law_many", "_law_most", "_law_great"] sp_law_sum)
    (C_law_asking : Cal P w K mg base CX0 3 "_law_asking" ["_law_well_here", "_law_size"] sp_law_asking) (C_law_asked : Cal P w K mg base CX0 10 "_law_asked" ["_law_asking_here", "_law_held", "_law_told", "_law_size"] sp_law_asked) (C_law_same : Cal P w K mg base CX0 7 "_law_same" ["_law_found", "_law_due_here"] (sp_same 7)) :
    FnOk P w K mg base CX0 11 f fd ["_law_script"] (sp_law K) := by
  refine F.ok sc_law (fun vs H Q E h => ?_) (fun cdv A outer s H vs Q E hr h => ?_)
  · obtain ⟨a, ns, rfl, _⟩ := h; rfl
  · obtain ⟨a, ns, rfl, sq, hl, k⟩ := h
    refine ⟨_, (pss_cons (ps_set (i := 1) sc_law.nd rfl (Or.inr rfl) (pe_callC C_law_well (hr.mono (by decide)) pass0 (pa_cons (pv 0) pa_nil)))
  (pss_cons (ps_set (i := 2) sc_law.nd rfl (Or.inr rfl) (pe_op op_add pe_int (pe_callC C_law_draw (hr.mono (by decide)) pass0 (pa_cons (pv 1) (pa_cons pe_int pa_nil)))))
  (pss_cons (ps_set (i := 3) sc_law.nd rfl (Or.inl rfl) (pe_op op_cat (pe_lc (own := [("_law_k", 7)]) (g := (gName 7)) rfl sc_law.nd (pi_range1 (by rfl) B.range (pa_cons pe_int pa_nil)) (blkOk_by (N := ["_law_script", "_law_well_here", "_law_size", "_law_held", "_law_told", "_law_askings", "_law_asking_here", "_law_k"]) (sc := defScope (top 70)) (by decide +kernel)) (fun _ _ _ _ _ => (pg_name (i := 7) sc_law.nd rfl (Or.inl rfl))) (fun _ _ _ _ _ => pts_nil) (fun _ _ _ _ _ => (pe_callC C_law_sum (hr.mono (by decide)) pass0 (pa_cons (pv 1) (pa_cons (pv 2) (pa_cons (pv 2) (pa_cons (pe_op op_add pe_int (pe_callC C_law_draw (hr.mono (by decide)) pass0 (pa_cons (pv 1) (pa_cons pe_int pa_nil)))) (pa_cons pe_int (pa_cons pe_int pa_nil))))))))) (pe_lst (pa_cons (pe_tupF pa_nil) pa_nil))))
  (pss_cons (ps_set (i := 4) sc_law.nd rfl (Or.inl rfl) (pe_callTy call_listA (by rfl) B.list PyProof.Rows.boot_list (pa_cons (pv 3) pa_nil)))
  (pss_cons (ps_setLc (i := 5) (own := [("_law_k", 7)]) (g := (gName 7)) rfl sc_law.nd rfl rfl (sw_true rfl rfl rfl (by decide +kernel)) (pi_range1 (by rfl) B.range (pa_cons pe_int pa_nil)) (blkOk_by (N := ["_law_script", "_law_well_here", "_law_size", "_law_held", "_law_told", "_law_askings", "_law_asking_here", "_law_k"]) (sc := defScope (top 70)) (by decide +kernel)) (fun _ _ _ _ _ => (pg_name (i := 7) sc_law.nd rfl (Or.inl rfl))) (fun _ _ _ _ _ => pts_nil) (fun _ _ _ _ _ => (pe_callC C_law_asking (hr.mono (by decide)) pass0 (pa_cons (pv 1) (pa_cons (pv 2) pa_nil)))))
  (pss_cons (ps_for PassesOwn.never rfl (pi_list (pe_op op_cat (pv 5) (pe_slice sl_list (pv 5) po_none (po_some pe_int)))) (pg_name (i := 6) sc_law.nd rfl (Or.inl rfl))
  (pss_one (ps_if (pt_not (pt_val (pe_callC C_law_asked (hr.mono (by decide)) pass0 (pa_cons (pv 6) (pa_cons (pv 3) (pa_cons (pv 4) (pa_cons (pv 2) pa_nil)))))))
  (pss_one (ps_ret pe_bl))
  pss_nil)))
  (pss_one (ps_ret (pe_callC C_law_same (hr.mono (by decide)) pass0 (pa_cons (pv 4) (pa_cons (pv 3) pa_nil))))))))))), ?_⟩
    refine s_seq (x_asg (x_call (x_cons (x_var rfl (x_nil ⟨a, ns, rfl, sq, hl, fun W gg H1 nW ng e1 wl1 => x_name ?_⟩)))))
    dsimp only
    refine s_seq (x_asg (x_op (x_c (d_draw rfl wl1 (by omega) evd_int (by decide) (by decide) fun r H2 e2 wl2 l2 => x_II (x_name ?_)))))
    have h2 : 2 ≤ 2 + r := by omega
    have h6 : 2 + r ≤ 6 := by omega
    have en : (2 : Int) + (r : Nat) = ((2 + r : Nat) : Int) := by omega
    dsimp only
    rw [en]
    generalize 2 + r = n at h2 h6 ⊢
    refine s_seq (x_asg (x_op (x_lcR1 (x_c (x_lcR (n := 3) (by decide) (fun p i H' => p ≠ W ∧ p ≠ gg ∧ ExW W gg H2 H' ∧ Wl H' W gg (1 + 201 * i) ∧ ∃ Ss : List Tab, Ft n H' p Ss ∧ Ss.length = i ∧ ∀ S ∈ Ss, Hs n S) ?_ (fun _ => rfl) ?_ ?_)))))
    · intro p np
      have ne := wl2.ne np
      exact ⟨ne.1, ne.2, (Ex.new np).w W gg, wl2.ex (Ex.new np), [], ⟨[], upd_same, rfl, fun i y S p q => by simp at p⟩, rfl, fun S h => by simp at h⟩
    · rintro p i H3 np hi ⟨p1, p2, e3, wl3, Ss, ft, hl3, hok⟩
      obtain ⟨ys, hy, hyl, _⟩ := id ft
      refine x_call (x_cons (x_var rfl (x_cons (x_var rfl (x_cons (x_var rfl (x_cons (x_op (x_c (d_draw rfl wl3 (by omega) evd_int (by decide) (by decide) fun r4 H4 e4 wl4 l4 => x_II (x_cons (x_c (x_cons (x_c (x_nil ⟨W, gg, 1 + 201 * i + 1, n, 1 + r4, ?_, wl4, by omega, h2, h6, by omega, fun S v H5 e5 wl5 hS fz => ?_⟩)))))))))))))))
      · rw [show (1 : Int) + (r4 : Nat) = ((1 + r4 : Nat) : Int) by omega]; rfl
      have e35 := e4.trans e5
      have hy5 := e35 p _ p1 p2 hy
      refine ⟨ys, hy5, small_lt (by omega), p1, p2, (e3.trans e35).own (ExB.upd p H5 _) np, (wl5.keepB (ExB.upd p H5 _) ⟨p1, p2⟩).le (by omega), Ss ++ [S], (ft.keep hy (wl3.tk e35) hy5).snoc hy5 fz, by simp [hl3], fun S' h => ?_⟩
      rcases List.mem_append.mp h with z | z
      · exact hok S' z
      · rw [List.mem_singleton.mp z]; exact hS
    · rintro p H3 np ⟨p1, p2, e3, wl3, Ss, ft, hl3, hok⟩
      obtain ⟨ys, hy, hyl, hyf⟩ := id ft
      refine x_lst (x_cons ((evf_tup eva_nil) H3 (Ex.refl _) _ fun z H4 e4 fz => x_nil ⟨small_le (by simp), fun b nb => ?_⟩))
      refine ⟨p, b, ys, [z], rfl, rfl, (Ex.new nb) _ _ (e4 _ _ hy), upd_same, small_le (by simp; omega), fun l1 nl1 => x_name ?_⟩
      have e45 : Ex H4 (upd (upd H4 b (.lst [z])) l1 (.lst (ys ++ [z]))) := (Ex.new nb).trans (Ex.new nl1)
      have hl1 : upd (upd H4 b (.lst [z])) l1 (.lst (ys ++ [z])) l1 = some (.lst (ys ++ [z])) := upd_same
      have nl1' : H3 l1 = none := (e4.trans (Ex.new nb)).back nl1
      generalize hH5 : upd (upd H4 b (.lst [z])) l1 (.lst (ys ++ [z])) = H5 at e45 hl1
      have e35 := e4.trans e45
      have wl5 := wl3.ex e35
      obtain ⟨v1, v2⟩ := ftv_snoc (n := n) (S := []) hyl (fun i y S p q => (hyf i y S p q).ex e35) (fz.ex e45)
      have hok2 : ∀ S ∈ Ss ++ [[]], Hs n S := fun S h => by
        rcases List.mem_append.mp h with z | z
        · exact hok S z
        · rw [List.mem_singleton.mp z]; exact hs_nil h2 h6
      have w1 := wl3.ne nl1'
      dsimp only
      refine s_seq (x_asg (x_listA rfl hl1 fun l2 nl2 => x_name ?_))
      have hT : HT n l1 l2 (Ss ++ [[]]) (upd H5 l2 (.lst (ys ++ [z]))) := by
        have ex := Ex.new (o := .lst (ys ++ [z])) nl2
        have h1 : Ft n (upd H5 l2 (.lst (ys ++ [z]))) l1 (Ss ++ [[]]) := ⟨_, ex _ _ hl1, v1, fun i y S p q => (v2 i y S p q).ex ex⟩
        exact ⟨(fun q => by rw [q, nl2] at hl1; cases hl1), h1.ls, ⟨_, upd_same, v1, fun i y S p q => (v2 i y S p q).ex ex⟩, hok2, by simp⟩
      have w2 := wl5.ne nl2
      have wl6 := wl5.ex (Ex.new (o := .lst (ys ++ [z])) nl2)
      generalize upd H5 l2 (.lst (ys ++ [z])) = H6 at hT wl6
      dsimp only
      have hl6 : ∃ o, H6 l1 = some o := hT.held.there
      have hl62 : ∃ o, H6 l2 = some o := by obtain ⟨ys2, a2, _⟩ := hT.told; exact ⟨_, a2⟩
      refine s_seq (x_asg (x_lcR (n := 16) (by decide) (fun p i H' => p ≠ W ∧ p ≠ gg ∧ ExW W gg H6 H' ∧ Wl H' W gg (700 + 60 * i) ∧ ∃ as : List Addr, H' p = some (.lst (as.map V.ref)) ∧ as.length = i ∧ ∀ a ∈ as, H6 a = none ∧ a ≠ p ∧ (a ≠ W ∧ a ≠ gg) ∧ ∃ A, AskOk n A ∧ Ls H' a (A.data n)) ?_ (fun _ => rfl) ?_ ?_))
      · intro q nq
        have N := wl6.ne nq
        exact ⟨N.1, N.2, (Ex.new nq).w W gg, (wl6.ex (Ex.new nq)).le (by omega), [], upd_same, rfl, fun a h => absurd h List.not_mem_nil⟩
      · rintro q i H7 nq hi ⟨q1, q2, e7, wl7, as, hq, hal, has⟩
        refine x_call (x_cons (x_var rfl (x_cons (x_var rfl (x_nil ⟨W, gg, 700 + 60 * i, n, rfl, wl7, by omega, h2, h6, fun A l H8 nl e8 wl8 hA la => ?_⟩)))))
        have nlq : l ≠ q := fun z => by rw [z, hq] at nl; cases nl
        have nlw := wl7.ne nl
        have nl6 : H6 l = none := e7.back nl nlw
        have hq8 := e8 q _ q1 q2 hq
        have k8 : TK H8 (upd H8 q (.lst (as.map V.ref ++ [V.ref l]))) := TK.updL hq8
        refine ⟨_, hq8, small_lt (by simp; omega), q1, q2, (e7.trans e8).own (ExB.upd q H8 _) nq, (wl8.keepB (ExB.upd q H8 _) ⟨q1, q2⟩).le (by omega), as ++ [l], by rw [upd_same]; simp, by simp [hal], fun a h => ?_⟩
        rcases List.mem_append.mp h with z | z
        · obtain ⟨n6, nq', nw, B, hB, lB⟩ := has a z
          exact ⟨n6, nq', nw, B, hB, (lB.keepW wl7 e8 nw).keep k8 fun o h => by rw [upd_ne nq']; exact h⟩
        · rw [List.mem_singleton.mp z]
          exact ⟨nl6, nlq, nlw, A, hA, la.keep k8 fun o h => by rw [upd_ne nlq]; exact h⟩
      · rintro q H7 nq ⟨q1, q2, e7, wl7, as, hq, hal, has⟩
        refine x_name ?_
        dsimp only
        have hT7 : HT n l1 l2 (Ss ++ [[]]) H7 := hT.keepW (wl6.tk e7) (fun o h => e7 _ o w1.1 w1.2 h) (fun o h => e7 _ o w2.1 w2.2 h)
        have hmem : ∀ x ∈ as.map V.ref ++ cutV (as.map V.ref) none (some 3), ∃ a ∈ as, x = V.ref a := fun x h => by
          rcases List.mem_append.mp h with z | z
          · obtain ⟨a, ha, rfl⟩ := List.mem_map.mp z; exact ⟨a, ha, rfl⟩
          · obtain ⟨a, ha, rfl⟩ := List.mem_map.mp (List.mem_of_mem_drop (List.mem_of_mem_take z)); exact ⟨a, ha, rfl⟩
        have hc1 := cutV_length (as.map V.ref) none (some 3)
        have hc2 : (as.map V.ref).length = 16 := by rw [List.length_map]; exact hal
        have hlen : (as.map V.ref ++ cutV (as.map V.ref) none (some 3)).length ≤ 32 := by rw [List.length_append]; omega
        refine s_seq ?_
        refine ⟨.ref q, rfl, .ref q, rfl, 3, rfl, q, as.map V.ref, rfl, SqL.of hq, fun b nb => ?_⟩
        have e8 : Ex H7 (upd H7 b (.lst (cutV (as.map V.ref) none (some 3)))) := Ex.new nb
        refine ⟨q, b, as.map V.ref, _, rfl, rfl, e8 _ _ hq, upd_same, small_le (by omega), fun c nc => ?_⟩
        generalize as.map V.ref ++ cutV (as.map V.ref) none (some 3) = zs at hmem hlen
        have e9 := e8.trans (Ex.new (o := .lst zs) nc)
        have hc : upd (upd H7 b (.lst (cutV (as.map V.ref) none (some 3)))) c (.lst zs) c = some (.lst zs) := upd_same
        generalize upd (upd H7 b (.lst (cutV (as.map V.ref) none (some 3)))) c (.lst zs) = H8 at e9 hc
        have hT8 := hT7.ex e9
        have nc7 : H7 c = none := e8.back nc
        have c1 : c ≠ l1 := (hT7.held.ne_none nc7).symm
        have c2 : c ≠ l2 := by
          obtain ⟨ys2, a2, _⟩ := hT7.told
          exact fun e => by rw [e, a2] at nc7; cases nc7
        refine ⟨c, rfl, ⟨_, SqL.of hc⟩, for_list (K := K) (a := c) (xs := zs) (fun i σ' H' => ∃ (u : Option V) (Ss' : List Tab), σ' = [some (.ref a), some (.ref W), some (.int n), some (.ref l1), some (.ref l2), some (.ref q), u, none] ∧ HT n l1 l2 Ss' H' ∧ Ss'.length ≤ 4 + i ∧ ∀ b o, b ≠ l1 → b ≠ l2 → H8 b = some o → H' b = some o) ?_ ?_ ?_ ?_⟩
        · exact ⟨none, _, rfl, hT8, by simp; omega, fun b o _ _ h => h⟩
        · rintro i σ' H' _ ⟨u, Ss', rfl, hT', hl', kp⟩
          exact SqL.of (kp c _ c1 c2 hc)
        · rintro i x σ' H' hi ⟨u, Ss', rfl, hT', hl', kp⟩
          obtain ⟨a', ha', rfl⟩ := hmem x (List.mem_of_getElem? hi)
          obtain ⟨n6, nq', nw, A, hA, lA⟩ := has a' ha'
          have na1 : a' ≠ l1 := fun e => by obtain ⟨o, ho⟩ := hl6; rw [e, ho] at n6; cases n6
          have na2 : a' ≠ l2 := fun e => by obtain ⟨o, ho⟩ := hl62; rw [e, ho] at n6; cases n6
          have hii := (List.getElem?_eq_some_iff.mp hi).1
          have lA' : Ls H' a' (A.data n) := lA.keep (e9.tk.trans (hT8.tk kp)) fun o h => kp a' o na1 na2 (e9 _ _ h)
          refine x_name ?_
          dsimp only
          refine x_if (x_not (x_test (x_call (x_cons (x_var rfl (x_cons (x_var rfl (x_cons (x_var rfl (x_cons (x_var rfl (x_nil ⟨a', l1, l2, n, A, Ss', rfl, lA', hA, na1, na2, hT', by omega, fun Ss'' H9 hl9 hT9 kp9 => ⟨true, rfl, iteF (s_next ?_)⟩⟩))))))))))))
          exact ⟨some (.ref a'), Ss'', rfl, hT9, by omega, fun b o b1 b2 h => kp9 b o b1 b2 (kp b o b1 b2 h)⟩
        · rintro σ' H' ⟨u, Ss', rfl, hT', hl', kp⟩
          dsimp only
          refine s_ret (d := .bool true) (evd_callP (as := [.val (.ref l2), .val (.ref l1)]) (evm_val (evv_var rfl) (evm_val (evv_var rfl) evm_nil)) fun vs H9 e9 ok => ?_) fun v H9 e9 tv => ?_
          · match vs, ok with
            | [_, _], ⟨rfl, rfl, _⟩ =>
              refine ⟨.ref l2, .ref l1, .list (Ss'.map (dSum n)), rfl, .inr ⟨l2, _, rfl, rfl, hT'.told.ls.ex e9⟩, .inr ⟨l1, _, rfl, rfl, hT'.held.ex e9⟩, .lst (by rw [List.length_map]; omega) fun d hd => ?_, rfl⟩
              obtain ⟨S, hS, rfl⟩ := List.mem_map.mp hd
              have h := hT'.ok S hS
              exact okd_Sum (m := 1) h.ok (by have := h.len; omega) (h.ln (by decide))
          · rw [tv.bl_inv]; exact k H9
end
end Hk


namespace Hk
open PySem PySem.Spec PyProof.Rows L2
section
variable {P : Program} {w : World} {K : PySem.W.Frag} {mg : Str → Option Value} {base : Heap}
theorem exm_up {C S : Addr} (h1 : PySem.W.subIn K (.ref S) (.type "BaseException") = some true) (h2 : PySem.W.isClsIn K S = true) (h3 : PySem.W.typeIn K (.ref S) = some (.type "type")) (h4 : PySem.W.subIn K (.ref C) (.ref S) = some true) :
    PySem.W.exmOne K (.ref C) (.ref S) = some true := by
  have e1 : (PySem.W.subIn K (.ref S) (.type "BaseException") == some true) = true := by rw [h1] <;> rfl
  have e2 : ((PySem.W.clsIn K S).isSome && PySem.W.typeIn K (.ref S) == some (.type "type")) = true := by
    have h2' : (PySem.W.clsIn K S).isSome = true := h2
    rw [h2', h3] <;> rfl
  show (if (PySem.W.subIn K (.ref S) (.type "BaseException") == some true) = true then (if ((PySem.W.clsIn K S).isSome && PySem.W.typeIn K (.ref S) == some (.type "type")) = true then PySem.W.subIn K (.ref C) (.ref S) else none) else none) = some true
  rw [if_pos e1, if_pos e2]
  exact h4
/-- a def of the top, from what stands written -/
theorem def_mk {h : Heap} {x : Str} {st : Stmt} {f : Addr} {oc : Value} {od an : Option Addr} {osl : Array (Option Value)} {kV doc pm cdv ct : Value} (X : K.In h) (G : h.Ns mainGlobals mg) (a : PySem.W.nsIn K mainGlobals x = some (some (.ref f)))
    (l : K.lookup f = some ⟨oc, od, .func (PySem.W.fnOf x x (defArgs st) (defBody st) (defScope st) .none kV doc pm an cdv ct), osl⟩) (c : PySem.W.codeIn K cdv x = true) (k : PySem.W.keepIn K (.ref f) = true) : DefIn K mg x st :=
  ⟨f, _, fun_mk l c k, PySem.W.mg_of X G a⟩
/-- an error class of the top -/
theorem err_mk {h : Heap} {x : Str} {C CM fI : Addr} {nm q : Str} {N : Addr} {bs : List Value} {sn : List Str} {sub : List Value} {ab : Bool} {col : Option Bool} {dd : Option Addr} {m0 m1 m2 m3 m5 : Option Value} (X : K.In h) (G : h.Ns mainGlobals mg)
    (a : PySem.W.nsIn K mainGlobals x = some (some (.ref C)))
    (xL : K.lookup C = some (excClassObj nm q C N bs [.ref CM, .type "ValueError", .type "Exception", .type "BaseException", .type "object"] true sn sub ab col dd m0 m1 m2 m3 m5 "ValueError.__new__"))
    (sa : PySem.W.findIn K (.ref C) "__setattr__" = some (some (.builtin "object.__setattr__"))) (ga : PySem.W.findIn K (.ref C) "__getattribute__" = some (some (.builtin "BaseException.__getattribute__"))) (gg : PySem.W.findIn K (.ref C) "__getattr__" = some none) (nv : PySem.W.findIn K (.ref C) "value" = some none)
    (iC : PySem.W.findIn K (.ref C) "__init__" = some (some (.ref fI))) (kC : PySem.W.keepIn K (.ref C) = true) (eC : PySem.W.subIn K (.ref C) (.type "BaseException") = some true) (tC : PySem.W.typeIn K (.ref C) = some (.type "type")) (hC : PySem.W.hasDictIn K C = true)
    (h1 : PySem.W.subIn K (.ref CM) (.type "BaseException") = some true) (h2 : PySem.W.isClsIn K CM = true) (h3 : PySem.W.typeIn K (.ref CM) = some (.type "type")) (h4 : PySem.W.subIn K (.ref C) (.ref CM) = some true) : ErrC K mg x C CM fI :=
  ⟨PySem.W.mg_of X G a, ⟨⟨nm, q, N, bs, _, sn, sub, ab, col, dd, m0, m1, m2, m3, m5, xL, rfl⟩, sa, eC, tC, kC⟩, iC, nv, ga, gg, hC, exm_up h1 h2 h3 h4⟩
theorem all_ok {cES cEPo cEH cEPa cM fI fL : Addr} {fdI fdL : FuncData} (B : Bt mg)
    (D_round_of : DefIn K mg "round_of" (top 9))
    (D_is_mat : DefIn K mg "is_mat" (top 10))
    (D_checked_mat : DefIn K mg "checked_mat" (top 11))
    (D_check_size : DefIn K mg "check_size" (top 12))
    (D_remade : DefIn K mg "remade" (top 13))
    (D_straight : DefIn K mg "straight" (top 14))
    (D_hook : DefIn K mg "hook" (top 15))
    (D_upside_down : DefIn K mg "upside_down" (top 16))
    (D_far_end : DefIn K mg "far_end" (top 18))
    (D_loose_rings : DefIn K mg "loose_rings" (top 19))
    (D_put_behind : DefIn K mg "put_behind" (top 20))
    (D_chained : DefIn K mg "chained" (top 21))
    (D_cut_p : DefIn K mg "cut_p" (top 23))
    (D_add_p : DefIn K mg "add_p" (top 24))
    (D_times_p : DefIn K mg "times_p" (top 25))
    (D_is_poly : DefIn K mg "is_poly" (top 26))
    (D_checked_poly : DefIn K mg "checked_poly" (top 27))
    (D_at : DefIn K mg "at" (top 28))
    (D_check_words : DefIn K mg "check_words" (top 30))
    (D_value_of : DefIn K mg "value_of" (top 31))
    (D_listed : DefIn K mg "listed" (top 33))
    (D_is_sum : DefIn K mg "is_sum" (top 34))
    (D_checked_sum : DefIn K mg "checked_sum" (top 35))
    (D_pegs_of : DefIn K mg "pegs_of" (top 36))
    (D_sum_of : DefIn K mg "sum_of" (top 37))
    (D_add : DefIn K mg "add" (top 38))
    (D_multiply : DefIn K mg "multiply" (top 39))
    (D_scaled : DefIn K mg "scaled" (top 40))
    (D_part : DefIn K mg "part" (top 41))
    (D_flipped : DefIn K mg "flipped" (top 42))
    (D_word_sum : DefIn K mg "word_sum" (top 43))
    (D_at_worth : DefIn K mg "at_worth" (top 44))
    (D_law_well : DefIn K mg "_law_well" (top 46))
    (D_law_draw : DefIn K mg "_law_draw" (top 47))
    (D_law_same : DefIn K mg "_law_same" (top 48))
    (D_law_row : DefIn K mg "_law_row" (top 49))
    (D_law_cut : DefIn K mg "_law_cut" (top 50))
    (D_law_plus : DefIn K mg "_law_plus" (top 51))
    (D_law_times : DefIn K mg "_law_times" (top 52))
    (D_law_mat : DefIn K mg "_law_mat" (top 53))
    (D_law_put : DefIn K mg "_law_put" (top 54))
    (D_law_hook : DefIn K mg "_law_hook" (top 55))
    (D_law_straight : DefIn K mg "_law_straight" (top 56))
    (D_law_down : DefIn K mg "_law_down" (top 57))
    (D_law_sum : DefIn K mg "_law_sum" (top 58))
    (D_law_lay : DefIn K mg "_law_lay" (top 59))
    (D_law_listed : DefIn K mg "_law_listed" (top 60))
    (D_law_value : DefIn K mg "_law_value" (top 61))
    (D_law_asking : DefIn K mg "_law_asking" (top 62))
    (D_law_word_value : DefIn K mg "_law_word_value" (top 63))
    (D_law_due : DefIn K mg "_law_due" (top 64))
    (D_law_made : DefIn K mg "_law_made" (top 65))
    (D_law_looked : DefIn K mg "_law_looked" (top 66))
    (D_law_refused : DefIn K mg "_law_refused" (top 67))
    (D_law_small : DefIn K mg "_law_small" (top 68))
    (D_law_asked : DefIn K mg "_law_asked" (top 69))
    (hV : mg "ValueError" = none) (vV : PySem.W.findCls K (.type "ValueError") (.type "type") "__init__" = some (.val (.builtin "ValueError.__init__"))) (FI : Fun K "__init__" "MatError.__init__" stInit fI fdI) (ty : PySem.W.typeIn K (.ref fI) = some (.type "function"))
    (hM : mg "MatError" = some (.ref cM)) (ES : ErrC K mg "InvalidSum" cES cM fI) (EPo : ErrC K mg "InvalidPoly" cEPo cM fI) (EH : ErrC K mg "InvalidHook" cEH cM fI) (EPa : ErrC K mg "InvalidPair" cEPa cM fI)
    (FL : Fun K "law" "law" (top 70) fL fdL) : FnOk P w K mg base CX0 11 fL fdL ["_law_script"] (sp_law K) := by
  have I : InitF P w K mg base fI := w_init hV vV FI ty
  have C_check_size := w_check_size (P := P) (w := w) (base := base) B D_check_size
  have C_round_of := w_round_of (P := P) (w := w) (base := base) B D_round_of
  have C_is_mat := w_is_mat (P := P) (w := w) (base := base) B D_is_mat C_round_of
  have C_checked_mat := w_checked_mat (P := P) (w := w) (base := base) B D_checked_mat C_is_mat
  have C_straight := w_straight (P := P) (w := w) (base := base) B D_straight C_check_size
  have C_remade := w_remade (P := P) (w := w) (base := base) B D_remade
  have C_hook := w_hook (P := P) (w := w) (base := base) B D_hook C_check_size C_straight
  have C_upside_down := w_upside_down (P := P) (w := w) (base := base) B D_upside_down C_checked_mat C_remade
  have C_far_end := w_far_end (P := P) (w := w) (base := base) B D_far_end
  have C_loose_rings := w_loose_rings (P := P) (w := w) (base := base) B D_loose_rings
  have C_put_behind := w_put_behind (P := P) (w := w) (base := base) B D_put_behind C_far_end C_loose_rings
  have C_chained := w_chained (P := P) (w := w) (base := base) B D_chained C_put_behind
  have C_law_put := w_law_put (P := P) (w := w) (base := base) B D_law_put
  have C_law_straight := w_law_straight (P := P) (w := w) (base := base) B D_law_straight
  have C_law_hook := w_law_hook (P := P) (w := w) (base := base) B D_law_hook
  have C_law_down := w_law_down (P := P) (w := w) (base := base) B D_law_down
  have C_cut_p := w_cut_p (P := P) (w := w) (base := base) B D_cut_p
  have C_law_cut := w_law_cut (P := P) (w := w) (base := base) B D_law_cut
  have C_add_p := w_add_p (P := P) (w := w) (base := base) B D_add_p C_cut_p
  have C_times_p := w_times_p (P := P) (w := w) (base := base) B D_times_p
  have C_is_poly := w_is_poly (P := P) (w := w) (base := base) B D_is_poly
  have C_checked_poly := w_checked_poly (P := P) (w := w) (base := base) B D_checked_poly C_is_poly
  have C_at := w_at (P := P) (w := w) (base := base) B D_at C_checked_poly
  have C_law_value := w_law_value (P := P) (w := w) (base := base) B D_law_value
  have C_law_times := w_law_times (P := P) (w := w) (base := base) B D_law_times C_law_cut
  have C_law_plus := w_law_plus (P := P) (w := w) (base := base) B D_law_plus C_law_cut
  have C_listed := w_listed (P := P) (w := w) (base := base) B D_listed
  have C_law_listed := w_law_listed (P := P) (w := w) (base := base) B D_law_listed
  have C_law_lay := w_law_lay (P := P) (w := w) (base := base) B D_law_lay C_law_plus
  have C_pegs_of := w_pegs_of (P := P) (w := w) (base := base) B D_pegs_of
  have C_sum_of := w_sum_of (P := P) (w := w) (base := base) B D_sum_of C_checked_mat
  have C_is_sum := w_is_sum (P := P) (w := w) (base := base) B D_is_sum C_is_mat C_is_poly
  have C_checked_sum := w_checked_sum (P := P) (w := w) (base := base) B D_checked_sum C_is_sum
  have C_part := w_part (P := P) (w := w) (base := base) B D_part C_checked_sum C_checked_mat
  have C_scaled := w_scaled (P := P) (w := w) (base := base) B D_scaled C_checked_sum C_checked_poly C_times_p
  have C_flipped := w_flipped (P := P) (w := w) (base := base) B D_flipped C_checked_sum C_upside_down
  have C_at_worth := w_at_worth (P := P) (w := w) (base := base) B D_at_worth C_checked_sum C_at
  have C_add := w_add (P := P) (w := w) (base := base) B D_add C_checked_sum C_pegs_of C_add_p C_listed
  have C_check_words := w_check_words (P := P) (w := w) (base := base) B D_check_words C_check_size
  have C_value_of := w_value_of (P := P) (w := w) (base := base) B D_value_of C_check_words C_straight C_hook C_chained
  have C_word_sum := w_word_sum (P := P) (w := w) (base := base) B D_word_sum C_value_of
  have C_multiply := w_multiply (P := P) (w := w) (base := base) B D_multiply C_checked_sum C_pegs_of C_put_behind C_times_p C_add_p C_listed
  have C_law_well := w_law_well (P := P) (w := w) (base := base) B D_law_well
  have C_law_draw := w_law_draw (P := P) (w := w) (base := base) B D_law_draw
  have C_law_row := w_law_row (P := P) (w := w) (base := base) B D_law_row C_law_draw
  have C_law_mat := w_law_mat (P := P) (w := w) (base := base) B D_law_mat C_law_draw
  have C_law_sum := w_law_sum (P := P) (w := w) (base := base) B D_law_sum C_law_draw C_law_mat C_law_row
  have C_law_asking := w_law_asking (P := P) (w := w) (base := base) B D_law_asking C_law_draw C_law_mat C_law_row
  have C_law_word_value := w_law_word_value (P := P) (w := w) (base := base) B D_law_word_value C_law_put C_law_hook C_law_straight
  have C_law_due := w_law_due (P := P) (w := w) (base := base) B D_law_due C_law_lay C_law_put C_law_times C_law_down C_law_word_value C_law_listed
  have S0 := w_law_same_base (P := P) (w := w) (base := base) D_law_same
  have S1 := w_law_same_step B D_law_same S0
  have S2 := w_law_same_step B D_law_same S1
  have S3 := w_law_same_step B D_law_same S2
  have S4 := w_law_same_step B D_law_same S3
  have S5 := w_law_same_step B D_law_same S4
  have S6 := w_law_same_step B D_law_same S5
  have C_law_same := w_law_same_step B D_law_same S6
  have C_law_looked := w_law_looked (P := P) (w := w) (base := base) B D_law_looked C_law_same C_part C_law_value C_at_worth C_is_sum
  have C_law_made := w_law_made (P := P) (w := w) (base := base) B D_law_made C_add C_multiply C_scaled C_flipped C_word_sum C_sum_of
  have C_law_small := w_law_small (P := P) (w := w) (base := base) B D_law_small
  have X_checked_sum := wX_checked_sum (P := P) (w := w) (base := base) B D_checked_sum C_is_sum I ES
  have X_checked_poly := wX_checked_poly (P := P) (w := w) (base := base) B D_checked_poly C_is_poly I EPo
  have X_add := wX_add (P := P) (w := w) (base := base) B D_add X_checked_sum
  have X_multiply := wX_multiply (P := P) (w := w) (base := base) B D_multiply X_checked_sum C_pegs_of I EPa
  have X_scaled := wX_scaled (P := P) (w := w) (base := base) B D_scaled X_checked_sum X_checked_poly
  have X_check_words := wX_check_words (P := P) (w := w) (base := base) B D_check_words C_check_size I EH
  have X_value_of := wX_value_of (P := P) (w := w) (base := base) B D_value_of X_check_words
  have X_word_sum := wX_word_sum (P := P) (w := w) (base := base) B D_word_sum X_value_of
  have X_flipped := wX_flipped (P := P) (w := w) (base := base) B D_flipped X_checked_sum C_upside_down
  have C_law_refused := w_law_refused (P := P) (w := w) (base := base) B D_law_refused C_law_same C_law_straight X_add X_multiply X_scaled X_word_sum X_flipped hM ES EPo EH EPa
  have C_law_asked := w_law_asked (P := P) (w := w) (base := base) B D_law_asked C_law_due C_law_made C_law_same C_law_small C_law_looked C_law_refused
  exact w_law B FL C_law_well C_law_draw C_law_sum C_law_asking C_law_asked C_law_same
/-- a def, handed on -/
theorem dk {h : Heap} {x : Str} {st : Stmt} {f : Addr} {oc : Value} {od an : Option Addr} {osl : Array (Option Value)} {kV doc pm cdv ct : Value} {R : Prop} (X : K.In h) (G : h.Ns mainGlobals mg) (a : PySem.W.nsIn K mainGlobals x = some (some (.ref f)))
    (l : K.lookup f = some ⟨oc, od, .func (PySem.W.fnOf x x (defArgs st) (defBody st) (defScope st) .none kV doc pm an cdv ct), osl⟩) (c : PySem.W.codeIn K cdv x = true) (k : PySem.W.keepIn K (.ref f) = true) (q : DefIn K mg x st → R) : R :=
  q (def_mk X G a l c k)
theorem all_end {h : Heap} {fa cES cEPo cEH cEPa cM fI fL : Addr} {oc1 oc2 : Value} {od1 an1 od2 an2 : Option Addr} {sl1 sl2 : Array (Option Value)} {kV1 dc1 pm1 cd1 ct1 kV2 dc2 pm2 cd2 ct2 : Value} (X : K.In h) (G : h.Ns mainGlobals mg) (hfa : mg "law" = some (.ref fa)) (B : Bt mg)
    (D_round_of : DefIn K mg "round_of" (top 9))
    (D_is_mat : DefIn K mg "is_mat" (top 10))
    (D_checked_mat : DefIn K mg "checked_mat" (top 11))
    (D_check_size : DefIn K mg "check_size" (top 12))
    (D_remade : DefIn K mg "remade" (top 13))
    (D_straight : DefIn K mg "straight" (top 14))
    (D_hook : DefIn K mg "hook" (top 15))
    (D_upside_down : DefIn K mg "upside_down" (top 16))
    (D_far_end : DefIn K mg "far_end" (top 18))
    (D_loose_rings : DefIn K mg "loose_rings" (top 19))
    (D_put_behind : DefIn K mg "put_behind" (top 20))
    (D_chained : DefIn K mg "chained" (top 21))
    (D_cut_p : DefIn K mg "cut_p" (top 23))
    (D_add_p : DefIn K mg "add_p" (top 24))
    (D_times_p : DefIn K mg "times_p" (top 25))
    (D_is_poly : DefIn K mg "is_poly" (top 26))
    (D_checked_poly : DefIn K mg "checked_poly" (top 27))
    (D_at : DefIn K mg "at" (top 28))
    (D_check_words : DefIn K mg "check_words" (top 30))
    (D_value_of : DefIn K mg "value_of" (top 31))
    (D_listed : DefIn K mg "listed" (top 33))
    (D_is_sum : DefIn K mg "is_sum" (top 34))
    (D_checked_sum : DefIn K mg "checked_sum" (top 35))
    (D_pegs_of : DefIn K mg "pegs_of" (top 36))
    (D_sum_of : DefIn K mg "sum_of" (top 37))
    (D_add : DefIn K mg "add" (top 38))
    (D_multiply : DefIn K mg "multiply" (top 39))
    (D_scaled : DefIn K mg "scaled" (top 40))
    (D_part : DefIn K mg "part" (top 41))
    (D_flipped : DefIn K mg "flipped" (top 42))
    (D_word_sum : DefIn K mg "word_sum" (top 43))
    (D_at_worth : DefIn K mg "at_worth" (top 44))
    (D_law_well : DefIn K mg "_law_well" (top 46))
    (D_law_draw : DefIn K mg "_law_draw" (top 47))
    (D_law_same : DefIn K mg "_law_same" (top 48))
    (D_law_row : DefIn K mg "_law_row" (top 49))
    (D_law_cut : DefIn K mg "_law_cut" (top 50))
    (D_law_plus : DefIn K mg "_law_plus" (top 51))
    (D_law_times : DefIn K mg "_law_times" (top 52))
    (D_law_mat : DefIn K mg "_law_mat" (top 53))
    (D_law_put : DefIn K mg "_law_put" (top 54))
    (D_law_hook : DefIn K mg "_law_hook" (top 55))
    (D_law_straight : DefIn K mg "_law_straight" (top 56))
    (D_law_down : DefIn K mg "_law_down" (top 57))
    (D_law_sum : DefIn K mg "_law_sum" (top 58))
    (D_law_lay : DefIn K mg "_law_lay" (top 59))
    (D_law_listed : DefIn K mg "_law_listed" (top 60))
    (D_law_value : DefIn K mg "_law_value" (top 61))
    (D_law_asking : DefIn K mg "_law_asking" (top 62))
    (D_law_word_value : DefIn K mg "_law_word_value" (top 63))
    (D_law_due : DefIn K mg "_law_due" (top 64))
    (D_law_made : DefIn K mg "_law_made" (top 65))
    (D_law_looked : DefIn K mg "_law_looked" (top 66))
    (D_law_refused : DefIn K mg "_law_refused" (top 67))
    (D_law_small : DefIn K mg "_law_small" (top 68))
    (D_law_asked : DefIn K mg "_law_asked" (top 69))
    (hV : mg "ValueError" = none) (vV : PySem.W.findCls K (.type "ValueError") (.type "type") "__init__" = some (.val (.builtin "ValueError.__init__")))
    (hM : PySem.W.nsIn K mainGlobals "MatError" = some (some (.ref cM))) (ES : ErrC K mg "InvalidSum" cES cM fI) (EPo : ErrC K mg "InvalidPoly" cEPo cM fI) (EH : ErrC K mg "InvalidHook" cEH cM fI) (EPa : ErrC K mg "InvalidPair" cEPa cM fI)
    (ty : PySem.W.typeIn K (.ref fI) = some (.type "function")) (l1 : K.lookup fI = some ⟨oc1, od1, .func (PySem.W.fnOf "__init__" "MatError.__init__" (defArgs stInit) (defBody stInit) (defScope stInit) .none kV1 dc1 pm1 an1 cd1 ct1), sl1⟩) (c1 : PySem.W.codeIn K cd1 "MatError.__init__" = true) (k1 : PySem.W.keepIn K (.ref fI) = true)
    (a2 : PySem.W.nsIn K mainGlobals "law" = some (some (.ref fL))) (l2 : K.lookup fL = some ⟨oc2, od2, .func (PySem.W.fnOf "law" "law" (defArgs (top 70)) (defBody (top 70)) (defScope (top 70)) .none kV2 dc2 pm2 an2 cd2 ct2), sl2⟩) (c2 : PySem.W.codeIn K cd2 "law" = true) (k2 : PySem.W.keepIn K (.ref fL) = true) :
    ∃ fd : FuncData, (∀ (s : Shared) (v : Value), BindsTo s fd ⟨[v], []⟩ [("_law_script", v)]) ∧ ∀ base : Heap, K.In base → base.Ns mainGlobals mg → FnOk P w K mg base CX0 11 fa fd ["_law_script"] (sp_law K) := by
  have e := hfa.symm.trans (PySem.W.mg_of X G a2)
  cases e
  have FI := fun_mk (st := stInit) l1 c1 k1
  have FL := fun_mk (st := top 70) l2 c2 k2
  exact ⟨PySem.W.fnOf "law" "law" (defArgs (top 70)) (defBody (top 70)) (defScope (top 70)) .none kV2 dc2 pm2 an2 cd2 ct2, fun s v => .of_eq rfl, fun base _ _ => all_ok B D_round_of D_is_mat D_checked_mat D_check_size D_remade D_straight D_hook D_upside_down D_far_end D_loose_rings D_put_behind D_chained D_cut_p D_add_p D_times_p D_is_poly D_checked_poly D_at D_check_words D_value_of D_listed D_is_sum D_checked_sum D_pegs_of D_sum_of D_add D_multiply D_scaled D_part D_flipped D_word_sum D_at_worth D_law_well D_law_draw D_law_same D_law_row D_law_cut D_law_plus D_law_times D_law_mat D_law_put D_law_hook D_law_straight D_law_down D_law_sum D_law_lay D_law_listed D_law_value D_law_asking D_law_word_value D_law_due D_law_made D_law_looked D_law_refused D_law_small D_law_asked hV vV FI ty (PySem.W.mg_of X G hM) ES EPo EH EPa FL⟩
theorem walk {l : PySem.W.OpenLaw} {q : Program} {loose : List Str} {XP : (Str → Option Value) → Heap → Prop} {YP : World → Heap → Prop} {d : DefRec} {K : Params → PySem.W.Frag} (hn : l.most = some 63) (hdf : d.params.defaults = [])
    (hY : ∀ (w : World) (h : Heap), YP w h → (K w.params).In h)
    (F : ∀ (w : World) (mg : Str → Option Value) (fa : Addr) (h : Heap), (K w.params).In h → h.Ns mainGlobals mg → mg d.name = some (.ref fa) →
      ∃ fd : FuncData, (∀ (s : Shared) (u : Value), BindsTo s fd ⟨[u], []⟩ [("_law_script", u)]) ∧ ∀ base : Heap, (K w.params).In base → base.Ns mainGlobals mg → FnOk l.prog w (K w.params) mg base CX0 11 fa fd ["_law_script"] (sp_law (K w.params))) :
    PySem.W.WalkO q loose XP YP l.row.toRowW d [] (fun f vs => PySem.call f vs) :=
  L2.walk_of (n := 63) (k := 11) (x := "_law_script") (CX := fun _ => CX0) (sp := fun w => sp_law (K w.params)) hn (by decide) hdf ⟨rfl, by decide, by decide⟩ hY F (fun _ _ a ns hl _ hS => ⟨a, ns, rfl, hS, hl, fun _ => rfl⟩) fun _ _ _ _ _ z => z
end
end Hk

open PySem PySem.W PyProof.Rows
set_option maxRecDepth 100000 in
set_option maxHeartbeats 0 in
theorem PySem.Challenge.cw_hookmats_k38_whole_any_question_of_sums_holds : PySem.Challenge.rw_hookmats_k38_whole_any_question_of_sums.Holds := by
  w_on; o_law; k_head; (case hw => w_witness2)
  k_fill
  refine Hk.walk (l := PySem.Challenge.rw_hookmats_k38_whole_any_question_of_sums) rfl rfl (fun w h Y => PySem.W.kIn_of Y) ?F
  case F =>
    intro w mg fa h KX G hmg
    have B : Hk.Bt mg := ⟨PySem.W.mg_none_of KX G (by k_is), PySem.W.mg_none_of KX G (by k_is), PySem.W.mg_none_of KX G (by k_is), PySem.W.mg_none_of KX G (by k_is), PySem.W.mg_none_of KX G (by k_is), PySem.W.mg_none_of KX G (by k_is), PySem.W.mg_none_of KX G (by k_is), PySem.W.mg_none_of KX G (by k_is), PySem.W.mg_none_of KX G (by k_is), PySem.W.mg_none_of KX G (by k_is), PySem.W.mg_none_of KX G (by k_is), PySem.W.mg_none_of KX G (by k_is), PySem.W.mg_none_of KX G (by k_is), PySem.W.mg_none_of KX G (by k_is), PySem.W.mg_none_of KX G (by k_is)⟩
    have hV : mg "ValueError" = none := PySem.W.mg_none_of KX G (by k_is)
    refine' Hk.dk (x := "round_of") (st := Hk.top 9) KX G ?a9 ?l9 ?c9 ?k9 (fun D_round_of => ?_)
    (case a9 => k_is); (case l9 => k_is); (case c9 => k_is); (case k9 => k_is)
    refine' Hk.dk (x := "is_mat") (st := Hk.top 10) KX G ?a10 ?l10 ?c10 ?k10 (fun D_is_mat => ?_)
    (case a10 => k_is); (case l10 => k_is); (case c10 => k_is); (case k10 => k_is)
    refine' Hk.dk (x := "checked_mat") (st := Hk.top 11) KX G ?a11 ?l11 ?c11 ?k11 (fun D_checked_mat => ?_)
    (case a11 => k_is); (case l11 => k_is); (case c11 => k_is); (case k11 => k_is)
    refine' Hk.dk (x := "check_size") (st := Hk.top 12) KX G ?a12 ?l12 ?c12 ?k12 (fun D_check_size => ?_)
    (case a12 => k_is); (case l12 => k_is); (case c12 => k_is); (case k12 => k_is)
    refine' Hk.dk (x := "remade") (st := Hk.top 13) KX G ?a13 ?l13 ?c13 ?k13 (fun D_remade => ?_)
    (case a13 => k_is); (case l13 => k_is); (case c13 => k_is); (case k13 => k_is)
    refine' Hk.dk (x := "straight") (st := Hk.top 14) KX G ?a14 ?l14 ?c14 ?k14 (fun D_straight => ?_)
    (case a14 => k_is); (case l14 => k_is); (case c14 => k_is); (case k14 => k_is)
    refine' Hk.dk (x := "hook") (st := Hk.top 15) KX G ?a15 ?l15 ?c15 ?k15 (fun D_hook => ?_)
    (case a15 => k_is); (case l15 => k_is); (case c15 => k_is); (case k15 => k_is)
    refine' Hk.dk (x := "upside_down") (st := Hk.top 16) KX G ?a16 ?l16 ?c16 ?k16 (fun D_upside_down => ?_)
    (case a16 => k_is); (case l16 => k_is); (case c16 => k_is); (case k16 => k_is)
    refine' Hk.dk (x := "far_end") (st := Hk.top 18) KX G ?a18 ?l18 ?c18 ?k18 (fun D_far_end => ?_)
    (case a18 => k_is); (case l18 => k_is); (case c18 => k_is); (case k18 => k_is)
    refine' Hk.dk (x := "loose_rings") (st := Hk.top 19) KX G ?a19 ?l19 ?c19 ?k19 (fun D_loose_rings => ?_)
    (case a19 => k_is); (case l19 => k_is); (case c19 => k_is); (case k19 => k_is)
    refine' Hk.dk (x := "put_behind") (st := Hk.top 20) KX G ?a20 ?l20 ?c20 ?k20 (fun D_put_behind => ?_)
    (case a20 => k_is); (case l20 => k_is); (case c20 => k_is); (case k20 => k_is)
    refine' Hk.dk (x := "chained") (st := Hk.top 21) KX G ?a21 ?l21 ?c21 ?k21 (fun D_chained => ?_)
    (case a21 => k_is); (case l21 => k_is); (case c21 => k_is); (case k21 => k_is)
    refine' Hk.dk (x := "cut_p") (st := Hk.top 23) KX G ?a23 ?l23 ?c23 ?k23 (fun D_cut_p => ?_)
    (case a23 => k_is); (case l23 => k_is); (case c23 => k_is); (case k23 => k_is)
    refine' Hk.dk (x := "add_p") (st := Hk.top 24) KX G ?a24 ?l24 ?c24 ?k24 (fun D_add_p => ?_)
    (case a24 => k_is); (case l24 => k_is); (case c24 => k_is); (case k24 => k_is)
    refine' Hk.dk (x := "times_p") (st := Hk.top 25) KX G ?a25 ?l25 ?c25 ?k25 (fun D_times_p => ?_)
    (case a25 => k_is); (case l25 => k_is); (case c25 => k_is); (case k25 => k_is)
    refine' Hk.dk (x := "is_poly") (st := Hk.top 26) KX G ?a26 ?l26 ?c26 ?k26 (fun D_is_poly => ?_)
    (case a26 => k_is); (case l26 => k_is); (case c26 => k_is); (case k26 => k_is)
    refine' Hk.dk (x := "checked_poly") (st := Hk.top 27) KX G ?a27 ?l27 ?c27 ?k27 (fun D_checked_poly => ?_)
    (case a27 => k_is); (case l27 => k_is); (case c27 => k_is); (case k27 => k_is)
    refine' Hk.dk (x := "at") (st := Hk.top 28) KX G ?a28 ?l28 ?c28 ?k28 (fun D_at => ?_)
    (case a28 => k_is); (case l28 => k_is); (case c28 => k_is); (case k28 => k_is)
    refine' Hk.dk (x := "check_words") (st := Hk.top 30) KX G ?a30 ?l30 ?c30 ?k30 (fun D_check_words => ?_)
    (case a30 => k_is); (case l30 => k_is); (case c30 => k_is); (case k30 => k_is)
    refine' Hk.dk (x := "value_of") (st := Hk.top 31) KX G ?a31 ?l31 ?c31 ?k31 (fun D_value_of => ?_)
    (case a31 => k_is); (case l31 => k_is); (case c31 => k_is); (case k31 => k_is)
    refine' Hk.dk (x := "listed") (st := Hk.top 33) KX G ?a33 ?l33 ?c33 ?k33 (fun D_listed => ?_)
    (case a33 => k_is); (case l33 => k_is); (case c33 => k_is); (case k33 => k_is)
    refine' Hk.dk (x := "is_sum") (st := Hk.top 34) KX G ?a34 ?l34 ?c34 ?k34 (fun D_is_sum => ?_)
    (case a34 => k_is); (case l34 => k_is); (case c34 => k_is); (case k34 => k_is)
    refine' Hk.dk (x := "checked_sum") (st := Hk.top 35) KX G ?a35 ?l35 ?c35 ?k35 (fun D_checked_sum => ?_)
    (case a35 => k_is); (case l35 => k_is); (case c35 => k_is); (case k35 => k_is)
    refine' Hk.dk (x := "pegs_of") (st := Hk.top 36) KX G ?a36 ?l36 ?c36 ?k36 (fun D_pegs_of => ?_)
    (case a36 => k_is); (case l36 => k_is); (case c36 => k_is); (case k36 => k_is)
    refine' Hk.dk (x := "sum_of") (st := Hk.top 37) KX G ?a37 ?l37 ?c37 ?k37 (fun D_sum_of => ?_)
    (case a37 => k_is); (case l37 => k_is); (case c37 => k_is); (case k37 => k_is)
    refine' Hk.dk (x := "add") (st := Hk.top 38) KX G ?a38 ?l38 ?c38 ?k38 (fun D_add => ?_)
    (case a38 => k_is); (case l38 => k_is); (case c38 => k_is); (case k38 => k_is)
    refine' Hk.dk (x := "multiply") (st := Hk.top 39) KX G ?a39 ?l39 ?c39 ?k39 (fun D_multiply => ?_)
    (case a39 => k_is); (case l39 => k_is); (case c39 => k_is); (case k39 => k_is)
    refine' Hk.dk (x := "scaled") (st := Hk.top 40) KX G ?a40 ?l40 ?c40 ?k40 (fun D_scaled => ?_)
    (case a40 => k_is); (case l40 => k_is); (case c40 => k_is); (case k40 => k_is)
    refine' Hk.dk (x := "part") (st := Hk.top 41) KX G ?a41 ?l41 ?c41 ?k41 (fun D_part => ?_)
    (case a41 => k_is); (case l41 => k_is); (case c41 => k_is); (case k41 => k_is)
    refine' Hk.dk (x := "flipped") (st := Hk.top 42) KX G ?a42 ?l42 ?c42 ?k42 (fun D_flipped => ?_)
    (case a42 => k_is); (case l42 => k_is); (case c42 => k_is); (case k42 => k_is)
    refine' Hk.dk (x := "word_sum") (st := Hk.top 43) KX G ?a43 ?l43 ?c43 ?k43 (fun D_word_sum => ?_)
    (case a43 => k_is); (case l43 => k_is); (case c43 => k_is); (case k43 => k_is)
    refine' Hk.dk (x := "at_worth") (st := Hk.top 44) KX G ?a44 ?l44 ?c44 ?k44 (fun D_at_worth => ?_)
    (case a44 => k_is); (case l44 => k_is); (case c44 => k_is); (case k44 => k_is)
    refine' Hk.dk (x := "_law_well") (st := Hk.top 46) KX G ?a46 ?l46 ?c46 ?k46 (fun D_law_well => ?_)
    (case a46 => k_is); (case l46 => k_is); (case c46 => k_is); (case k46 => k_is)
    refine' Hk.dk (x := "_law_draw") (st := Hk.top 47) KX G ?a47 ?l47 ?c47 ?k47 (fun D_law_draw => ?_)
    (case a47 => k_is); (case l47 => k_is); (case c47 => k_is); (case k47 => k_is)
    refine' Hk.dk (x := "_law_same") (st := Hk.top 48) KX G ?a48 ?l48 ?c48 ?k48 (fun D_law_same => ?_)
    (case a48 => k_is); (case l48 => k_is); (case c48 => k_is); (case k48 => k_is)
    refine' Hk.dk (x := "_law_row") (st := Hk.top 49) KX G ?a49 ?l49 ?c49 ?k49 (fun D_law_row => ?_)
    (case a49 => k_is); (case l49 => k_is); (case c49 => k_is); (case k49 => k_is)
    refine' Hk.dk (x := "_law_cut") (st := Hk.top 50) KX G ?a50 ?l50 ?c50 ?k50 (fun D_law_cut => ?_)
    (case a50 => k_is); (case l50 => k_is); (case c50 => k_is); (case k50 => k_is)
    refine' Hk.dk (x := "_law_plus") (st := Hk.top 51) KX G ?a51 ?l51 ?c51 ?k51 (fun D_law_plus => ?_)
    (case a51 => k_is); (case l51 => k_is); (case c51 => k_is); (case k51 => k_is)
    refine' Hk.dk (x := "_law_times") (st := Hk.top 52) KX G ?a52 ?l52 ?c52 ?k52 (fun D_law_times => ?_)
    (case a52 => k_is); (case l52 => k_is); (case c52 => k_is); (case k52 => k_is)
    refine' Hk.dk (x := "_law_mat") (st := Hk.top 53) KX G ?a53 ?l53 ?c53 ?k53 (fun D_law_mat => ?_)
    (case a53 => k_is); (case l53 => k_is); (case c53 => k_is); (case k53 => k_is)
    refine' Hk.dk (x := "_law_put") (st := Hk.top 54) KX G ?a54 ?l54 ?c54 ?k54 (fun D_law_put => ?_)
    (case a54 => k_is); (case l54 => k_is); (case c54 => k_is); (case k54 => k_is)
    refine' Hk.dk (x := "_law_hook") (st := Hk.top 55) KX G ?a55 ?l55 ?c55 ?k55 (fun D_law_hook => ?_)
    (case a55 => k_is); (case l55 => k_is); (case c55 => k_is); (case k55 => k_is)
    refine' Hk.dk (x := "_law_straight") (st := Hk.top 56) KX G ?a56 ?l56 ?c56 ?k56 (fun D_law_straight => ?_)
    (case a56 => k_is); (case l56 => k_is); (case c56 => k_is); (case k56 => k_is)
    refine' Hk.dk (x := "_law_down") (st := Hk.top 57) KX G ?a57 ?l57 ?c57 ?k57 (fun D_law_down => ?_)
    (case a57 => k_is); (case l57 => k_is); (case c57 => k_is); (case k57 => k_is)
    refine' Hk.dk (x := "_law_sum") (st := Hk.top 58) KX G ?a58 ?l58 ?c58 ?k58 (fun D_law_sum => ?_)
    (case a58 => k_is); (case l58 => k_is); (case c58 => k_is); (case k58 => k_is)
    refine' Hk.dk (x := "_law_lay") (st := Hk.top 59) KX G ?a59 ?l59 ?c59 ?k59 (fun D_law_lay => ?_)
    (case a59 => k_is); (case l59 => k_is); (case c59 => k_is); (case k59 => k_is)
    refine' Hk.dk (x := "_law_listed") (st := Hk.top 60) KX G ?a60 ?l60 ?c60 ?k60 (fun D_law_listed => ?_)
    (case a60 => k_is); (case l60 => k_is); (case c60 => k_is); (case k60 => k_is)
    refine' Hk.dk (x := "_law_value") (st := Hk.top 61) KX G ?a61 ?l61 ?c61 ?k61 (fun D_law_value => ?_)
    (case a61 => k_is); (case l61 => k_is); (case c61 => k_is); (case k61 => k_is)
    refine' Hk.dk (x := "_law_asking") (st := Hk.top 62) KX G ?a62 ?l62 ?c62 ?k62 (fun D_law_asking => ?_)
    (case a62 => k_is); (case l62 => k_is); (case c62 => k_is); (case k62 => k_is)
    refine' Hk.dk (x := "_law_word_value") (st := Hk.top 63) KX G ?a63 ?l63 ?c63 ?k63 (fun D_law_word_value => ?_)
    (case a63 => k_is); (case l63 => k_is); (case c63 => k_is); (case k63 => k_is)
    refine' Hk.dk (x := "_law_due") (st := Hk.top 64) KX G ?a64 ?l64 ?c64 ?k64 (fun D_law_due => ?_)
    (case a64 => k_is); (case l64 => k_is); (case c64 => k_is); (case k64 => k_is)
    refine' Hk.dk (x := "_law_made") (st := Hk.top 65) KX G ?a65 ?l65 ?c65 ?k65 (fun D_law_made => ?_)
    (case a65 => k_is); (case l65 => k_is); (case c65 => k_is); (case k65 => k_is)
    refine' Hk.dk (x := "_law_looked") (st := Hk.top 66) KX G ?a66 ?l66 ?c66 ?k66 (fun D_law_looked => ?_)
    (case a66 => k_is); (case l66 => k_is); (case c66 => k_is); (case k66 => k_is)
    refine' Hk.dk (x := "_law_refused") (st := Hk.top 67) KX G ?a67 ?l67 ?c67 ?k67 (fun D_law_refused => ?_)
    (case a67 => k_is); (case l67 => k_is); (case c67 => k_is); (case k67 => k_is)
    refine' Hk.dk (x := "_law_small") (st := Hk.top 68) KX G ?a68 ?l68 ?c68 ?k68 (fun D_law_small => ?_)
    (case a68 => k_is); (case l68 => k_is); (case c68 => k_is); (case k68 => k_is)
    refine' Hk.dk (x := "_law_asked") (st := Hk.top 69) KX G ?a69 ?l69 ?c69 ?k69 (fun D_law_asked => ?_)
    (case a69 => k_is); (case l69 => k_is); (case c69 => k_is); (case k69 => k_is)
    refine' Hk.all_end KX G hmg B D_round_of D_is_mat D_checked_mat D_check_size D_remade D_straight D_hook D_upside_down D_far_end D_loose_rings D_put_behind D_chained D_cut_p D_add_p D_times_p D_is_poly D_checked_poly D_at D_check_words D_value_of D_listed D_is_sum D_checked_sum D_pegs_of D_sum_of D_add D_multiply D_scaled D_part D_flipped D_word_sum D_at_worth D_law_well D_law_draw D_law_same D_law_row D_law_cut D_law_plus D_law_times D_law_mat D_law_put D_law_hook D_law_straight D_law_down D_law_sum D_law_lay D_law_listed D_law_value D_law_asking D_law_word_value D_law_due D_law_made D_law_looked D_law_refused D_law_small D_law_asked hV ?vV ?hM (Hk.err_mk KX G ?a_s ?x_s ?sa_s ?ga_s ?gg_s ?nv_s ?ic_s ?kc_s ?ec_s ?tc_s ?hc_s ?h1_s ?h2_s ?h3_s ?h4_s) (Hk.err_mk KX G ?a_p ?x_p ?sa_p ?ga_p ?gg_p ?nv_p ?ic_p ?kc_p ?ec_p ?tc_p ?hc_p ?h1_p ?h2_p ?h3_p ?h4_p) (Hk.err_mk KX G ?a_h ?x_h ?sa_h ?ga_h ?gg_h ?nv_h ?ic_h ?kc_h ?ec_h ?tc_h ?hc_h ?h1_h ?h2_h ?h3_h ?h4_h) (Hk.err_mk KX G ?a_q ?x_q ?sa_q ?ga_q ?gg_q ?nv_q ?ic_q ?kc_q ?ec_q ?tc_q ?hc_q ?h1_q ?h2_q ?h3_q ?h4_q) ?ty ?lI ?cI ?kI ?aL ?lL ?cL ?kL
    (case vV => k_is)
    (case hM => k_is)
    (case a_s => k_is)
    (case x_s => k_is)
    (case sa_s => k_is)
    (case ga_s => k_is)
    (case gg_s => k_is)
    (case nv_s => k_is)
    (case ic_s => k_is)
    (case kc_s => k_is)
    (case ec_s => k_is)
    (case tc_s => k_is)
    (case hc_s => k_is)
    (case h1_s => k_is)
    (case h2_s => k_is)
    (case h3_s => k_is)
    (case h4_s => first | rfl | k_is)
    (case a_p => k_is)
    (case x_p => k_is)
    (case sa_p => k_is)
    (case ga_p => k_is)
    (case gg_p => k_is)
    (case nv_p => k_is)
    (case ic_p => k_is)
    (case kc_p => k_is)
    (case ec_p => k_is)
    (case tc_p => k_is)
    (case hc_p => k_is)
    (case h1_p => k_is)
    (case h2_p => k_is)
    (case h3_p => k_is)
    (case h4_p => first | rfl | k_is)
    (case a_h => k_is)
    (case x_h => k_is)
    (case sa_h => k_is)
    (case ga_h => k_is)
    (case gg_h => k_is)
    (case nv_h => k_is)
    (case ic_h => k_is)
    (case kc_h => k_is)
    (case ec_h => k_is)
    (case tc_h => k_is)
    (case hc_h => k_is)
    (case h1_h => k_is)
    (case h2_h => k_is)
    (case h3_h => k_is)
    (case h4_h => first | rfl | k_is)
    (case a_q => k_is)
    (case x_q => k_is)
    (case sa_q => k_is)
    (case ga_q => k_is)
    (case gg_q => k_is)
    (case nv_q => k_is)
    (case ic_q => k_is)
    (case kc_q => k_is)
    (case ec_q => k_is)
    (case tc_q => k_is)
    (case hc_q => k_is)
    (case h1_q => k_is)
    (case h2_q => k_is)
    (case h3_q => k_is)
    (case h4_q => first | rfl | k_is)
    (case ty => k_is)
    (case lI => k_is)
    (case cI => k_is)
    (case kI => k_is)
    (case aL => k_is)
    (case lL => k_is)
    (case cL => k_is)
    (case kL => k_is)
#print axioms PySem.Challenge.cw_hookmats_k38_whole_any_question_of_sums_holds
