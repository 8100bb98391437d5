import PyProof.Rows.All
import Wide.All
import OpenK.AllK
import Wide.FinOn
import HandS.ForMost
import HandS.Codes
import HandS.Defaults
import HandS.IsInst
import HandS.SetFor
import HandS.SortInts
import HandS.Dict
import HandS.Conv
import HandS.TupAny
import HandS.Lambda
import HandS.SortKw
import HandS.EndTab
import HandS.Style
import KE.SortKeyHeap
import KE.KLam
import HandS.Deep
import HandS.DictEq
import HandS.DeepEq
import PyProof.SumAny
import HandS.SortRule
import HandS.Sort
import HandS.Walk
import HandS.Iter
import HandS.ExcInit
import HandS.ExcIs
import HandS.ExcField
import HandS.ExcOwn
import HandS.TryMany
import HandS.WordsExc
import KE.KExcIs
import PySem.Challenge.RW_slotwraps_k28_questions_refused
set_option Elab.async false
set_option linter.all false
set_option maxRecDepth 100000
set_option maxHeartbeats 4000000

namespace Sw
open PySem L2

/-! ### readings, step by step -/
section
variable {K : PySem.W.Frag} {D : Ends} {σ : St} {H H1 : Hp} {Q : VK} {QA : List V → Hp → Prop} {QB : Bool → Hp → Prop} {QS : St → Hp → Prop} {t u : TS} {ta tb tc : TE} {tt tt' : TT} {tA : TA} {r r' : R2} {i j : Nat} {x y v : V}
theorem r_seq (h : t { D with nx := fun σ H => u D σ H } σ H) : tSeq t u D σ H := h
theorem r_cut (Mid : St → Hp → Prop) (h : t { D with nx := Mid } σ H) (h2 : ∀ σ' H', Mid σ' H' → u D σ' H') : C8.tCut t u D σ H := ⟨Mid, h, h2⟩
theorem r_asg {g : TG} (h : ta σ H fun x H1 => g x σ H1 fun σ2 H2 => D.nx σ2 H2) : tAsg ta g D σ H := h
theorem r_gname (h : QS (σ.set i (some v)) H) : gName i v σ H QS := h
theorem r_drop (h : ta σ H fun _ H1 => D.nx σ H1) : tDrop ta D σ H := h
theorem r_ret (h : ta σ H fun v H1 => D.rt v H1) : tRet ta D σ H := h
theorem r_retN (h : D.rt .non H) : tRetN D σ H := h
theorem r_next (h : D.nx σ H) : tNext D σ H := h
theorem r_break (h : D.bk σ H) : tBreak D σ H := h
theorem r_cont (h : D.ct σ H) : tCont D σ H := h
theorem r_ifS (h : tt σ H fun b H1 => if b = true then t D σ H1 else u D σ H1) : tIfS tt t u D σ H := h
theorem r_var (hv : σ[i]? = some (some v)) (h : Q v H) : tVar i σ H Q := ⟨v, hv, h⟩
theorem r_c (h : Q v H) : tC v σ H Q := h
theorem r_op (h : ta σ H fun x H1 => tb σ H1 fun y H2 => r x y H2 Q) : tOp r ta tb σ H Q := h
theorem r_un {r : V → Hp → VK → Prop} (h : ta σ H fun x H1 => r x H1 Q) : tUn r ta σ H Q := h
theorem r_rU {g : Int → V} {a : Int} (h : Q (g a) H) : rU g (.int a) H Q := ⟨_, rfl, h⟩
theorem r_rI0 {g : Int → Int → V} {a b : Int} (h : Q (g a b) H) : rI0 g (.int a) (.int b) H Q := ⟨_, _, rfl, rfl, h⟩
theorem r_rI {C : Int → Int → Prop} {g : Int → Int → V} {a b : Int} (hc : C a b) (h : Q (g a b) H) : rI C g (.int a) (.int b) H Q := ⟨_, _, rfl, rfl, hc, h⟩
theorem r_test (h : ta σ H fun x H' => ∃ k, x = .bl k ∧ QB k H') : tTest ta σ H QB := h
theorem r_B (h : ta σ H fun x H' => ∃ k, x = .bl k ∧ QB k H') : tB ta σ H QB := h
theorem r_k {b : Bool} (h : QB b H) : ∃ k, V.bl b = V.bl k ∧ QB k H := ⟨b, rfl, h⟩
theorem r_eqi {a b : Int} (h : Q (.bl (decide (a = b))) H) : rEq (.int a) (.int b) H Q := ⟨rfl, by
  have e : decide (V.int a = V.int b) = decide (a = b) := by
    by_cases c : a = b
    · subst c; simp
    · rw [decide_eq_false c]; exact decide_eq_false fun q => c (V.int.inj q)
  rw [e]; exact h⟩
theorem r_nei {a b : Int} (h : Q (.bl (!decide (a = b))) H) : rNe (.int a) (.int b) H Q := ⟨rfl, by
  have e : decide (V.int a = V.int b) = decide (a = b) := by
    by_cases c : a = b
    · subst c; simp
    · rw [decide_eq_false c]; exact decide_eq_false fun q => c (V.int.inj q)
  rw [e]; exact h⟩
theorem r_eqs {a b : Str} (h : Q (.bl (decide (a = b))) H) : rEq (.str a) (.str b) H Q := ⟨rfl, by
  have e : decide (V.str a = V.str b) = decide (a = b) := by
    by_cases c : a = b
    · subst c; simp
    · rw [decide_eq_false c]; exact decide_eq_false fun q => c (V.str.inj q)
  rw [e]; exact h⟩
theorem r_chain (h : ta σ H fun x H1 => tb σ H1 fun y H2 => r x y H2 fun z H3 => ∃ k, z = .bl k ∧ (if k = true then tc σ H3 fun w' H4 => r' y w' H4 Q else Q (.bl false) H3)) : tChain r r' ta tb tc σ H Q := h
theorem r_and (h : tt σ H fun c H1 => if c = true then tt' σ H1 QB else QB false H1) : tAnd tt tt' σ H QB := h
theorem r_or (h : tt σ H fun c H1 => if c = true then QB true H1 else tt' σ H1 QB) : tOr tt tt' σ H QB := h
theorem r_not (h : tt σ H fun c H1 => QB (!c) H1) : tNot tt σ H QB := h
theorem r_andV (h : ta σ H fun x H1 => ∃ c, x = .bl c ∧ if c = true then tb σ H1 Q else Q (.bl false) H1) : tAndV ta tb σ H Q := h
theorem r_orV (h : ta σ H fun x H1 => ∃ c, x = .bl c ∧ if c = true then Q (.bl true) H1 else tb σ H1 Q) : tOrV ta tb σ H Q := h
theorem r_notV (h : ta σ H fun x H1 => ∃ c, x = .bl c ∧ Q (.bl (!c)) H1) : tNotV ta σ H Q := h
theorem r_k2 {b : Bool} {F : Bool → Prop} (h : F b) : ∃ k, V.bl b = V.bl k ∧ F k := ⟨b, rfl, h⟩
theorem r_ifE (h : tt σ H fun c H1 => if c = true then ta σ H1 Q else tb σ H1 Q) : tIf tt ta tb σ H Q := h
theorem r_nil (h : QA [] H) : tNil σ H QA := h
theorem r_cons (h : ta σ H fun x H1 => tA σ H1 fun xs H2 => QA (x :: xs) H2) : tCons ta tA σ H QA := h
theorem r_tup (h : tA σ H fun xs H1 => xs.length ≤ sizeLine ∧ ∀ p, H1 p = none → Q (.ref p) (upd H1 p (.tup xs))) : tTup tA σ H Q := h
theorem r_lst (h : tA σ H fun xs H1 => xs.length ≤ sizeLine ∧ ∀ p, H1 p = none → Q (.ref p) (upd H1 p (.lst xs))) : tLst tA σ H Q := h
theorem r_call {sp : Sp} {dvs : List V} {E : XK} (h : tA σ H fun vs H1 => sp (vs ++ dvs) H1 Q E) : tCall sp dvs E tA σ H Q := h
theorem r_callN {n m : Nat} {sp : Sp} {gV : List V → List V → List V} {E : XK} {tk : TA} (h : tA σ H fun vs H1 => tk σ H1 fun zs H2 => vs.length = n ∧ zs.length = m ∧ sp (gV vs zs) H2 Q E) : tCallN n m sp gV E tA tk σ H Q := h
theorem r_CB {r : List V → Hp → VK → Prop} (h : tA σ H fun vs H1 => r vs H1 Q) : tCB r tA σ H Q := h
theorem r_BM {T : String} {r : V → List V → Hp → VK → Prop} (h : ta σ H fun x H1 => tyV K T x H1 ∧ tA σ H1 fun xs H2 => r x xs H2 Q) : tBM K T r ta tA σ H Q := h
theorem r_BM0 {T : String} {r : V → List V → Hp → VK → Prop} (h : ta σ H fun x H1 => tyV K T x H1 ∧ r x [] H1 Q) : tBM0 K T r ta σ H Q := h
theorem r_fld {a C dx : Addr} {fs : List (Str × V)} {f : Str} (ho : H a = some (.ins C dx fs)) (c : Cls K C) (n : NoAttr K C f) (l : fs.lookup f = some v) (h : Q v H) (he : ta σ H fun x H1 => x = .ref a ∧ H1 = H) : tFld K (fun σ H Q => Q (.ref a) H) f σ H Q := ⟨a, C, dx, fs, v, rfl, ho, c, n, l, h⟩
theorem r_fldE {f : Str} (h : ta σ H fun x H1 => ∃ a C dx fs v, x = .ref a ∧ H1 a = some (.ins C dx fs) ∧ Cls K C ∧ NoAttr K C f ∧ fs.lookup f = some v ∧ Q v H1) : tFld K ta f σ H Q := h
theorem r_sl {r : V → Option Int → Option Int → Hp → VK → Prop} {te : TE} {tl th : TO} (h : te σ H fun x H1 => tl σ H1 fun lo H2 => th σ H2 fun hi H3 => r x lo hi H3 Q) : tSl r te tl th σ H Q := h
theorem r_part {Qp : Option Int → Hp → Prop} (h : ta σ H fun x H1 => ∃ i, x = .int i ∧ Qp (some i) H1) : tPart ta σ H Qp := h
theorem r_noPart {Qp : Option Int → Hp → Prop} (h : Qp none H) : tNoPart σ H Qp := h
theorem r_exi {a : Int} {F : Int → Prop} (h : F a) : ∃ i, V.int a = .int i ∧ F i := ⟨a, rfl, h⟩
theorem r_slL {a : Addr} {xs : List V} {lo hi : Option Int} (hs : SqL K H a xs) (h : ∀ p, H p = none → Q (.ref p) (upd H p (.lst (cutV xs lo hi)))) : rSlL K (.ref a) lo hi H Q := ⟨a, xs, rfl, hs, h⟩
theorem r_ixl {p : Addr} {xs : List V} {a : Int} (h1 : SqL K H p xs) (h2 : atI xs a = some v) (h : Q v H) : rIxL K (.ref p) (.int a) H Q := ⟨_, _, _, _, rfl, rfl, h1, h2, h⟩
theorem r_ixt {p : Addr} {xs : List V} {a : Int} (h1 : SqT K H p xs) (h2 : atI xs a = some v) (h : Q v H) : rIxT K (.ref p) (.int a) H Q := ⟨_, _, _, _, rfl, rfl, h1, h2, h⟩
theorem r_gsub {s : TSet} (h : ta σ H fun o H1 => tb σ H1 fun i H2 => s o i v H2 fun H3 => QS σ H3) : gSub ta tb s v σ H QS := h
theorem r_setl {p : Addr} {xs : List V} {a : Int} {j : Nat} {QH : Hp → Prop} (h1 : H p = some (.lst xs)) (h2 : ixN xs.length a = some j) (h : QH (upd H p (.lst (xs.set j v)))) : rSetL (.ref p) (.int a) v H QH := ⟨_, _, _, _, rfl, rfl, h1, h2, h⟩
theorem r_par (h : tA σ H fun vs H1 => ∃ v w, vs = [v, w] ∧ D.nx ((σ.set i (some v)).set j (some w)) H1) : tPar i j tA D σ H := h
theorem r_par2 {F : V → V → Prop} (h : F x y) : ∃ v w, [x, y] = [v, w] ∧ F v w := ⟨x, y, rfl, h⟩
theorem r_gtup {n : Nat} {t : TGs} {p : Addr} {xs : List V} (h1 : SqT K H p xs) (h2 : xs.length = n) (h : t xs σ H QS) : gTup K n t (.ref p) σ H QS := ⟨_, _, rfl, h1, h2, h⟩
theorem r_gcons {t : TG} {u : TGs} {vs : List V} (h : t v σ H fun σ' H' => u vs σ' H' QS) : gCons t u (v :: vs) σ H QS := ⟨_, _, rfl, h⟩
theorem r_gnil (h : QS σ H) : gNil [] σ H QS := ⟨rfl, h⟩
theorem small_sz {n : Nat} (h : n ≤ 1000) : n ≤ sizeLine := Nat.le_trans h (by decide)
theorem r_new {n : Nat} {F : Prop} (hn : n ≤ 1000) (h : F) : n ≤ sizeLine ∧ F := ⟨small_sz hn, h⟩
theorem flat_rep (n : Nat) (v : V) : (List.replicate n [v]).flatten = List.replicate n v := by
  induction n with
  | zero => rfl
  | succ n ih => rw [List.replicate_succ, List.flatten_cons, ih, List.replicate_succ]; rfl
theorem r_rep1 {l : Addr} {n : Nat} (h1 : H l = some (.lst [v])) (hn : n ≤ 1000) (h : ∀ p, H p = none → Q (.ref p) (upd H p (.lst (List.replicate n v)))) : rRep (.ref l) (.int n) H Q := by
  refine ⟨_, _, _, rfl, rfl, h1, by omega, by omega, small_sz (by simp; exact hn), fun p hp => ?_⟩
  rw [Int.toNat_natCast, flat_rep]; exact h p hp
theorem r_popAt {l : Addr} {xs : List V} {a : Int} {j : Nat} {y : V} (h1 : H l = some (.lst xs)) (b1 : -(2 ^ 63) ≤ a) (b2 : a < 2 ^ 63) (h2 : seqIndex? a xs.length = some j) (h3 : xs[j]? = some y) (h : Q y (upd H l (.lst (xs.eraseIdx j)))) : rPopAt (.ref l) [.int a] H Q :=
  ⟨_, _, _, _, _, rfl, rfl, h1, b1, b2, h2, h3, h⟩
theorem tyl {l : Addr} {xs : List V} (h1 : H l = some (.lst xs)) : tyV K "list" (.ref l) H := .inl ⟨rfl, _, SqL.of h1⟩
theorem map_eraseIdx {α β : Type} (f : α → β) : ∀ (l : List α) (j : Nat), (l.map f).eraseIdx j = (l.eraseIdx j).map f
  | [], j => by cases j <;> rfl
  | a :: r, 0 => rfl
  | a :: r, j + 1 => by
    show f a :: (r.map f).eraseIdx j = f a :: (r.eraseIdx j).map f
    rw [map_eraseIdx f r j]
theorem r_sum {l : Addr} {ns : List Int} (h1 : SqL K H l (ns.map V.int)) (h : Q (.int ns.sum) H) : rSum K [.ref l] H Q := ⟨_, _, rfl, h1, h⟩
theorem seqIx_nat {j n : Nat} (h : j < n) : seqIndex? (j : Int) n = some j := by
  unfold seqIndex?
  have e : (if (j : Int) < 0 then (j : Int) + n else j) = j := if_neg (by omega)
  have e2 : (decide (0 ≤ (j : Int)) && decide ((j : Int) < n)) = true := by simp; omega
  simp only [e, e2, if_true, Int.toNat_natCast]
theorem seqIx_last {n : Nat} (h : 0 < n) : seqIndex? (-1) n = some (n - 1) := by
  unfold seqIndex?
  have e : (if (-1 : Int) < 0 then (-1 : Int) + n else -1) = ((n - 1 : Nat) : Int) := by rw [if_pos (by decide)]; omega
  have e2 : (decide (0 ≤ ((n - 1 : Nat) : Int)) && decide (((n - 1 : Nat) : Int) < n)) = true := by simp; omega
  simp only [e, e2, if_true, Int.toNat_natCast]
theorem if_d {p A B : Prop} [Decidable p] (h1 : p → A) (h2 : ¬ p → B) : if decide p = true then A else B := by
  by_cases h : p
  · rw [decide_eq_true h, if_pos rfl]; exact h1 h
  · rw [decide_eq_false h, if_neg Bool.false_ne_true]; exact h2 h
theorem if_nd {p A B : Prop} [Decidable p] (h1 : ¬ p → A) (h2 : p → B) : if (!decide p) = true then A else B := by
  by_cases h : p
  · rw [decide_eq_true h]; exact iteF (h2 h)
  · rw [decide_eq_false h]; exact iteT (h1 h)
theorem if_b {b : Bool} {A B : Prop} (h1 : b = true → A) (h2 : b = false → B) : if b = true then A else B := by
  cases b with
  | true => exact iteT (h1 rfl)
  | false => exact iteF (h2 rfl)
theorem if_T {b : Bool} {A B : Prop} (h : b = true) (h1 : A) : if b = true then A else B := by rw [if_pos h]; exact h1
theorem if_F {b : Bool} {A B : Prop} (h : b = false) (h1 : B) : if b = true then A else B := by rw [h]; exact iteF h1
end
theorem CMul.l {i j : Int} (h1 : -(2 ^ 64) < i) (h2 : i < 2 ^ 64) : CMul i j := .inl ⟨h1, h2⟩
theorem CMul.r {i j : Int} (h1 : -(2 ^ 64) < j) (h2 : j < 2 ^ 64) : CMul i j := .inr ⟨h1, h2⟩
/-- all but s is kept -/
def Kp (s : Addr) (H H' : Hp) : Prop := ∀ b o, b ≠ s → H b = some o → H' b = some o
theorem Kp.refl {s : Addr} (H : Hp) : Kp s H H := fun _ _ _ h => h
theorem Kp.trans {s : Addr} {H H1 H2 : Hp} (a : Kp s H H1) (b : Kp s H1 H2) : Kp s H H2 := fun c o n h => b c o n (a c o n h)
theorem Kp.upd {s p : Addr} {H H1 : Hp} {o : HO} (a : Kp s H H1) (h : H1 p = none) : Kp s H (L2.upd H1 p o) := fun c u n e => by rw [upd_ne (ne_of_none (a c u n e) h)]; exact a c u n e
theorem Kp.own {s p : Addr} {H H1 : Hp} {o : HO} (a : Kp s H H1) (h : H p = none) : Kp s H (L2.upd H1 p o) := fun c u n e => by rw [upd_ne (ne_of_none e h)]; exact a c u n e
theorem Kp.at {s : Addr} {H H1 : Hp} {o : HO} (a : Kp s H H1) : Kp s H (L2.upd H1 s o) := fun c u n e => by rw [upd_ne n]; exact a c u n e
theorem Kp.seq {s a : Addr} {H H' : Hp} {xs : List V} (e : Kp s H H') (n : a ≠ s) (h : SqL K H a xs) : SqL K H' a xs := by
  rcases h with (h | ⟨o, h⟩) | h
  · exact .inl (.inl (e _ _ n h))
  · exact .inl (.inr ⟨o, e _ _ n h⟩)
  · exact .inr h
theorem Kp.set {s a : Addr} {H H' : Hp} {xs : List V} (e : Kp s H H') (n : a ≠ s) (h : SqT K H a xs) : SqT K H' a xs := by
  rcases h with (h | ⟨o, h⟩) | h
  · exact .inl (.inl (e _ _ n h))
  · exact .inl (.inr ⟨o, e _ _ n h⟩)
  · exact .inr h
theorem _root_.L2.Same.kp {s : Addr} {H H' : Hp} (e : Same H H') : Kp s H H' := fun _ _ _ h => e _ _ h
/-- a global whose value is a tuple of the module -/
def tGT (K : PySem.W.Frag) (xs : List V) : TE := fun _ H Q => ∀ a, SqT K H a xs → Q (.ref a) H
theorem pe_gt {X : Cx} {x : Str} {xs : List V} {pos : Pos} (hg : Gl X x) (h : ∃ a, X.mg x = some (.ref a) ∧ ∀ H, SqT X.K H a xs) (hd : (x == ("__debug__" : Str)) = false := by decide) : PE X (.Name x pos) (tGT X.K xs) := by
  obtain ⟨a, e, ht⟩ := h
  exact ⟨fun pins s σ H Q I q => (pe_glob (v := .ref a) hg e rfl hd).run pins s σ H Q I (q a (ht H))⟩
/-- a global whose value is an int -/
theorem pe_gk {X : Cx} {x : Str} {i : Int} {pos : Pos} (hg : Gl X x) (h : ∃ t, X.mg x = some (.int i t)) (hd : (x == ("__debug__" : Str)) = false := by decide) : PE X (.Name x pos) (tC (.int i)) := by
  obtain ⟨t, e⟩ := h
  exact pe_glob hg e ⟨t, rfl⟩ hd
/-- a built-in class as a value -/
theorem pe_ty {X : Cx} {x : Str} {n : String} {pos : Pos} (hg : Gl X x) (hm : X.mg x = none) (hv : bootBuiltins x = some (.type n)) (hn : x ≠ "__name__" := by decide) (hd : (x == ("__debug__" : Str)) = false := by decide) : PE X (.Name x pos) (tC (.ty n)) := pe_bltn hg hm hv rfl hn hd
/-- a value whose kind is known -/
inductive Kn (K : PySem.W.Frag) (H : Hp) : V → String → Prop
  | non : Kn K H .non "NoneType"
  | bl (b : Bool) : Kn K H (.bl b) "bool"
  | int (i : Int) : Kn K H (.int i) "int"
  | str (x : Str) : Kn K H (.str x) "str"
  | lst {a : Addr} {xs : List V} (e : H a = some (.lst xs)) : Kn K H (.ref a) "list"
  | tup {a : Addr} {xs : List V} (e : H a = some (.tup xs)) : Kn K H (.ref a) "tuple"
  | dK {a : Addr} {kvs : List (Key × V)} (e : H a = some (.dK kvs)) : Kn K H (.ref a) "dict"
theorem Kn.ty {K : PySem.W.Frag} {H : Hp} {v : V} {n : String} (k : Kn K H v n) : TyX K H v (.type n) := by
  cases k with
  | non => exact .base .non
  | bl b => exact .base (.bl b)
  | int i => exact .base (.int i)
  | str x => exact .base (.str x)
  | lst e => exact .base (.lst e)
  | tup e => exact .base (.tup e)
  | dK e => exact .base (.dK e)
theorem Kn.ext {K : PySem.W.Frag} {H H' : Hp} {v : V} {n : String} (k : Kn K H v n) (e : ∀ a o, H a = some o → H' a = some o) : Kn K H' v n := by
  cases k with
  | non => exact .non
  | bl b => exact .bl b
  | int i => exact .int i
  | str x => exact .str x
  | lst h => exact .lst (e _ _ h)
  | tup h => exact .tup (e _ _ h)
  | dK h => exact .dK (e _ _ h)
theorem r_isi {K : PySem.W.Frag} {H : Hp} {Q : VK} {v : V} {n m : String} {b : Bool} (k : Kn K H v n) (e : kitB n m = some b) (h : Q (.bl b) H) : rIsi K [v, .ty m] H Q := ⟨_, _, _, _, _, rfl, .ty m, k.ty, kit_ty e, h⟩
theorem r_inT {K : PySem.W.Frag} {H : Hp} {Q : VK} {v : V} {p : Addr} {xs : List V} (hs : SqT K H p xs) (h1 : flatV v = true) (h2 : xs.all flatV = true) (h : Q (.bl (inV v xs)) H) : rIn K false v (.ref p) H Q := ⟨p, xs, rfl, .inr hs, h1, h2, h⟩
theorem r_inL {K : PySem.W.Frag} {H : Hp} {Q : VK} {v : V} {p : Addr} {xs : List V} (hs : SqL K H p xs) (h1 : flatV v = true) (h2 : xs.all flatV = true) (h : Q (.bl (inV v xs)) H) : rIn K false v (.ref p) H Q := ⟨p, xs, rfl, .inl hs, h1, h2, h⟩
theorem r_ninL {K : PySem.W.Frag} {H : Hp} {Q : VK} {v : V} {p : Addr} {xs : List V} (hs : SqL K H p xs) (h1 : flatV v = true) (h2 : xs.all flatV = true) (h : Q (.bl (!inV v xs)) H) : rIn K true v (.ref p) H Q := ⟨p, xs, rfl, .inl hs, h1, h2, h⟩
theorem dpall_ints {K : PySem.W.Frag} {H : Hp} : ∀ ns : List Int, DpAll K H (ns.map V.int) (ns.map PyData.int)
  | [] => .nil
  | i :: r => .cons (.int i) (dpall_ints r)
theorem eqvAll_ints : ∀ ns ms : List Int, PyData.eqvAll (ns.map PyData.int) (ms.map PyData.int) = decide (ns = ms)
  | [], [] => rfl
  | [], _ :: _ => rfl
  | _ :: _, [] => rfl
  | a :: r, b :: t => by
    show (PyData.eqv (.int a) (.int b) && PyData.eqvAll (r.map PyData.int) (t.map PyData.int)) = _
    rw [eqvAll_ints r t]
    show ((a == b) && decide (r = t)) = _
    by_cases h : a = b <;> simp [h]
theorem eqv_ints (ns ms : List Int) : PyData.eqv (.list (ns.map PyData.int)) (.list (ms.map PyData.int)) = decide (ns = ms) := by
  rw [← eqvAll_ints]
  simp only [PyData.eqv]
theorem canLay_ints : ∀ ns : List Int, PyData.canLayAll0 (ns.map PyData.int) = true
  | [] => rfl
  | a :: r => by
    have ih := canLay_ints r
    simp [PyData.canLayAll0, PyData.canLay0, ih]
theorem depth_ints : ∀ ns : List Int, PyData.depthAll (ns.map PyData.int) = 0
  | [] => rfl
  | a :: r => by
    have ih := depth_ints r
    simp [PyData.depthAll, PyData.depth, ih]
theorem shaped_ints (ns : List Int) : SeqAt.shaped (.list (ns.map PyData.int)) = true := by
  have h1 := canLay_ints ns
  have h2 := depth_ints ns
  simp [SeqAt.shaped, PyData.canLay0, PyData.depth, h1, h2]
theorem r_neI {K : PySem.W.Frag} {H : Hp} {Q : VK} {p q : Addr} {ns ms : List Int} (h1 : SqL K H p (ns.map V.int)) (h2 : SqL K H q (ms.map V.int)) (h : Q (.bl (!decide (ns = ms))) H) : rNeD K (.ref p) (.ref q) H Q :=
  ⟨_, _, .lst h1 (dpall_ints ns), .lst h2 (dpall_ints ms), shaped_ints _, shaped_ints _, by rw [eqv_ints]; exact h⟩
theorem r_eqI {K : PySem.W.Frag} {H : Hp} {Q : VK} {p q : Addr} {ns ms : List Int} (h1 : SqL K H p (ns.map V.int)) (h2 : SqL K H q (ms.map V.int)) (h : Q (.bl (decide (ns = ms))) H) : rEqD K (.ref p) (.ref q) H Q :=
  ⟨_, _, .lst h1 (dpall_ints ns), .lst h2 (dpall_ints ms), shaped_ints _, shaped_ints _, by rw [eqv_ints]; exact h⟩
theorem flat_ints (ns : List Int) : (ns.map V.int).all flatV = true := by simp [flatV]
theorem inV_ints (i : Int) (ns : List Int) : inV (.int i) (ns.map V.int) = decide (i ∈ ns) := by
  induction ns with
  | nil => rfl
  | cons a r ih =>
    show (eqV (.int a) (.int i) || inV (.int i) (r.map V.int)) = _
    rw [ih]
    show ((a == i) || decide (i ∈ r)) = _
    by_cases h : a = i
    · subst h; simp
    · have h' : ¬ i = a := fun e => h e.symm
      simp [h, h']
theorem _root_.L2.Same.upd {p : Addr} {H H1 : Hp} {o : HO} (a : Same H H1) (h : H1 p = none) : Same H (L2.upd H1 p o) := fun c u e => by rw [upd_ne (ne_of_none (a c u e) h)]; exact a c u e
def rIsN : R2 := fun x y H Q => y = .non ∧ Q (.bl (decide (x = .non))) H
def rNotN : R2 := fun x y H Q => y = .non ∧ Q (.bl (!decide (x = .non))) H
theorem o_isN {X : Cx} : OpR X (compareOp .Is) rIsN := op_isN
theorem o_notN {X : Cx} : OpR X (compareOp .IsNot) rNotN := op_notN
theorem r_isNi {H : Hp} {Q : VK} {i : Int} (h : Q (.bl false) H) : rIsN (.int i) .non H Q := ⟨rfl, h⟩
theorem r_isNn {H : Hp} {Q : VK} (h : Q (.bl true) H) : rIsN .non .non H Q := ⟨rfl, h⟩
theorem r_isNr {H : Hp} {Q : VK} {a : Addr} (h : Q (.bl false) H) : rIsN (.ref a) .non H Q := ⟨rfl, h⟩
theorem r_notNi {H : Hp} {Q : VK} {i : Int} (h : Q (.bl true) H) : rNotN (.int i) .non H Q := ⟨rfl, h⟩
theorem r_notNn {H : Hp} {Q : VK} (h : Q (.bl false) H) : rNotN .non .non H Q := ⟨rfl, h⟩
theorem r_notNr {H : Hp} {Q : VK} {a : Addr} (h : Q (.bl true) H) : rNotN (.ref a) .non H Q := ⟨rfl, h⟩
theorem r_cat {H : Hp} {Q : VK} {l b : Addr} {xs zs : List V} (h1 : H l = some (.lst xs)) (h2 : H b = some (.lst zs)) (hn : xs.length + zs.length ≤ 1000) (h : ∀ p, H p = none → Q (.ref p) (upd H p (.lst (xs ++ zs)))) : rCat (.ref l) (.ref b) H Q :=
  ⟨_, _, _, _, rfl, rfl, h1, h2, Nat.le_trans hn (by decide), h⟩
theorem cut_ints (ns : List Int) (lo hi : Option Int) : ∃ ms : List Int, cutV (ns.map V.int) lo hi = ms.map V.int ∧ ms.length ≤ ns.length := by
  unfold cutV
  refine ⟨(ns.drop _).take _, by rw [List.map_take, List.map_drop], ?_⟩
  rw [List.length_take, List.length_drop]
  omega
theorem _root_.L2.Same.off {p : Addr} {H H1 H2 : Hp} (e : Same H H1) (h : H p = none) (k : Kp p H1 H2) : Same H H2 := fun b o q => k b o (ne_of_none q h) (e b o q)
theorem _root_.L2.Same.own {p : Addr} {H H1 : Hp} {o : HO} (e : Same H H1) (h : H p = none) : Same H (L2.upd H1 p o) := fun b u q => by rw [upd_ne (ne_of_none q h)]; exact e b u q
/-! ### loops -/
/-- a for loop over what J tells -/
def Loop (J : It) (g : TG) (tb : TS) (D : Ends) (σ : St) (H : Hp) : Prop := tFor (fun _ H R => R J H) g tb D σ H
/-- a comprehension over what J tells -/
def LcLoop (J : It) (g : TG) (tt : TT) (te : TE) (vs : List Nat) (σ : St) (H : Hp) (Q : VK) : Prop := tLc (fun _ H R => R J H) g tt te vs σ H Q
section
variable {K : PySem.W.Frag} {D : Ends} {σ : St} {H : Hp} {Q : VK} {g : TG} {tb : TS} {tt : TT} {te : TE} {wi : TI} {vs : List Nat} {tA : TA}
theorem r_for (h : wi σ H fun J H1 => Loop J g tb D σ H1) : tFor wi g tb D σ H := h
theorem r_lc (h : wi σ H fun J H1 => LcLoop J g tt te vs σ H1 Q) : tLc wi g tt te vs σ H Q := h
theorem r_iR1 {R : It → Hp → Prop} (h : tA σ H fun xs H1 => ∃ j : Int, xs = [.int j] ∧ -(2 ^ 62) ≤ j ∧ j < 2 ^ 62 ∧ R (Itr 0 j.toNat) H1) : iRng1 tA σ H R := h
theorem r_iR2 {R : It → Hp → Prop} (h : tA σ H fun xs H1 => ∃ i j : Int, xs = [.int i, .int j] ∧ (-(2 ^ 62) ≤ i ∧ i < 2 ^ 62 ∧ -(2 ^ 62) ≤ j ∧ j < 2 ^ 62) ∧ R (Itr i (j - i).toNat) H1) : iRng2 tA σ H R := h
theorem r_iL {R : It → Hp → Prop} (h : te σ H fun x H1 => ∃ a, x = .ref a ∧ (∃ xs, SqL K H1 a xs) ∧ R (Itl K a) H1) : iList K te σ H R := h
theorem r_iT {R : It → Hp → Prop} (h : te σ H fun x H1 => ∃ a, x = .ref a ∧ (∃ xs, SqT K H1 a xs) ∧ R (Itt K a) H1) : iTup K te σ H R := h
theorem rng1L {a : Int} (n : Nat) (e : a = n) (hb : n < 2 ^ 62) (h : Loop (Itr 0 n) g tb D σ H) : ∃ j : Int, [V.int a] = [.int j] ∧ -(2 ^ 62) ≤ j ∧ j < 2 ^ 62 ∧ Loop (Itr 0 j.toNat) g tb D σ H := by
  subst e
  exact ⟨_, rfl, by omega, by omega, by rw [Int.toNat_natCast]; exact h⟩
theorem rng2L {a b : Int} (n : Nat) (e : b = a + n) (h1 : -(2 ^ 62) ≤ a) (h2 : a + n < 2 ^ 62) (h : Loop (Itr a n) g tb D σ H) : ∃ i j : Int, [V.int a, V.int b] = [.int i, .int j] ∧ (-(2 ^ 62) ≤ i ∧ i < 2 ^ 62 ∧ -(2 ^ 62) ≤ j ∧ j < 2 ^ 62) ∧ Loop (Itr i (j - i).toNat) g tb D σ H := by
  subst e
  refine ⟨_, _, rfl, by omega, ?_⟩
  rw [show (a + (n : Int) - a).toNat = n by omega]; exact h
theorem overLL {a : Addr} {xs : List V} (hs : SqL K H a xs) (h : Loop (Itl K a) g tb D σ H) : ∃ b, V.ref a = .ref b ∧ (∃ ys, SqL K H b ys) ∧ Loop (Itl K b) g tb D σ H := ⟨a, rfl, ⟨xs, hs⟩, h⟩
theorem overTL {a : Addr} {xs : List V} (hs : SqT K H a xs) (h : Loop (Itt K a) g tb D σ H) : ∃ b, V.ref a = .ref b ∧ (∃ ys, SqT K H b ys) ∧ Loop (Itt K b) g tb D σ H := ⟨a, rfl, ⟨xs, hs⟩, h⟩
theorem rng1C {a : Int} (n : Nat) (e : a = n) (hb : n < 2 ^ 62) (h : LcLoop (Itr 0 n) g tt te vs σ H Q) : ∃ j : Int, [V.int a] = [.int j] ∧ -(2 ^ 62) ≤ j ∧ j < 2 ^ 62 ∧ LcLoop (Itr 0 j.toNat) g tt te vs σ H Q := by
  subst e
  exact ⟨_, rfl, by omega, by omega, by rw [Int.toNat_natCast]; exact h⟩
theorem rng2C {a b : Int} (n : Nat) (e : b = a + n) (h1 : -(2 ^ 62) ≤ a) (h2 : a + n < 2 ^ 62) (h : LcLoop (Itr a n) g tt te vs σ H Q) : ∃ i j : Int, [V.int a, V.int b] = [.int i, .int j] ∧ (-(2 ^ 62) ≤ i ∧ i < 2 ^ 62 ∧ -(2 ^ 62) ≤ j ∧ j < 2 ^ 62) ∧ LcLoop (Itr i (j - i).toNat) g tt te vs σ H Q := by
  subst e
  refine ⟨_, _, rfl, by omega, ?_⟩
  rw [show (a + (n : Int) - a).toNat = n by omega]; exact h
theorem overLC {a : Addr} {xs : List V} (hs : SqL K H a xs) (h : LcLoop (Itl K a) g tt te vs σ H Q) : ∃ b, V.ref a = .ref b ∧ (∃ ys, SqL K H b ys) ∧ LcLoop (Itl K b) g tt te vs σ H Q := ⟨a, rfl, ⟨xs, hs⟩, h⟩
theorem overTC {a : Addr} {xs : List V} (hs : SqT K H a xs) (h : LcLoop (Itt K a) g tt te vs σ H Q) : ∃ b, V.ref a = .ref b ∧ (∃ ys, SqT K H b ys) ∧ LcLoop (Itt K b) g tt te vs σ H Q := ⟨a, rfl, ⟨xs, hs⟩, h⟩
theorem loop_range {n : Nat} (Pv : Nat → St → Hp → Prop) (h0 : Pv 0 σ H) (hs : ∀ (i : Nat) σ H, i < n → Pv i σ H → g (.int i) σ H fun σ2 H2 => tb { D with nx := Pv (i + 1), ct := Pv (i + 1), bk := D.nx } σ2 H2)
    (hd : ∀ σ H, Pv n σ H → D.nx σ H) : Loop (Itr 0 n) g tb D σ H :=
  for_range (lo := 0) Pv h0 (fun i σ H hi p => by rw [Int.zero_add]; exact hs i σ H hi p) hd
theorem loop_list {a : Addr} {xs : List V} (Pv : Nat → St → Hp → Prop) (h0 : Pv 0 σ H) (hl : ∀ i σ H, i ≤ xs.length → Pv i σ H → SqL K H a xs)
    (hs : ∀ (i : Nat) x σ H, xs[i]? = some x → Pv i σ H → g x σ H fun σ2 H2 => tb { D with nx := Pv (i + 1), ct := Pv (i + 1), bk := D.nx } σ2 H2) (hd : ∀ σ H, Pv xs.length σ H → D.nx σ H) : Loop (Itl K a) g tb D σ H :=
  for_list Pv h0 hl hs hd
theorem loop_tup {a : Addr} {xs : List V} (Pv : Nat → St → Hp → Prop) (h0 : Pv 0 σ H) (hl : ∀ i σ H, i ≤ xs.length → Pv i σ H → SqT K H a xs)
    (hs : ∀ (i : Nat) x σ H, xs[i]? = some x → Pv i σ H → g x σ H fun σ2 H2 => tb { D with nx := Pv (i + 1), ct := Pv (i + 1), bk := D.nx } σ2 H2) (hd : ∀ σ H, Pv xs.length σ H → D.nx σ H) : Loop (Itt K a) g tb D σ H :=
  for_tup Pv h0 hl hs hd
theorem filt_more {α : Type} (f : Nat → Bool) (v : Nat → α) (i : Nat) : ((List.range (i + 1)).filter f).map v = if f i then ((List.range i).filter f).map v ++ [v i] else ((List.range i).filter f).map v := by
  rw [List.range_succ, List.filter_append, List.map_append]
  by_cases h : f i = true <;> simp [h]
/-- a comprehension over range(n) whose test and item change nothing -/
theorem lc_pureR {n : Nat} (f : Nat → Bool) (v : Nat → V) (hn : n ≤ 1000000)
    (hs : ∀ D acc (i : Nat) (N : Hp → Prop), H D = none → i < n → acc.length < sizeLine → (f i = true → N (upd H D (.lst (acc ++ [v i])))) → (f i = false → N (upd H D (.lst acc))) →
      g (.int i) (wipe σ vs) (upd H D (.lst acc)) fun σ2 H2 => wipe σ2 vs = wipe σ vs ∧ tt σ2 H2 fun b H3 => if b = true then te σ2 H3 fun y H4 => ∃ a, H4 D = some (.lst a) ∧ a.length < sizeLine ∧ N (upd H4 D (.lst (a ++ [y]))) else N H3)
    (hd : ∀ D, H D = none → Q (.ref D) (upd H D (.lst (((List.range n).filter f).map v)))) : LcLoop (Itr 0 n) g tt te vs σ H Q := by
  intro D hD
  refine lc_range (lo := 0) (n := n) (fun i H' => H' = upd H D (.lst (((List.range i).filter f).map v))) rfl (fun i H' hi e => ?_) (fun H' e => ?_)
  · subst e
    rw [Int.zero_add]
    refine hs D _ i _ hD hi ?_ (fun h => ?_) (fun h => ?_)
    · have := List.length_filter_le f (List.range i)
      rw [List.length_map]
      rw [List.length_range] at this
      exact Nat.lt_of_le_of_lt (Nat.le_trans this (Nat.le_trans (Nat.le_of_lt hi) hn)) (by decide)
    · rw [filt_more, if_pos h]
    · rw [filt_more, if_neg (by rw [h]; exact Bool.false_ne_true)]
  · subst e
    exact hd D hD
theorem filtL_more {xs : List V} {i : Nat} {x : V} (f : V → Bool) (v : V → V) (h : xs[i]? = some x) : ((xs.take (i + 1)).filter f).map v = if f x then ((xs.take i).filter f).map v ++ [v x] else ((xs.take i).filter f).map v := by
  rw [List.take_succ, h, List.filter_append, List.map_append]
  by_cases c : f x = true <;> simp [c]
/-- the same over a list -/
theorem lc_pureL {a : Addr} {xs : List V} (f : V → Bool) (v : V → V) (hx : SqL K H a xs) (hn : xs.length ≤ 1000000)
    (hs : ∀ D acc (i : Nat) x (N : Hp → Prop), H D = none → xs[i]? = some x → acc.length < sizeLine → (f x = true → N (upd H D (.lst (acc ++ [v x])))) → (f x = false → N (upd H D (.lst acc))) →
      g x (wipe σ vs) (upd H D (.lst acc)) fun σ2 H2 => wipe σ2 vs = wipe σ vs ∧ tt σ2 H2 fun b H3 => if b = true then te σ2 H3 fun y H4 => ∃ a, H4 D = some (.lst a) ∧ a.length < sizeLine ∧ N (upd H4 D (.lst (a ++ [y]))) else N H3)
    (hd : ∀ D, H D = none → Q (.ref D) (upd H D (.lst ((xs.filter f).map v)))) : LcLoop (Itl K a) g tt te vs σ H Q := by
  intro D hD
  refine lc_list (K := K) (a := a) (xs := xs) (fun i H' => H' = upd H D (.lst (((xs.take i).filter f).map v))) rfl (fun i H' _ e => ?_) (fun i x H' hi e => ?_) (fun H' e => ?_)
  · subst e
    exact Same.seq (Same.upd (Same.refl H) hD) hx
  · subst e
    refine hs D _ i x _ hD hi ?_ (fun h => ?_) (fun h => ?_)
    · have h1 := List.length_filter_le f (xs.take i)
      rw [List.length_map]
      rw [List.length_take] at h1
      exact Nat.lt_of_le_of_lt (Nat.le_trans h1 (Nat.le_trans (Nat.min_le_right _ _) hn)) (by decide)
    · rw [filtL_more f v hi, if_pos h]
    · rw [filtL_more f v hi, if_neg (by rw [h]; exact Bool.false_ne_true)]
  · subst e
    rw [List.take_length]
    exact hd D hD
theorem r_wipe {σ' : St} {F : Prop} (e : wipe σ' vs = wipe σ vs) (h : F) : wipe σ' vs = wipe σ vs ∧ F := ⟨e, h⟩
theorem r_kept {D : Addr} {acc : List V} {y : V} {N : Hp → Prop} (hl : acc.length < sizeLine) (h : N (upd H D (.lst (acc ++ [y])))) : ∃ a, upd H D (.lst acc) D = some (.lst a) ∧ a.length < sizeLine ∧ N (upd (upd H D (.lst acc)) D (.lst (a ++ [y]))) := ⟨acc, upd_same, hl, by rw [upd_upd]; exact h⟩
end
/-! rules over the written part, by its name (within a comprehension's block too) -/
section
variable {X : Cx} {K : PySem.W.Frag}
theorem ixL (h : X.K = K := by rfl) : IxR X (rIxL K) := h ▸ ix_list
theorem ixT (h : X.K = K := by rfl) : IxR X (rIxT K) := h ▸ ix_tup
theorem inK (h : X.K = K := by rfl) : OpR X (compareOp .In) (rIn K false) := h ▸ op_in_seq
theorem ninK (h : X.K = K := by rfl) : OpR X (compareOp .NotIn) (rIn K true) := h ▸ op_notIn_seq
theorem eqK (hu : X.A.units + 64 < cLine) (h : X.K = K := by rfl) : OpR X (compareOp .Eq) (rEqD K) := h ▸ op_eqD hu
theorem neK (hu : X.A.units + 64 < cLine) (h : X.K = K := by rfl) : OpR X (compareOp .NotEq) (rNeD K) := h ▸ op_neD hu
theorem slK (h : X.K = K := by rfl) : SlR X (rSlL K) := h ▸ sl_list
theorem isiK (h : X.K = K := by rfl) : CallR X (.builtin "isinstance") (rIsi K) := h ▸ call_isi
theorem sumK (hc : X.calm = true) (h : X.K = K := by rfl) : CallR X (.builtin "sum") (rSum K) := h ▸ cr_sum hc
theorem allK (hc : X.calm = true) (h : X.K = K := by rfl) : CallR X (.builtin "all") (rAll K) := h ▸ cr_all hc
end
/-! built-in calls by named readings -/
def rIntC : List V → Hp → VK → Prop := fun xs H Q => (∃ i, xs = [.int i] ∧ Q (.int i) H) ∨ ∃ k, xs = [.bl k] ∧ Q (.int (if k then 1 else 0)) H
theorem c_int {X : Cx} : CallR X (.type "int") rIntC := call_int1
def rLenC (K : PySem.W.Frag) : List V → Hp → VK → Prop := fun xs H Q => ∃ x n, xs = [x] ∧ LenV K x H n ∧ Q (.int n) H
theorem c_len {X : Cx} {K : PySem.W.Frag} (h : X.K = K := by rfl) : CallR X (.builtin "len") (rLenC K) := h ▸ call_len
def rListC (K : PySem.W.Frag) : List V → Hp → VK → Prop := fun xs H Q => ∃ p ys, xs = [.ref p] ∧ (SqL K H p ys ∨ SqT K H p ys) ∧ ∀ l, H l = none → Q (.ref l) (upd H l (.lst ys))
theorem c_list {X : Cx} {K : PySem.W.Frag} (h : X.K = K := by rfl) : CallR X (.type "list") (rListC K) := h ▸ call_list_of
def rTupC (K : PySem.W.Frag) : List V → Hp → VK → Prop := fun xs H Q => ∃ p ys, xs = [.ref p] ∧ ((SqL K H p ys ∧ ∀ l, H l = none → Q (.ref l) (upd H l (.tup ys))) ∨ (SqT K H p ys ∧ Q (.ref p) H))
theorem c_tuple {X : Cx} {K : PySem.W.Frag} (h : X.K = K := by rfl) : CallR X (.type "tuple") (rTupC K) := h ▸ call_tuple_of
def rMax2 : List V → Hp → VK → Prop := fun xs H Q => ∃ i j, xs = [.int i, .int j] ∧ Q (.int (if j > i then j else i)) H
theorem c_max2 {X : Cx} (hc : X.calm = true) : CallR X (.builtin "max") rMax2 := call_max2 hc
def rMin2 : List V → Hp → VK → Prop := fun xs H Q => ∃ i j, xs = [.int i, .int j] ∧ Q (.int (if j < i then j else i)) H
theorem c_min2 {X : Cx} (hc : X.calm = true) : CallR X (.builtin "min") rMin2 := call_min2 hc
section
variable {K : PySem.W.Frag} {H : Hp} {Q : VK} {v : V} {p l : Addr} {xs : List V}
theorem r_int {a : Int} (h : Q (.int a) H) : rIntC [V.int a] H Q := .inl ⟨a, rfl, h⟩
theorem r_intb {b : Bool} (h : Q (.int (if b then 1 else 0)) H) : rIntC [V.bl b] H Q := .inr ⟨b, rfl, h⟩
theorem r_lenl (hs : SqL K H p xs) (h : Q (.int xs.length) H) : rLenC K [.ref p] H Q := ⟨_, _, rfl, .inl ⟨_, hs, rfl⟩, h⟩
theorem r_lent (hs : SqT K H p xs) (h : Q (.int xs.length) H) : rLenC K [.ref p] H Q := ⟨_, _, rfl, .inr ⟨_, hs, rfl⟩, h⟩
theorem r_listl (hs : SqL K H p xs) (h : ∀ l, H l = none → Q (.ref l) (upd H l (.lst xs))) : rListC K [.ref p] H Q := ⟨_, _, rfl, .inl hs, h⟩
theorem r_listt (hs : SqT K H p xs) (h : ∀ l, H l = none → Q (.ref l) (upd H l (.lst xs))) : rListC K [.ref p] H Q := ⟨_, _, rfl, .inr hs, h⟩
theorem r_tupl (hs : SqL K H p xs) (h : ∀ l, H l = none → Q (.ref l) (upd H l (.tup xs))) : rTupC K [.ref p] H Q := ⟨_, _, rfl, .inl ⟨hs, h⟩⟩
theorem r_tupt (hs : SqT K H p xs) (h : Q (.ref p) H) : rTupC K [.ref p] H Q := ⟨_, _, rfl, .inr ⟨hs, h⟩⟩
theorem r_max2 {a b : Int} (h : Q (.int (max a b)) H) : rMax2 [.int a, .int b] H Q := ⟨_, _, rfl, by
  have e : (if b > a then b else a) = max a b := by split <;> omega
  rw [e]; exact h⟩
theorem r_min2 {a b : Int} (h : Q (.int (min a b)) H) : rMin2 [.int a, .int b] H Q := ⟨_, _, rfl, by
  have e : (if b < a then b else a) = min a b := by split <;> omega
  rw [e]; exact h⟩
theorem r_append (h1 : H l = some (.lst xs)) (h2 : xs.length < sizeLine) (h : Q .non (upd H l (.lst (xs ++ [v])))) : rAppend (.ref l) [v] H Q := ⟨_, _, _, rfl, rfl, h1, h2, h⟩
theorem r_tyl {F : Prop} (h1 : H l = some (.lst xs)) (h : F) : tyV K "list" (.ref l) H ∧ F := ⟨tyl h1, h⟩
end
local macro_rules | `(tactic| walk_at "ne") => `(tactic| first | assumption | (apply Ne.symm; assumption) | grind)
local macro_rules | `(tactic| walk_at "hp") => `(tactic| first | assumption | exact upd_same | ((refine (upd_ne ?_).trans ?_) <;> first | walk_at "ne" | walk_at "hp"))
local macro_rules | `(tactic| walk_at "si") => `(tactic| first | decide | assumption | omega | exact CMul.l (by omega) (by omega) | exact CMul.r (by omega) (by omega) | exact ⟨by omega, by omega⟩)
local macro_rules | `(tactic| walk_at "rd1") => `(tactic| first
  | (with_reducible refine r_seq ?_) | (with_reducible refine r_asg ?_) | (with_reducible refine r_gname ?_) | (with_reducible refine r_drop ?_) | (with_reducible refine r_ret ?_) | (with_reducible refine r_retN ?_) | (with_reducible refine r_next ?_)
  | (with_reducible refine r_ifS ?_) | (with_reducible refine r_c ?_) | (with_reducible refine r_op ?_) | (with_reducible refine r_un ?_) | (with_reducible refine r_rU ?_) | (with_reducible refine r_rI0 ?_)
  | (with_reducible refine r_test ?_) | (with_reducible refine r_B ?_) | (with_reducible refine r_k ?_) | (with_reducible refine r_eqi ?_) | (with_reducible refine r_nei ?_) | (with_reducible refine r_eqs ?_) | (with_reducible refine r_chain ?_)
  | (with_reducible refine r_and ?_) | (with_reducible refine r_or ?_) | (with_reducible refine r_not ?_) | (with_reducible refine r_andV ?_) | (with_reducible refine r_orV ?_) | (with_reducible refine r_notV ?_) | (with_reducible refine r_k2 ?_) | (with_reducible refine r_ifE ?_)
  | (with_reducible refine r_nil ?_) | (with_reducible refine r_cons ?_) | (with_reducible refine r_tup ?_) | (with_reducible refine r_lst ?_) | (with_reducible refine r_call ?_) | (with_reducible refine r_callN ?_) | (with_reducible refine r_CB ?_)
  | (with_reducible refine r_BM ?_) | (with_reducible refine r_BM0 ?_) | (with_reducible refine r_fldE ?_) | (with_reducible refine r_gsub ?_) | (with_reducible refine r_par ?_) | (with_reducible refine r_par2 ?_) | (with_reducible refine r_int ?_) | (with_reducible refine r_intb ?_) | (with_reducible refine r_isNi ?_) | (with_reducible refine r_isNn ?_) | (with_reducible refine r_isNr ?_) | (with_reducible refine r_notNi ?_) | (with_reducible refine r_notNn ?_) | (with_reducible refine r_notNr ?_) | (with_reducible refine r_max2 ?_) | (with_reducible refine r_min2 ?_)
  | (with_reducible refine r_wipe (by with_unfolding_all rfl) ?_)
  | (with_reducible refine r_for ?_) | (with_reducible refine r_lc ?_) | (with_reducible refine r_iR1 ?_) | (with_reducible refine r_iR2 ?_) | (with_reducible refine r_iL ?_) | (with_reducible refine r_iT ?_)
  | (with_reducible refine r_sl ?_) | (with_reducible refine r_part ?_) | (with_reducible refine r_noPart ?_) | (with_reducible refine r_exi ?_)
  | (with_reducible refine r_gcons ?_) | (with_reducible refine r_gnil ?_)
  | ((with_reducible refine r_new ?_ ?_); (focus first | exact Nat.le_of_ble_eq_true rfl | (simp; omega)))
  | ((with_reducible show gTup _ _ _ _ _ _ _); refine r_gtup (SqT.of (by walk_at "hp")) (by rfl) ?_)
  | (with_reducible refine iteT ?_) | (with_reducible refine iteF ?_)
  | ((with_reducible show tVar _ _ _ _); refine r_var rfl ?_)
  | (with_reducible refine if_F (b := !true) rfl ?_) | (with_reducible refine if_T (b := !false) rfl ?_)
  | ((with_reducible show rIsi _ _ _ _); first | (refine r_isi (b := true) (by first | assumption | exact .non | exact .bl _ | exact .int _ | exact .str _ | exact .lst (by walk_at "hp") | exact .tup (by walk_at "hp") | exact .dK (by walk_at "hp")) (by decide +kernel) ?_) | (refine r_isi (b := false) (by first | assumption | exact .non | exact .bl _ | exact .int _ | exact .str _ | exact .lst (by walk_at "hp") | exact .tup (by walk_at "hp") | exact .dK (by walk_at "hp")) (by decide +kernel) ?_))
  | ((with_reducible refine r_rI ?_ ?_); (focus walk_at "si"))
  | ((with_reducible show rIxL _ _ _ _ _); refine r_ixl (SqL.of (by walk_at "hp")) (by rfl) ?_)
  | ((with_reducible show tyV _ "list" _ _ ∧ _); refine r_tyl (by walk_at "hp") ?_)
  | ((with_reducible show rSetL _ _ _ _ _); refine r_setl (by walk_at "hp") (by rfl) ?_)
  | (with_reducible refine if_T (decide_eq_true ?_) ?_; (focus first | assumption | omega))
  | (with_reducible refine if_F (decide_eq_false ?_) ?_; (focus first | assumption | omega)))
local macro_rules | `(tactic| walk_at "rd") => `(tactic| repeat walk_at "rd1")
local macro_rules | `(tactic| walk_at "go") => `(tactic| (dsimp only [cxOf, L2.start, List.map, List.length, List.replicate, List.cons_append, List.nil_append, Nat.sub, Nat.reduceSub, Nat.reduceAdd]))

/-! ### the law's draws -/
/-- a source of choices stands at s -/
def Src (H : Hp) (s : Addr) : Prop := ∃ a b c : Int, H s = some (.lst [.int a, .int b, .int c])
theorem Src.kp {H H' : Hp} {s t : Addr} (h : Src H s) (k : Kp t H H') (n : s ≠ t) : Src H' s := by
  obtain ⟨a, b, c, h⟩ := h
  exact ⟨a, b, c, k _ _ n h⟩
theorem Src.upd {H : Hp} {s p : Addr} {o : HO} (h : Src H s) (n : H p = none) : Src (upd H p o) s := by
  obtain ⟨a, b, c, h⟩ := h
  exact ⟨a, b, c, by rw [upd_ne (ne_of_none h n)]; exact h⟩
/-- the source alone is changed -/
def Off (s : Addr) (H H' : Hp) : Prop := ∀ b, b ≠ s → H' b = H b
theorem Off.kp {s : Addr} {H H' : Hp} (h : Off s H H') : Kp s H H' := fun b o n e => (h b n).trans e
theorem Off.none {s b : Addr} {H H' : Hp} (h : Off s H H') (hs : Src H s) (n : H b = none) : H' b = none := by
  obtain ⟨_, _, _, hs⟩ := hs
  rw [h b (by rintro rfl; rw [n] at hs; cases hs)]; exact n
def spNext : Sp := fun vs H Q _ => ∃ (s : Addr) (m : Int), vs = [.ref s, .int m] ∧ Src H s ∧ 0 < m ∧ m < 1073741824 ∧ ∀ (r : Int) (H' : Hp), 0 ≤ r → r < m → Src H' s → Off s H H' → Q (.int r) H'

/-! ### the rules' module -/
def isInt : V → Bool
  | .int _ => true
  | _ => false
def inBnd (lo hi : Int) : V → Bool
  | .int i => decide (lo ≤ i) && decide (i ≤ hi)
  | _ => false
inductive Rl | last | first | lowest | least
  deriving DecidableEq
def Rl.s : Rl → Str
  | .last => "last"
  | .first => "first"
  | .lowest => "lowest"
  | .least => "least"
def isRl : V → Bool
  | .str x => inV (.str x) [.str "last", .str "first", .str "lowest", .str "least"]
  | _ => false
def spIsInt (K : PySem.W.Frag) : Sp := fun vs H Q _ => ∃ (v : V) (T : String), vs = [v] ∧ Kn K H v T ∧ Q (.bl (isInt v)) H
def spBetween (K : PySem.W.Frag) : Sp := fun vs H Q _ => ∃ (v : V) (T : String) (lo hi : Int), vs = [v, .int lo, .int hi] ∧ Kn K H v T ∧ Q (.bl (inBnd lo hi v)) H
def spIsRule (K : PySem.W.Frag) : Sp := fun vs H Q _ => ∃ (v : V) (T : String), vs = [v] ∧ Kn K H v T ∧ Q (.bl (isRl v)) H
/-- valid arguments -/
structure Args (n l g : Int) : Prop where
  n1 : 1 ≤ n
  n2 : n ≤ 64
  l1 : 1 ≤ l
  l2 : l ≤ n
  g1 : 1 ≤ g
  g2 : g ≤ 1000000000
def spCheck : Sp := fun vs H Q _ => ∃ (n l g : Int) (r : Rl), vs = [.int n, .int l, .int g, .str r.s] ∧ Args n l g ∧ Q .non H
def spFull : Sp := fun vs H Q _ => ∃ (n l g : Int), vs = [.int n, .int l, .int g] ∧ 1 ≤ g ∧ g ≤ 1000000000 ∧ Q (.int (g * (n - l + 1) + l)) H
def hor (n l g : Int) : Rl → Int
  | .last => g + 1
  | .lowest => g + 1
  | _ => g * (n - l + 1) + l
def spHorizon : Sp := fun vs H Q _ => ∃ (n l g : Int) (r : Rl), vs = [.int n, .int l, .int g, .str r.s] ∧ Args n l g ∧ ∀ H', Same H H' → Q (.int (hor n l g r)) H'
def spRetired : Sp := fun vs H Q _ => ∃ (n l g : Int), vs = [.int n, .int l, .int g] ∧ Args n l g ∧ Q (.int (g * (n - l + 1) + l - 1)) H

/-! ### sorted(xs, key=lambda x: (counts[x], x)) -/
section
variable {prog : Program} {w : World} {A : Around} {s : Shared}
/-- a lambda of one argument is called: what its body gives -/
theorem key_call {f c' : Addr} {pm ctv v : Value} {qual xn : Str} {params : Arguments} {body : Expr} {scope : Scope} {cl : List (Str × Addr)} {k : PyData}
    (ho : s.heap.get? f = some (PySem.W.kla_obj "<lambda>" qual params body scope cl pm c' ctv)) (hcd : s.heap.CodeRec (.ref c') qual) (hroom : A.depth < recursionLimit) (hlim : s.heap.NoLimit)
    (hbind : bindArgs (PySem.W.kla_fn "<lambda>" qual params body scope cl pm (.ref c') ctv) ⟨[v], []⟩ = pure [(xn, v)]) (hx : scope.names.lookup xn = some .local) (hcell : ∀ y ∈ scope.names, y.2 ≠ .cell)
    (hco : scope.isCoroutine = false) (hgen : scope.isGenerator = false) (hk : scope.kind = .function)
    (hbody : ∀ (L : Addr) (h₁ : Heap) (tk : Nat), (∀ b o, s.heap.get? b = some o → h₁.get? b = some o) → h₁.Ns L (fun y => [(xn, v)].reverse.lookup y) →
      wpAny (model prog w) (A.deeper (PySem.W.envX qual scope L f (.ref c') cl)) (eval body (PySem.W.envX qual scope L f (.ref c') cl)) (PySem.W.KeyPure k { s with heap := h₁, toks := tk }) (fun _ _ => False) { s with heap := h₁, toks := tk }) :
    wpAny (model prog w) A (call (.ref f) [v]) (PySem.W.KeyPure k s) (fun _ _ => False) s := by
  refine wpAny_call (PySem.W.kla_callFunE hroom ho rfl hco hgen rfl hcd ?_)
  rw [hbind]
  refine wpAny_pure (wpAny_newFunctionEnv hcell (fun y hy => by rw [List.mem_singleton.mp hy]; exact hx) (fun h₁ hns hsb => ⟨hlim.fresh _ hsb, ?_⟩) hk)
  have kp : ∀ b o, s.heap.get? b = some o → h₁.get? b = some o := fun b o e => hsb.extBut b o (Nat.ne_of_lt (Heap.lt_size e)) (Heap.get?_push_of_some _ e)
  refine PySem.W.kla_codeExpr (wpAny_mono (hbody _ h₁ _ kp hns) (fun u s' hq => ?_) fun _ _ z => z.elim)
  obtain ⟨h', tk, rfl, k2, r⟩ := hq
  exact ⟨h', tk, rfl, fun b o e => k2 b o (kp b o e), r⟩
end
section
variable {prog : Program} {w : World} {A : Around} {s : Shared} {E : Value → Shared → Prop}
/-- counts[x], counts captured and x the argument -/
theorem key_item {qual xn C : Str} {scope : Scope} {L f cc l : Addr} {cd : Value} {cl : List (Str × Addr)} {m : Str → Option Value} {i : Nat} {t : Tok} {u : Value} {items : Array Value} {p1 p2 p3 : Pos} {Q : Value → Shared → Prop}
    (hk : scope.kind = .function) (hx : scope.names.lookup xn = some .local) (hC : scope.names.lookup C = some .free) (hcl : cl.lookup C = some cc) (hcell : s.heap.IsCell cc (some (.ref l))) (hl : s.heap.IsList l items)
    (hn : s.heap.Ns L m) (hm : m xn = some (.int i t)) (hi : (i : Int) < 2 ^ 63) (hu : items[i]? = some u) (h : Q u s)
    (d1 : (xn == ("__debug__" : Str)) = false) (d2 : (C == ("__debug__" : Str)) = false) (d3 : (C == ("__classdict__" : Str)) = false) :
    wpAny (model prog w) A (eval (.Subscript (.Name C p1) (.Name xn p2) p3) (PySem.W.envX qual scope L f cd cl)) Q E s := by
  refine PyProof.Rows.Subscript_ (wpAny_Name (wpAny_loadName_free hk hC hcl hcell ?_ d3) d2)
  refine wpAny_Name (wpAny_loadName_local hk hx hn hm ?_) d1
  exact PyProof.Rows.item_listR hl (by omega) hi (by rw [Int.toNat_natCast]; exact hu) h
/-- (e, x), e an int, x the argument -/
theorem key_pair {qual xn : Str} {scope : Scope} {L f : Addr} {cd : Value} {cl : List (Str × Addr)} {m : Str → Option Value} {i : Int} {t : Tok} {z : Int} {e : Expr} {p2 pos : Pos} {x1}
    (hk : scope.kind = .function) (hx : scope.names.lookup xn = some .local) (hn : s.heap.Ns L m) (hm : m xn = some (.int i t)) (d1 : (xn == ("__debug__" : Str)) = false)
    (hs : starEach [e, .Name xn p2] (PySem.W.envX qual scope L f cd cl) = [(false, eval e (PySem.W.envX qual scope L f cd cl)), (false, eval (.Name xn p2) (PySem.W.envX qual scope L f cd cl))])
    (he : ∀ Q : Value → Shared → Prop, (∀ (u : Tok) (tk : Nat), Q (.int z u) { s with toks := tk }) → wpAny (model prog w) A (eval e (PySem.W.envX qual scope L f cd cl)) Q E s) :
    wpAny (model prog w) A (eval (.Tuple [e, .Name xn p2] x1 pos) (PySem.W.envX qual scope L f cd cl)) (PySem.W.KeyPure (.tuple [.int z, .int i]) s) E s := by
  refine wpAny_Tuple_spliced ?_
  rw [hs]
  refine Calls.spliced_cons (he _ fun u tk => ?_)
  refine Calls.spliced_cons (wpAny_Name (wpAny_loadName_local hk hx hn hm ?_) d1)
  refine Calls.spliced_nil ⟨by show 2 ≤ sizeLine; decide, ?_⟩
  refine ⟨_, _, rfl, fun b o q => Heap.get?_push_of_some _ q, ?_⟩
  exact .tuple (as := []) (Heap.get?_push_size _ rfl) rfl rfl (.cons (as := []) (.int z u) (.cons (as := []) (.int i t) .nil))
end
/-- the key's first part, by the item's number: what it gives -/
def KeyIs (e : Expr) (C xn : Str) (gk : Int → Int) : Prop :=
  ∀ (prog : Program) (w : World) (A : Around) (s : Shared) (E : Value → Shared → Prop) (qual : Str) (scope : Scope) (L f cc l : Addr) (cd : Value) (cl : List (Str × Addr)) (m : Str → Option Value) (i : Nat) (t : Tok) (z : Int) (tz : Tok) (items : Array Value) (Q : Value → Shared → Prop),
    scope.kind = .function → scope.names.lookup xn = some .local → scope.names.lookup C = some .free → cl.lookup C = some cc → s.heap.IsCell cc (some (.ref l)) → s.heap.IsList l items → s.heap.Ns L m → m xn = some (.int i t) → (i : Int) < 2 ^ 63 → items[i]? = some (.int z tz) →
    (∀ (u : Tok) (tk : Nat), Q (.int (gk z) u) { s with toks := tk }) → wpAny (model prog w) A (eval e (PySem.W.envX qual scope L f cd cl)) Q E s
theorem keyIs_item {xn C : Str} {p1 p2 p3 : Pos} (d1 : (xn == ("__debug__" : Str)) = false := by decide) (d2 : (C == ("__debug__" : Str)) = false := by decide) (d3 : (C == ("__classdict__" : Str)) = false := by decide) :
    KeyIs (.Subscript (.Name C p1) (.Name xn p2) p3) C xn (fun z => z) := fun _ _ _ _ _ _ _ _ _ _ _ _ _ _ _ _ _ _ _ _ hk hx hC hcl hc hl hn hm hi hu h => key_item hk hx hC hcl hc hl hn hm hi hu (h _ _) d1 d2 d3
theorem keyIs_neg {xn C : Str} {p1 p2 p3 p4 p5 : Pos} {j : Nat} (d1 : (xn == ("__debug__" : Str)) = false := by decide) (d2 : (C == ("__debug__" : Str)) = false := by decide) (d3 : (C == ("__classdict__" : Str)) = false := by decide) :
    KeyIs (.BinOp (.Constant (.int 0) j p4) .Sub (.Subscript (.Name C p1) (.Name xn p2) p3) p5) C xn (fun z => 0 - z) := fun _ _ _ _ _ _ _ _ _ _ _ _ _ _ _ _ _ _ _ _ hk hx hC hcl hc hl hn hm hi hu h => by
  refine wpAny_BinOp (wpAny_Constant_int ?_)
  exact key_item hk hx hC hcl hc hl hn hm hi hu (PyProof.Rows.sub_int (h _ _)) d1 d2 d3
/-- by the key gk of the count, then by the number -/
def byKey (gk : Int → Int) (cs : List Int) (ns : List Nat) : List Nat := ns.mergeSort fun a b => decide (gk (cs.getD a 0) < gk (cs.getD b 0) ∨ (gk (cs.getD a 0) = gk (cs.getD b 0) ∧ a ≤ b))
/-- what such a sort asks of its list -/
def rSortLam (T : List (Addr × Str)) (K : PySem.W.Frag) (gk : Int → Int) (j : Nat) (σ : St) (Q : VK) : V → Hp → Prop := fun x H1 => ∃ (a l : Addr) (ns : List Nat) (cs : List Int), x = .ref a ∧ SqL K H1 a (ns.map fun (n : Nat) => V.int n) ∧ σ[j]? = some (some (.ref l)) ∧ SqL K H1 l (cs.map V.int) ∧
  (∀ n ∈ ns, n < cs.length) ∧ LamX.Tabs T H1 ∧ ∀ (H2 : Hp) (p : Addr), LamX.ExtN H1 H2 → LamX.Tabs T H2 → H2 p = none → Q (.ref p) (upd H2 p (.lst ((byKey gk cs ns).map fun (n : Nat) => V.int n)))
def tSortLam (T : List (Addr × Str)) (K : PySem.W.Frag) (gk : Int → Int) (j : Nat) (te : TE) : TE := fun σ H Q => te σ H (rSortLam T K gk j σ Q)
theorem SqL.extN {K : PySem.W.Frag} {H H' : Hp} {a : Addr} {xs : List V} (h : SqL K H a xs) (e : LamX.ExtN H H') : SqL K H' a xs := by
  rcases h with (h | ⟨o, h⟩) | h
  · exact .inl (.inl (e _ _ h fun _ z => by cases z))
  · exact .inl (.inr ⟨o, e _ _ h fun _ z => by cases z⟩)
  · exact .inr h
theorem each_nat : ∀ {ns : List Nat} {us : List Value}, Vals (ns.map fun (n : Nat) => V.int n) us → PySem.W.EachIs (fun v (n : Nat) => ∃ t, v = Value.int n t) us ns
  | [], _, h => by cases h; exact .nil
  | _ :: _, _, h => by
    cases h with
    | cons r t => exact .cons r (each_nat t)
theorem vals_each : ∀ {ns : List Nat} {us : List Value}, PySem.W.EachIs (fun v (n : Nat) => ∃ t, v = Value.int n t) us ns → Vals (ns.map fun (n : Nat) => V.int n) us
  | _, _, .nil => .nil
  | _, _, .cons r t => .cons r (vals_each t)
theorem pe_sortLam {X : Cx} {T : List (Addr × Str)} {c P : Addr} {j : Nat} {e e1 : Expr} {te : TE} {xn C : Str} {gk : Int → Int} {params : Arguments} {scope : Scope} {x1} {p p2 p3 lpos kpos pos : Pos} (hg : Gl X "sorted") (hm : X.mg "sorted" = none) (he : PE X e te)
    (TB : LamX.TabB X.base X.mg c P) (hcode : X.env.code = .ref c) (hmT : (P, X.env.qual ++ "<lambda>") ∈ T) (huT : ∀ q ∈ T, q.1 = P → q.2 = X.env.qual ++ "<lambda>") (hr : Room 2 X.A)
    (hN : X.N[j]? = some C) (hC : X.env.scope.names.lookup C = some .cell) (hke : KeyIs e1 C xn gk)
    (sk : scope.kind = .function) (sx : scope.names.lookup xn = some .local) (sC : scope.names.lookup C = some .free) (scell : ∀ y ∈ scope.names, y.2 ≠ .cell) (sfree : ∀ y ∈ scope.names, y.2 = .free → y.1 = C) (sco : scope.isCoroutine = false) (sgen : scope.isGenerator = false)
    (hclo : ∀ (cells : List (Str × Addr)) (cc : Addr), cells.lookup C = some cc → (cloFrom cells scope.names []).lookup C = some cc)
    (hdef : defaultsOf params X.env = ([], []))
    (hbind : ∀ (q : Str) (cl : List (Str × Addr)) (pm cv ctv v : Value), bindArgs (PySem.W.kla_fn "<lambda>" q params (.Tuple [e1, .Name xn p2] x1 p3) scope cl pm cv ctv) ⟨[v], []⟩ = pure [(xn, v)])
    (hs : ∀ env : Env, starEach [e1, .Name xn p2] env = [(false, eval e1 env), (false, eval (.Name xn p2) env)])
    (dx : (xn == ("__debug__" : Str)) = false := by decide)
    (hst : starEach (e :: []) X.env = (false, eval e X.env) :: starEach [] X.env := by rfl) (hse : backTo pos (starEach (e :: []) X.env) = (false, eval e X.env) :: backTo pos (starEach [] X.env) := by rfl) (hpl : (backTo pos (starEach (e :: []) X.env)).any (·.1) = false := by rfl)
    (hall : (backToKw pos (keywordEach [⟨some "key", .Lambda params (.Tuple [e1, .Name xn p2] x1 p3) scope lpos, kpos⟩] X.env)).all (·.1.isSome) = true := by rfl)
    (hnone : (backToKw pos (keywordEach [⟨some "key", .Lambda params (.Tuple [e1, .Name xn p2] x1 p3) scope lpos, kpos⟩] X.env)).any (·.1.isNone) = false := by rfl)
    (hks : (backToKw pos (keywordEach [⟨some "key", .Lambda params (.Tuple [e1, .Name xn p2] x1 p3) scope lpos, kpos⟩] X.env)).filterMap (·.1) = [Str.ofString "key"] := by rfl) :
    PE X (.Call (.Name "sorted" p) [e] [⟨some "key", .Lambda params (.Tuple [e1, .Name xn p2] x1 p3) scope lpos, kpos⟩] pos) (tSortLam T X.K gk j te) := by
  refine ⟨fun pins s σ H Q I h => ?_⟩
  refine wpAny_Call_Name_kw (ld_blt I hg hm PyProof.Rows.boot_sorted ?_)
  have hargs : PA X [e] (tCons te tNil) := pa_cons he pa_nil hst
  refine PyProof.Rows.callWith_kw (thn (hargs.run pos pins s σ H (fun vs H1 => match vs with | [x] => rSortLam T X.K gk j σ Q x H1 | _ => False) I h) fun us s1 hh => ?_) hse hpl hall hnone
  obtain ⟨vs, H1, I1, r1, q1⟩ := hh
  match vs, r1, q1 with
  | [x], r1, q1 =>
    obtain ⟨a, l, ns, cs, rfl, ha, hj, hl, hlt, hT, q⟩ := q1
    obtain rfl := Vals.ref1 r1
    rw [hks]
    show wpAny _ _ (evalAll ((do let v ← eval (.Lambda params (.Tuple [e1, .Name xn p2] x1 p3) scope lpos) X.env; standAt pos; pure v) :: [])) _ _ s1
    have hfr : ∀ y ∈ scope.names, y.2 = .free → ∃ c, X.env.cells.lookup y.1 = some c := fun y hy ey => by
      rw [sfree y hy ey]
      exact I1.ok.has C (.inl hC)
    refine wpAny_evalAll_cons (wpAny_bind (LamX.lam_make2 I1 TB hcode hmT huT hT hdef hfr fun f c' pm ctv H2 s2 I2 eN T2 hf hfn hff hco => ?_))
    refine wpAny_bind (wpAny_standAt (wpAny_pure (wpAny_evalAll_nil ?_)))
    show wpAny _ _ (call (.builtin "sorted") [.ref a] [(Str.ofString "key", .ref f)]) _ _ s2
    obtain ⟨its, rv, pl, hz⟩ := I2.list (SqL.extN ha eN)
    obtain ⟨ics, rc, plc, hzc⟩ := I2.list (SqL.extN hl eN)
    have hea := each_nat rv
    -- the captured list
    obtain ⟨m, hn, hloc⟩ := I2.loc
    obtain ⟨u, ru, lk⟩ := hloc j C (.ref l) hN hj (.inr (.inl hC))
    obtain rfl : u = Value.ref l := ru
    obtain ⟨cc, hcc, hcell⟩ : ∃ cc, X.env.cells.lookup C = some cc ∧ s2.heap.IsCell cc (some (.ref l)) := by
      rcases lk with ⟨k, _⟩ | ⟨_, cc, e1, e2⟩
      · have k' : X.env.scope.names.lookup C = some .local := k
        rw [hC] at k'; cases k'
      · exact ⟨cc, e1, e2⟩
    have hcrec : s2.heap.CodeRec (.ref c') (X.env.qual ++ "<lambda>") := by
      obtain ⟨⟨oc, vs, t, e1, e2, e3⟩, _, _⟩ := I2.hok c' _ hco
      exact ⟨c', oc, vs, t, rfl, e1, e2, e3⟩
    have hlim := I2.nolimit
    refine PySem.W.sorted_key_data (R := fun v (n : Nat) => ∃ t, v = Value.int n t) (b := false) (f := .ref f) (fun n : Nat => PyData.tuple [.int (gk (cs.getD n 0)), .int n]) pl.isList hea ?_ (.inl ?_) (by rw [List.length_map] at hz; exact hz) (fun n _ => ?_) (PyProof.Rows.ksk_s1 _ _) (fun _ => PyProof.Rows.ksk_l1 _ _)
      (fun _ => PyProof.Rows.ksk_t1 _ _) ?_ ?_
    · intro d hd d' hd'
      obtain ⟨n, _, rfl⟩ := List.mem_map.mp hd
      obtain ⟨n', _, rfl⟩ := List.mem_map.mp hd'
      simp [PySem.W.alike, PySem.W.alikeAll]
    · intro d hd
      obtain ⟨n, _, rfl⟩ := List.mem_map.mp hd
      exact ⟨_, _, rfl⟩
    · have h1 := hr.un
      have h2 : PyData.depth (.tuple [.int (gk (cs.getD n 0)), .int (n : Int)]) = 1 := rfl
      rw [h2]; omega
    · rintro v n ⟨t, rfl⟩ hn h tk kp
      have hnl := hlt n hn
      obtain ⟨w', ew, rw'⟩ := rc.get (i := n) (x := V.int cs[n]) (by simp [hnl])
      obtain ⟨tz, rfl⟩ : ∃ tz, w' = Value.int cs[n] tz := rw'
      have hn63 : (n : Int) < 2 ^ 63 := by
        have q := rc.length
        have h3 : ics.length ≤ sizeLine := by rw [← q]; exact hzc
        rw [List.length_map] at q
        rw [sizeLine_eq] at h3
        omega
      obtain ⟨o1, n1, g1, g2, g3, g4⟩ := plc
      have ed : cs.getD n 0 = cs[n] := by simp [hnl]
      refine key_call (s := { s2 with heap := h, toks := tk }) (xn := xn) (kp _ _ hf) (hcrec.keeps kp) (by have := hr.dp; show X.A.depth < _; omega) (hlim.keeps kp) (hbind _ _ _ _ _ _) sx scell sco sgen sk fun L h₁ tk' kp2 hns => ?_
      obtain ⟨oc, z1, z2⟩ := hcell
      rw [ed]
      refine key_pair (t := t) (s := { s2 with heap := h₁, toks := tk' }) sk sx hns (by simp) dx (hs _) fun Q' hq => ?_
      refine hke _ _ _ _ _ _ _ _ _ cc l _ _ _ n t cs[n] tz ics.toArray Q' sk sx sC (hclo _ _ hcc) ⟨oc, kp2 _ _ (kp _ _ z1), z2⟩ ⟨o1, kp2 _ _ (kp _ _ g1), g2, n1, g4⟩ hns (by simp) hn63 (by simpa using ew) hq
    · intro out cap h' tk kp hfree hat hlen hE
      have e1 := vals_each hE
      have e2 : (ns.mergeSort (PySem.W.dataLe false fun n : Nat => PyData.tuple [.int (gk (cs.getD n 0)), .int n])) = byKey gk cs ns := by
        unfold byKey
        rw [PySem.W.dataLe_ii (fun n : Nat => gk (cs.getD n 0)) (fun n : Nat => (n : Int))]
        congr 1
        funext a b
        congr 1
        simp
      rw [e2] at e1
      have hl2 : ((byKey gk cs ns).map fun (n : Nat) => V.int n).length ≤ sizeLine := by
        rw [List.length_map] at hz ⊢
        unfold byKey
        rw [List.length_mergeSort]; exact hz
      exact ⟨.ref _, upd H2 (s2.heap.objs.size + 1) (.lst ((byKey gk cs ns).map fun (n : Nat) => V.int n)), I2.laid (t' := tk) kp (Nat.le_succ _) ⟨hl2, out, cap, e1, hat⟩, rfl, q H2 _ eN T2 (I2.hok.fresh (Nat.le_succ _))⟩

/-! ### own special methods: in, not in, len, x[i] -/
section
variable {X : Cx} {CX : CXT} {n : Nat} {C f : Addr} {fd : FuncData} {ps : List Str} {sp : Sp} {E : XK} {K : PySem.W.Frag}
/-- a def called from somewhere below the running body -/
theorem run_at {A : Around} {pins : List (Addr × Obj)} {σ : St} {H : Hp} {s : Shared} {Q : VK} {us : List Value} {vs : List V} (F : FnOk X.prog X.w X.K X.mg X.base CX n f fd ps sp) (hr : Room n A) (hA : A.frames = X.A.frames) (hb : Binds X.K fd ps []) (hx : Passes CX X E)
    (I : Inv X pins σ H s) (r : Vals vs us) (h : sp vs H Q E) : wpAny (model X.prog X.w) A (call (.ref f) us) (EP X pins σ Q) X.xe s := by
  have hl : us.length = ps.length := r.length.symm.trans (F.len _ _ _ _ h)
  have e := I.env0
  have e0 : Env0 X.prog X.w X.K X.mg X.base A X.stack s H := ⟨hA.trans e.frames, e.mod, e.bs, e.bsz, e.funs, e.frf, e.hok, e.bare⟩
  have hbd := hb s us I.kIn (by simpa using hl)
  rw [List.append_nil] at hbd
  refine wpAny_call (codeAny_mono (F.run A X.stack s H ⟨us, []⟩ us vs Q E hr e0 hbd r h) fun out s' hq => ?_)
  match out, hq with
  | .error e, hq => exact hx pins σ H s e s' I hq
  | .ok (.ret _), hq => exact I.after hq
/-- x in o, by o's own __contains__ -/
def rInOwn (C : Addr) (sp : Sp) (E : XK) (neg : Bool) : R2 := fun x y H Q => ∃ a dx fs, y = .ref a ∧ H a = some (.ins C dx fs) ∧ sp [.ref a, x] H (fun v H' => ∃ b, v = .bl b ∧ Q (.bl (if neg then !b else b)) H') E
theorem op_inOwn (F : FnOk X.prog X.w X.K X.mg X.base CX n f fd ps sp) (hr : Room n X.A) (mt : Meth X.K C "__contains__" f) (hb : Binds X.K fd ps []) (hx : Passes CX X E) : OpR X (compareOp .In) (rInOwn C sp E false) := by
  intro pins s σ H x y v u Q I rx ry h
  obtain ⟨a, dx, fs, rfl, ha, hsp⟩ := h
  cases ry
  obtain ⟨mA, J, _⟩ := ins_get I.hok ha
  obtain ⟨od, J, _⟩ := J.look
  obtain ⟨m, hF⟩ := I.fr
  refine PySem.W.in_K hF I.ok.mod.kin J mt.at_ mt.fn ?_
  refine thn (run_at F hr rfl hb hx I (.cons (show RelV (.ref a) (.ref a) from rfl) (.cons rx .nil)) hsp) fun r s' hq => ?_
  obtain ⟨z, H', I', rz, b, rfl, q⟩ := hq
  obtain rfl : r = Value.bool b := rz
  exact wpAny_truthy_bool ⟨.bl b, H', I', rfl, q⟩
theorem op_ninOwn (F : FnOk X.prog X.w X.K X.mg X.base CX n f fd ps sp) (hr : Room n X.A) (mt : Meth X.K C "__contains__" f) (hb : Binds X.K fd ps []) (hx : Passes CX X E) : OpR X (compareOp .NotIn) (rInOwn C sp E true) := by
  intro pins s σ H x y v u Q I rx ry h
  obtain ⟨a, dx, fs, rfl, ha, hsp⟩ := h
  cases ry
  obtain ⟨mA, J, _⟩ := ins_get I.hok ha
  obtain ⟨od, J, _⟩ := J.look
  obtain ⟨m, hF⟩ := I.fr
  refine PySem.W.notIn_K hF I.ok.mod.kin J mt.at_ mt.fn ?_
  refine thn (run_at F hr rfl hb hx I (.cons (show RelV (.ref a) (.ref a) from rfl) (.cons rx .nil)) hsp) fun r s' hq => ?_
  obtain ⟨z, H', I', rz, b, rfl, q⟩ := hq
  obtain rfl : r = Value.bool b := rz
  exact wpAny_truthy_bool ⟨.bl (!b), H', I', rfl, q⟩
/-- len(o), by o's own __len__ -/
def rLenOwn (C : Addr) (sp : Sp) (E : XK) : List V → Hp → VK → Prop := fun xs H Q => ∃ a dx fs, xs = [.ref a] ∧ H a = some (.ins C dx fs) ∧ sp [.ref a] H (fun v H' => ∃ i : Int, v = .int i ∧ 0 ≤ i ∧ i < 2 ^ 62 ∧ Q (.int i) H') E
theorem c_lenOwn (F : FnOk X.prog X.w X.K X.mg X.base CX n f fd ps sp) (hr : Room (n + 1) X.A) (mt : Meth X.K C "__len__" f) (hb : Binds X.K fd ps []) (hx : Passes CX X E) : CallR X (.builtin "len") (rLenOwn C sp E) := by
  intro pins s σ H xs us Q I r h
  obtain ⟨a, dx, fs, rfl, ha, hsp⟩ := h
  obtain rfl := Vals.ref1 r
  obtain ⟨mA, J, _⟩ := ins_get I.hok ha
  obtain ⟨od, J, _⟩ := J.look
  obtain ⟨m, hF⟩ := I.fr
  refine PySem.W.len_K hF I.ok.mod.kin J mt.at_ mt.fn ?_
  refine thn (run_at F hr.in1 rfl hb hx I (.cons (show RelV (.ref a) (.ref a) from rfl) .nil) hsp) fun r s' hq => ?_
  obtain ⟨z, H', I', rz, i, rfl, i0, i1, q⟩ := hq
  obtain ⟨t, rfl⟩ : ∃ t, r = Value.int i t := rz
  exact ⟨⟨i0, by omega⟩, .int i, H', I'.tok _, ⟨_, rfl⟩, q⟩
/-- o[i], by o's own __getitem__ -/
def rIxOwn (C : Addr) (sp : Sp) (E : XK) : R2 := fun x y H Q => ∃ a dx fs, x = .ref a ∧ H a = some (.ins C dx fs) ∧ sp [.ref a, y] H Q E
theorem pe_ixOwn {a b : Expr} {ta tb : TE} {pos : Pos} (F : FnOk X.prog X.w X.K X.mg X.base CX n f fd ps sp) (hr : Room (n + 1) X.A) (mt : Meth X.K C "__getitem__" f) (hfn : PySem.W.fnIn X.K f = true) (hbd : Binds X.K fd ps []) (hx : Passes CX X E) (ha : PE X a ta) (hb : PE X b tb)
    (hs : ∀ o i, subscripted b true o i = runValue (.builtin "lifetime.subscript" ⟨[o, i], []⟩) := by intro _ _; rfl) : PE X (.Subscript a b pos) (tOp (rIxOwn C sp E) ta tb) := by
  refine ⟨fun pins s σ H Q I h => ?_⟩
  refine PyProof.Rows.Subscript_ (thn (ha.run pins s σ H _ I h) fun v s1 ⟨x, H1, I1, r1, q1⟩ => thn (hb.run pins s1 σ H1 _ I1 q1) fun u s2 ⟨y, H2, I2, r2, q2⟩ => ?_)
  obtain ⟨o, dx, fs, rfl, ho, hsp⟩ := q2
  obtain rfl : v = Value.ref o := r1
  obtain ⟨mA, J, _⟩ := ins_get I2.hok ho
  obtain ⟨od, J, _⟩ := J.look
  obtain ⟨m, hF⟩ := I2.fr
  exact PySem.W.sub_K hF I2.ok.mod.kin J mt.at_ hfn mt.fn (run_at F hr.in1 rfl hbd hx I2 (.cons (show RelV (.ref o) (.ref o) from rfl) (.cons r2 .nil)) hsp) (hs _ _)
end

/-! ### defs that hold a lambda: their code objects and tables -/
structure FunC (K : PySem.W.Frag) (x qual : Str) (st : Stmt) (f : Addr) (fd : FuncData) (c : Addr) : Prop where
  ex : ∃ (oc : Value) (od : Option Addr) (kV doc pm : Value) (an : Option Addr) (ct : Value) (osl : Array (Option Value)),
    fd = PySem.W.fnOf x qual (defArgs st) (defBody st) (defScope st) .none kV doc pm an (.ref c) ct ∧ K.lookup f = some ⟨oc, od, .func fd, osl⟩ ∧ PySem.W.codeIn K (.ref c) qual = true
theorem FunC.ok {P : Program} {w : World} {K : PySem.W.Frag} {mg : Str → Option Value} {base : Heap} {x qual : Str} {st : Stmt} {f c : Addr} {fd : FuncData} {N ps : List Str} {k : Nat} {sp : Sp} (F : FunC K x qual st f fd c) (S : FnScope N ps (defScope st)) (len : ∀ vs H Q E, sp vs H Q E → vs.length = ps.length)
    (hbody : ∀ (cdv : Value) (A : Around) (outer : List Env) (s : Shared) (H : Hp) (vs : List V) (Q : VK) (E : XK), Room k (A.deeper (PyProof.Rows.envOfC qual (defScope st) s.heap.objs.size f (.ref c))) → sp vs H Q E →
      ∃ t, PSs (cxOf CX0 P w K mg base N qual (defScope st) f (.ref c) A outer s H E).nox (defBody st) t ∧ t { nx := fun _ H' => Q .non H', rt := Q } (start N vs) H) : FnOk P w K mg base CX0 (k + 1) f fd ps sp := by
  obtain ⟨oc, od, kV, doc, pm, an, ct, osl, rfl, lk, hcd⟩ := F.ex
  refine fn_of lk hcd S len fun A outer s H vs Q E hr hsp => ?_
  obtain ⟨t, h, q⟩ := hbody (.ref c) A outer s H vs Q E hr hsp
  exact ⟨t, h.nox, q⟩
theorem func_mk {K : PySem.W.Frag} {x qual : Str} {st : Stmt} {f c : Addr} {oc : Value} {od an : Option Addr} {osl : Array (Option Value)} {kV doc pm ct : Value} (l : K.lookup f = some ⟨oc, od, .func (PySem.W.fnOf x qual (defArgs st) (defBody st) (defScope st) .none kV doc pm an (.ref c) ct), osl⟩)
    (h : PySem.W.codeIn K (.ref c) qual = true) : FunC K x qual st f (PySem.W.fnOf x qual (defArgs st) (defBody st) (defScope st) .none kV doc pm an (.ref c) ct) c := ⟨⟨oc, od, kV, doc, pm, an, ct, osl, rfl, l, h⟩⟩
/-- the defs of these names have empty tables -/
def TabsAt (l : List Str) (mg : Str → Option Value) (h : Heap) : Prop := ∀ x ∈ l, ∃ (a : Addr) (o : Obj) (fd : FuncData) (c P : Addr), mg x = some (.ref a) ∧ h.get? a = some o ∧ o.data = .func fd ∧ fd.code = .ref c ∧ PySem.W.CodeHd h c P ∧ h.get? P = some { cls := .none, data := .fields #[] }
theorem tab_at {K : PySem.W.Frag} {h : Heap} {mg : Str → Option Value} {l : List Str} {x : Str} {f c P : Addr} {fd : FuncData} {e cls : Value} {dd od : Option Addr} {vs : Array Value} {sl osl : Array (Option Value)} (X : K.In h) (HT : TabsAt l mg h) (hx : x ∈ l) (hm : mg x = some (.ref f))
    (hf : K.lookup f = some ⟨cls, od, .func fd, osl⟩) (hc : K.lookup c = some ⟨e, dd, .fields vs, sl⟩) (hv : vs[11]? = some (.ref P)) (hcd : fd.code = .ref c := by rfl) :
    PySem.W.CodeHd h c P ∧ h.get? P = some { cls := .none, data := .fields #[] } := by
  obtain ⟨a', o', fd', c', P', h1, h2, h3, h4, h5, h6⟩ := HT x hx
  rw [hm] at h1; cases h1
  rw [X _ _ hf] at h2; cases h2
  cases h3
  rw [hcd] at h4; cases h4
  obtain ⟨o2, vs2, _, _, _, _, _, _, _, g1, g2, g3, g4, _⟩ := id h5
  rw [X _ _ hc] at g1; cases g1
  cases g3
  rw [hv] at g4; cases g4
  exact ⟨h5, h6⟩
theorem walkT {l : PySem.W.OpenLaw} {n k : Nat} {q : Program} {loose : List Str} {XP : (Str → Option Value) → Heap → Prop} {YP : World → Heap → Prop} {d : DefRec} {K : Params → PySem.W.Frag} {x : Str} {LN : List Str}
    (hn : l.most = some n) (hn2 : n ≤ sizeLine) (hdf : d.params.defaults = []) (hr : Room k callerA) (hrec : (LN.all fun x => (PyProof.Rows.recsOf q).any fun e => e.name == x) = true) (hY : ∀ (w : World) (h : Heap), YP w h → (K w.params).In h)
    (F : ∀ (w : World) (mg : Str → Option Value) (fa : Addr) (h : Heap), YP w h → (K w.params).In h → h.Ns mainGlobals mg → mg d.name = some (.ref fa) → TabsAt LN mg h → LamX.LawAtS l w (K w.params) CX0 k n x mg fa h) :
    PySem.W.WalkO q loose XP YP l.row.toRowW d [] (fun f vs => PySem.call f vs) := by
  refine Att.attach_callB hn hdf fun w s₀ s₁ mg mb fa o pm cd doc a vs ns G Y ho hd hcd hmg hobj hints hlen hbits hg => ?_
  have KX := hY w _ Y
  have own : TabsAt LN mg s₁.heap := fun x hx => by
    obtain ⟨dL, hm, hn1⟩ := List.any_eq_true.mp (List.all_eq_true.mp hrec x hx)
    have hn2 : dL.name = x := beq_iff_eq.mp hn1
    obtain ⟨a', o', fd', c', P', h1, h2, h3, h4, h5, h6⟩ := G.T.tab dL hm
    rw [hn2] at h1
    exact ⟨a', o', fd', c', P', h1, h2, h3, h4, PySem.W.CodeHd.of h5 h6, h6.2⟩
  obtain ⟨fd, cs, sp, hT, nT, C, hb, hsp, hF⟩ := F w mg fa _ Y KX G.T.g hmg own
  exact LamX.law_callTs KX G.T.g G.T.b G.T.builtins G.T.nolimit hg hT nT C G.T.bmain hobj hints (Nat.le_trans hlen hn2) hr hF hb (fun H hH hS => hsp H a ns hlen hbits hH hS) fun H e s' z => z
/-! ### what is kept, tables aside -/
def New (H : Hp) (b : Addr) : Prop := ∀ o, H b = some o → ∃ ps, o = HO.tbl ps
theorem New.of {H : Hp} {b : Addr} (h : H b = none) : New H b := fun o e => by rw [h] at e; cases e
def Out (F : Addr → Prop) (H H' : Hp) : Prop := ∀ b o, ¬ F b → H b = some o → (∀ ps, o ≠ HO.tbl ps) → H' b = some o
def Nil : Addr → Prop := fun _ => False
theorem Out.refl {F : Addr → Prop} (H : Hp) : Out F H H := fun _ _ _ h _ => h
theorem Out.trans {F F' : Addr → Prop} {H H1 H2 : Hp} (a : Out F H H1) (b : Out F' H1 H2) (g : ∀ c, F' c → F c ∨ New H c) : Out F H H2 := fun c o n h t => b c o (fun z => (g c z).elim n fun w => by obtain ⟨ps, e⟩ := w o h; exact t ps e) (a c o n h t) t
theorem Out.nil {F : Addr → Prop} {H H1 H2 : Hp} (a : Out F H H1) (b : Out Nil H1 H2) : Out F H H2 := a.trans b fun _ z => z.elim
theorem Out.mono {F F' : Addr → Prop} {H H1 : Hp} (a : Out F H H1) (g : ∀ c, F c → F' c ∨ New H c) : Out F' H H1 := fun c o n h t => a c o (fun z => (g c z).elim n fun w => by obtain ⟨ps, e⟩ := w o h; exact t ps e) h t
theorem Out.new {F : Addr → Prop} {H H1 : Hp} {p : Addr} (a : Out F H H1) (h : New H1 p) : F p ∨ New H p := by
  by_cases f : F p
  · exact .inl f
  · refine .inr fun o e => ?_
    by_cases t : ∀ ps, o ≠ HO.tbl ps
    · exact h _ (a p o f e t)
    · exact Classical.byContradiction fun z => t fun ps q => z ⟨ps, q⟩
theorem Out.upd {F : Addr → Prop} {H H1 : Hp} {p : Addr} {o : HO} (a : Out F H H1) (h : F p ∨ New H p) : Out F H (L2.upd H1 p o) := fun c u n e t => by
  rw [upd_ne (fun z => by subst z; exact h.elim n fun w => by obtain ⟨ps, q⟩ := w u e; exact t ps q)]
  exact a c u n e t
theorem Out.fresh {F : Addr → Prop} {H H1 : Hp} {p : Addr} {o : HO} (a : Out F H H1) (h : H1 p = none) : Out F H (L2.upd H1 p o) := a.upd (a.new (.of h))
theorem Out.same {F : Addr → Prop} {H H' : Hp} (h : Same H H') : Out F H H' := fun b o _ e _ => h b o e
theorem Out.ext {H H' : Hp} (h : LamX.ExtN H H') : Out Nil H H' := fun b o _ e t => h b o e t
theorem Out.toExt {H H' : Hp} (h : Out Nil H H') : LamX.ExtN H H' := fun b o e t => h b o (fun z => z) e t
theorem Out.kp {s : Addr} {H H' : Hp} (h : Kp s H H') : Out (fun b => b = s) H H' := fun b o n e _ => h b o n e
theorem Out.seq {K : PySem.W.Frag} {F : Addr → Prop} {H H' : Hp} {a : Addr} {xs : List V} (e : Out F H H') (n : ¬ F a) (h : SqL K H a xs) : SqL K H' a xs := by
  rcases h with (h | ⟨o, h⟩) | h
  · exact .inl (.inl (e _ _ n h fun _ z => by cases z))
  · exact .inl (.inr ⟨o, e _ _ n h fun _ z => by cases z⟩)
  · exact .inr h
theorem Out.set {K : PySem.W.Frag} {F : Addr → Prop} {H H' : Hp} {a : Addr} {xs : List V} (e : Out F H H') (n : ¬ F a) (h : SqT K H a xs) : SqT K H' a xs := by
  rcases h with (h | ⟨o, h⟩) | h
  · exact .inl (.inl (e _ _ n h fun _ z => by cases z))
  · exact .inl (.inr ⟨o, e _ _ n h fun _ z => by cases z⟩)
  · exact .inr h
theorem Out.lst {F : Addr → Prop} {H H' : Hp} {a : Addr} {xs : List V} (e : Out F H H') (n : ¬ F a) (h : H a = some (.lst xs)) : H' a = some (.lst xs) := e _ _ n h fun _ z => by cases z
theorem Out.tup {F : Addr → Prop} {H H' : Hp} {a : Addr} {xs : List V} (e : Out F H H') (n : ¬ F a) (h : H a = some (.tup xs)) : H' a = some (.tup xs) := e _ _ n h fun _ z => by cases z
theorem Out.src {F : Addr → Prop} {H H' : Hp} {s : Addr} (e : Out F H H') (n : ¬ F s) (h : Src H s) : Src H' s := by
  obtain ⟨a, b, c, h⟩ := h
  exact ⟨a, b, c, e.lst n h⟩
/-- tables, when a list, dict or instance is put -/
def Plain : HO → Prop
  | .tbl _ => False
  | .ext _ => False
  | _ => True
theorem tabs_keep {T : List (Addr × Str)} {H H' : Hp} (t : LamX.Tabs T H) (k : ∀ b o, H b = some o → ¬ Plain o → H' b = some o) : LamX.Tabs T H' := fun p hp => by
  obtain ⟨ps, h1, h2, h3⟩ := t p hp
  refine ⟨ps, k _ _ h1 (fun z => z), h2, fun pos cv e => ?_⟩
  obtain ⟨c, e1, e2⟩ := h3 pos cv e
  exact ⟨c, e1, k _ _ e2 (fun z => z)⟩
theorem tabs_new {T : List (Addr × Str)} {H : Hp} {a : Addr} {o : HO} (t : LamX.Tabs T H) (h : H a = none) : LamX.Tabs T (upd H a o) := tabs_keep t fun b u e _ => by rw [upd_ne (ne_of_none e h)]; exact e
theorem tabs_put {T : List (Addr × Str)} {H : Hp} {a : Addr} {o u : HO} (t : LamX.Tabs T H) (h : H a = some u) (p : Plain u) : LamX.Tabs T (upd H a o) := tabs_keep t fun b v e n => by
  rw [upd_ne (fun z => by subst z; rw [h] at e; cases e; exact n p)]; exact e
theorem tabs_kp {T : List (Addr × Str)} {s : Addr} {H H' : Hp} (t : LamX.Tabs T H) (k : Kp s H H') (h : Src H s) : LamX.Tabs T H' := tabs_keep t fun b o e n => k b o (fun z => by
  subst z
  obtain ⟨_, _, _, h⟩ := h
  rw [h] at e; cases e; exact n trivial) e
theorem tabs_same {T : List (Addr × Str)} {H H' : Hp} (t : LamX.Tabs T H) (k : Same H H') : LamX.Tabs T H' := tabs_keep t fun b o e _ => k b o e
def spLaw (Tb : List (Addr × Str)) (K : PySem.W.Frag) : Sp := fun vs H Q _ => ∃ (a : Addr) (ns : List Int), vs = [.ref a] ∧ SqL K H a (ns.map V.int) ∧ ns.length ≤ 63 ∧ LamX.Tabs Tb H ∧ ∀ H', Q (.bl true) H'

/-! ### slot maps: the model -/
def ci (l : List Nat) : List Int := l.map fun (n : Nat) => (n : Int)
def iv (l : List Nat) : List V := (ci l).map V.int
theorem iv_map (l : List Nat) : iv l = l.map fun (n : Nat) => V.int n := by simp [iv, ci]
theorem ci_len (l : List Nat) : (ci l).length = l.length := by simp [ci]
theorem iv_len (l : List Nat) : (iv l).length = l.length := by simp [iv, ci]
theorem ci_get {l : List Nat} {i n : Nat} (h : l[i]? = some n) : (ci l)[i]? = some (n : Int) := by simp [ci, h]
theorem iv_get {l : List Nat} {i n : Nat} (h : l[i]? = some n) : (iv l)[i]? = some (V.int n) := by simp [iv, ci, h]
theorem ci_inj : ∀ {l m : List Nat}, ci l = ci m → l = m
  | [], [], _ => rfl
  | [], _ :: _, h => by cases h
  | _ :: _, [], h => by cases h
  | a :: l, b :: m, h => by
    have h1 : (a : Int) = b := (List.cons.inj h).1
    have h2 : ci l = ci m := (List.cons.inj h).2
    rw [Int.ofNat_inj.mp h1, ci_inj h2]
theorem mem_ci {l : List Nat} {n : Nat} : (n : Int) ∈ ci l ↔ n ∈ l := ⟨fun h => by
  obtain ⟨a, h1, h2⟩ := List.mem_map.mp h
  have e : a = n := by omega
  exact e ▸ h1, fun h => List.mem_map.mpr ⟨n, h, rfl⟩⟩
theorem count_ci (l : List Nat) (n : Nat) : (ci l).count (n : Int) = l.count n := by
  induction l with
  | nil => rfl
  | cons a r ih =>
    show List.count (n : Int) ((a : Int) :: ci r) = _
    rw [List.count_cons, List.count_cons, ih]
    by_cases h : a = n <;> simp [h]
    have : ¬ ((a : Int) = n) := by omega
    simp [this]
def sortN (l : List Nat) : List Nat := l.mergeSort fun a b => decide (a ≤ b)
theorem sortN_perm (l : List Nat) : (sortN l).Perm l := List.mergeSort_perm _ _
theorem sortN_sorted (l : List Nat) : (sortN l).Pairwise (· ≤ ·) := by
  have h := List.pairwise_mergeSort (le := fun a b : Nat => decide (a ≤ b)) (fun a b c h1 h2 => by simp only [decide_eq_true_eq] at *; omega) (fun a b => by simp only [Bool.or_eq_true, decide_eq_true_eq]; omega) l
  exact h.imp (by simp)
theorem sorted_ci {l : List Nat} {ms : List Int} (hp : ms.Perm (ci l)) (hs : ms.Pairwise (· ≤ ·)) : ms = ci (sortN l) := by
  refine List.Perm.eq_of_pairwise (le := fun a b : Int => decide (a ≤ b)) (fun a b _ _ h1 h2 => ?_) ?_ ?_ (hp.trans ((sortN_perm l).map _).symm)
  · simp only [decide_eq_true_eq] at h1 h2; omega
  · exact hs.imp (by simp)
  · exact List.Pairwise.map _ (fun a b h => by simp; omega) (sortN_sorted l)
theorem byKey_perm (gk : Int → Int) (cs : List Int) (l : List Nat) : (byKey gk cs l).Perm l := List.mergeSort_perm _ _
/-- the free slots in the order of taking -/
def takeOrd (r : Rl) (o t : List Nat) : List Nat := match r with
  | .lowest => sortN o
  | .least => byKey (fun z => z) (ci t) o
  | _ => o
theorem takeOrd_perm (r : Rl) (o t : List Nat) : (takeOrd r o t).Perm o := by
  cases r
  · exact .refl _
  · exact .refl _
  · exact sortN_perm o
  · show (byKey (fun z => z) (ci t) o).Perm o
    exact byKey_perm _ _ o
def behind (r : Rl) (o : List Nat) (s : Nat) : List Nat := match r with
  | .last => s :: o
  | _ => o ++ [s]
theorem behind_perm (r : Rl) (o : List Nat) (s : Nat) : (behind r o s).Perm (s :: o) := by
  cases r
  · exact .refl _
  · exact List.perm_append_comm
  · exact List.perm_append_comm
  · exact List.perm_append_comm
structure SM where
  n : Nat
  lim : Nat
  g : Nat
  rule : Rl
  order : List Nat
  live : List (Nat × V)
  taken : List Nat
def SM.ages (m : SM) : List Nat := m.live.map (·.1)
def SM.free (m : SM) : List Nat := takeOrd m.rule m.order m.taken
def SM.cnt (m : SM) (s : Nat) : Nat := m.taken.getD s 0
def SM.gen (m : SM) (s : Nat) : Int := ((m.cnt s : Int) - 1) % (m.g : Int)
def SM.new (n l g : Nat) (r : Rl) : SM := ⟨n, l, g, r, List.range n, [], List.replicate n 0⟩
def SM.slot (m : SM) : Nat := m.free.headD 0
def SM.take (m : SM) (v : V) : SM := { m with order := m.order.erase m.slot, live := m.live ++ [(m.slot, v)], taken := m.taken.set m.slot (m.cnt m.slot + 1) }
def SM.give (m : SM) (s : Nat) : SM := { m with order := behind m.rule m.order s, live := m.live.filter fun q => decide (q.1 ≠ s) }
structure SM.Ok (m : SM) : Prop where
  ar : Args m.n m.lim m.g
  perm : (m.order ++ m.ages).Perm (List.range m.n)
  tl : m.taken.length = m.n
  lv : m.live.length ≤ m.lim
  pos : ∀ s ∈ m.ages, 1 ≤ m.cnt s
namespace SM
variable {m : SM}
theorem Ok.n64 (h : m.Ok) : m.n ≤ 64 := by have := h.ar.n2; omega
theorem Ok.nodup (h : m.Ok) : (m.order ++ m.ages).Nodup := h.perm.nodup_iff.mpr List.nodup_range
theorem Ok.lt (h : m.Ok) {s : Nat} (hs : s ∈ m.order ++ m.ages) : s < m.n := List.mem_range.mp (h.perm.mem_iff.mp hs)
theorem Ok.ltO (h : m.Ok) {s : Nat} (hs : s ∈ m.order) : s < m.n := h.lt (List.mem_append_left _ hs)
theorem Ok.ltA (h : m.Ok) {s : Nat} (hs : s ∈ m.ages) : s < m.n := h.lt (List.mem_append_right _ hs)
theorem Ok.len (h : m.Ok) : m.order.length + m.live.length = m.n := by
  have e := h.perm.length_eq
  rw [List.length_append, List.length_range] at e
  simpa [ages] using e
theorem Ok.free_perm (m : SM) : m.free.Perm m.order := takeOrd_perm _ _ _
theorem Ok.room (h : m.Ok) (hl : m.live.length < m.lim) : m.free ≠ [] := fun e => by
  have e1 := (Ok.free_perm m).length_eq
  rw [e] at e1
  have := h.len
  have := h.ar.l2
  simp at e1
  omega
theorem Ok.free_cons (h : m.Ok) (hl : m.live.length < m.lim) : ∃ r, m.free = m.slot :: r := by
  cases e : m.free with
  | nil => exact absurd e (h.room hl)
  | cons a r => exact ⟨r, by simp [slot, e]⟩
theorem Ok.slot_mem (h : m.Ok) (hl : m.live.length < m.lim) : m.slot ∈ m.order := by
  obtain ⟨r, e⟩ := h.free_cons hl
  exact (Ok.free_perm m).mem_iff.mp (by rw [e]; exact List.mem_cons_self)
theorem Ok.slot_lt (h : m.Ok) (hl : m.live.length < m.lim) : m.slot < m.n := h.ltO (h.slot_mem hl)
theorem Ok.slot_dead (h : m.Ok) (hl : m.live.length < m.lim) : m.slot ∉ m.ages := fun z => (List.nodup_append.mp h.nodup).2.2 _ (h.slot_mem hl) _ z rfl
theorem ok_new {n l g : Nat} (r : Rl) (a : Args n l g) : (SM.new n l g r).Ok := ⟨a, by simp [SM.new, ages], by simp [SM.new], by simp [SM.new], by simp [SM.new, ages]⟩
theorem cnt_take (h : m.Ok) (hl : m.live.length < m.lim) (v : V) (s : Nat) : (m.take v).cnt s = m.cnt s + if s = m.slot then 1 else 0 := by
  have hs := h.slot_lt hl
  have ht := h.tl
  show (m.taken.set m.slot (m.cnt m.slot + 1)).getD s 0 = m.taken.getD s 0 + _
  by_cases e : s = m.slot
  · subst e
    simp [cnt, show m.slot < m.taken.length by omega]
  · have e' : m.slot ≠ s := fun z => e z.symm
    simp [e, List.getElem?_set, e']
theorem ok_take (h : m.Ok) (hl : m.live.length < m.lim) (v : V) : (m.take v).Ok := by
  refine ⟨h.ar, ?_, ?_, ?_, ?_⟩
  · have h1 := h.slot_mem hl
    have h2 : (m.order.erase m.slot ++ (m.ages ++ [m.slot])).Perm (m.order ++ m.ages) := by
      have h3 : (m.order.erase m.slot ++ (m.ages ++ [m.slot])).Perm (m.order.erase m.slot ++ (m.slot :: m.ages)) := (List.perm_append_comm (l₁ := m.ages) (l₂ := [m.slot])).append_left _
      refine h3.trans (List.perm_middle.trans ?_)
      exact (List.perm_cons_erase h1).symm.append_right m.ages
    have e : (m.take v).ages = m.ages ++ [m.slot] := by simp [ages, take]
    rw [e]
    exact h2.trans h.perm
  · simp [take, h.tl]
  · simp only [take, List.length_append, List.length_singleton]; omega
  · intro s hs
    rw [cnt_take h hl]
    have e : (m.take v).ages = m.ages ++ [m.slot] := by simp [ages, take]
    rw [e, List.mem_append, List.mem_singleton] at hs
    rcases hs with hs | hs
    · have := h.pos s hs; omega
    · rw [if_pos hs]; omega
theorem ages_give (m : SM) (s : Nat) : (m.give s).ages = m.ages.filter fun x => decide (x ≠ s) := by
  simp [ages, give, List.filter_map, Function.comp_def]
theorem erase_eq {l : List Nat} (h : l.Nodup) (s : Nat) : l.erase s = l.filter fun x => decide (x ≠ s) := by
  rw [h.erase_eq_filter]
  congr 1
  funext x
  simp [bne]
  by_cases e : x = s <;> simp [e]
theorem Ok.nodupA (h : m.Ok) : m.ages.Nodup := (List.nodup_append.mp h.nodup).2.1
theorem ages_giveE (h : m.Ok) (s : Nat) : (m.give s).ages = m.ages.erase s := by rw [ages_give, erase_eq h.nodupA]
theorem ok_give (h : m.Ok) {s : Nat} (hs : s ∈ m.ages) : (m.give s).Ok := by
  refine ⟨h.ar, ?_, h.tl, ?_, ?_⟩
  · rw [ages_giveE h]
    show (behind m.rule m.order s ++ m.ages.erase s).Perm _
    refine ((behind_perm _ _ _).append_right _).trans (.trans ?_ h.perm)
    refine (List.perm_middle (a := s) (l₁ := m.order) (l₂ := m.ages.erase s)).symm.trans ?_
    exact (List.perm_cons_erase hs).symm.append_left _
  · exact Nat.le_trans (List.length_filter_le _ _) h.lv
  · intro x hx
    rw [ages_giveE h] at hx
    exact h.pos x (List.mem_of_mem_erase hx)
end SM
/-! ### slot maps: how they stand -/
def hk (l : List (Nat × V)) : List (Key × V) := l.map fun q => ((.inl (q.1 : Int) : Key), q.2)
def flds (m : SM) (lo la lt lh : Addr) : List (Str × V) := [("n", .int m.n), ("limit", .int m.lim), ("generations", .int m.g), ("rule", .str m.rule.s), ("order", .ref lo), ("ages", .ref la), ("taken", .ref lt), ("held", .ref lh)]
structure SlAt (C : Addr) (H : Hp) (p dx lo la lt lh : Addr) (m : SM) : Prop where
  ok : m.Ok
  ins : H p = some (.ins C dx (flds m lo la lt lh))
  o : H lo = some (.lst (iv m.order))
  a : H la = some (.lst (iv m.ages))
  t : H lt = some (.lst (iv m.taken))
  d : H lh = some (.dK (hk m.live))
  oa : lo ≠ la
  ot : lo ≠ lt
  at_ : la ≠ lt
/-- a slot map that stands at p, in the objects F -/
def Sl (C : Addr) (H : Hp) (p : Addr) (m : SM) (F : Addr → Prop) : Prop := ∃ dx lo la lt lh, SlAt C H p dx lo la lt lh m ∧ ∀ b, F b ↔ (b = p ∨ b = lo ∨ b = la ∨ b = lt ∨ b = lh)
theorem SlAt.out {C : Addr} {H H' : Hp} {p dx lo la lt lh : Addr} {m : SM} {F : Addr → Prop} (h : SlAt C H p dx lo la lt lh m) (e : Out F H H') (n1 : ¬ F p) (n2 : ¬ F lo) (n3 : ¬ F la) (n4 : ¬ F lt) (n5 : ¬ F lh) : SlAt C H' p dx lo la lt lh m :=
  ⟨h.ok, e _ _ n1 h.ins (fun _ z => by cases z), e.lst n2 h.o, e.lst n3 h.a, e.lst n4 h.t, e _ _ n5 h.d (fun _ z => by cases z), h.oa, h.ot, h.at_⟩
theorem SlAt.nil {C : Addr} {H H' : Hp} {p dx lo la lt lh : Addr} {m : SM} (h : SlAt C H p dx lo la lt lh m) (e : Out Nil H H') : SlAt C H' p dx lo la lt lh m := h.out e (fun z => z) (fun z => z) (fun z => z) (fun z => z) (fun z => z)
theorem Sl.out {C : Addr} {H H' : Hp} {p : Addr} {m : SM} {F G : Addr → Prop} (h : Sl C H p m F) (e : Out G H H') (n : ∀ b, G b → ¬ F b) : Sl C H' p m F := by
  obtain ⟨dx, lo, la, lt, lh, x, f⟩ := h
  exact ⟨dx, lo, la, lt, lh, x.out e (fun z => n _ z ((f _).mpr (by simp))) (fun z => n _ z ((f _).mpr (by simp))) (fun z => n _ z ((f _).mpr (by simp))) (fun z => n _ z ((f _).mpr (by simp))) (fun z => n _ z ((f _).mpr (by simp))), f⟩
theorem Sl.nil {C : Addr} {H H' : Hp} {p : Addr} {m : SM} {F : Addr → Prop} (h : Sl C H p m F) (e : Out Nil H H') : Sl C H' p m F := h.out e fun _ z => z.elim
theorem Sl.ok {C : Addr} {H : Hp} {p : Addr} {m : SM} {F : Addr → Prop} (h : Sl C H p m F) : m.Ok := by
  obtain ⟨dx, lo, la, lt, lh, x, _⟩ := h
  exact x.ok
/-- what is new is none of its objects; no tuple is -/
theorem Sl.not {C : Addr} {H : Hp} {p b : Addr} {m : SM} {F : Addr → Prop} (h : Sl C H p m F) (n : New H b) : ¬ F b := fun z => by
  obtain ⟨dx, lo, la, lt, lh, x, f⟩ := h
  rcases (f b).mp z with e | e | e | e | e
  · subst e; obtain ⟨_, q⟩ := n _ x.ins; cases q
  · subst e; obtain ⟨_, q⟩ := n _ x.o; cases q
  · subst e; obtain ⟨_, q⟩ := n _ x.a; cases q
  · subst e; obtain ⟨_, q⟩ := n _ x.t; cases q
  · subst e; obtain ⟨_, q⟩ := n _ x.d; cases q
theorem Sl.ntup {C : Addr} {H : Hp} {p b : Addr} {m : SM} {F : Addr → Prop} {xs : List V} (h : Sl C H p m F) (n : H b = some (.tup xs)) : ¬ F b := fun z => by
  obtain ⟨dx, lo, la, lt, lh, x, f⟩ := h
  rcases (f b).mp z with e | e | e | e | e
  · subst e; have := x.ins; rw [n] at this; cases this
  · subst e; have := x.o; rw [n] at this; cases this
  · subst e; have := x.a; rw [n] at this; cases this
  · subst e; have := x.t; rw [n] at this; cases this
  · subst e; have := x.d; rw [n] at this; cases this
theorem SlAt.sl {C : Addr} {H : Hp} {p dx lo la lt lh : Addr} {m : SM} (x : SlAt C H p dx lo la lt lh m) : Sl C H p m fun b => b = p ∨ b = lo ∨ b = la ∨ b = lt ∨ b = lh := ⟨dx, lo, la, lt, lh, x, fun _ => Iff.rfl⟩
theorem New.ne {H : Hp} {a b : Addr} {o : HO} (n : New H b) (h : H a = some o) (t : ∀ ps, o ≠ .tbl ps) : a ≠ b := fun e => by
  subst e
  obtain ⟨ps, q⟩ := n _ h
  exact t ps q
theorem New.nel {H : Hp} {a b : Addr} {xs : List V} (n : New H b) (h : H a = some (.lst xs)) : a ≠ b := n.ne h fun _ z => by cases z
theorem Out.src_new {F : Addr → Prop} {H H' : Hp} {b : Addr} (e : Out F H H') (n : New H' b) : F b ∨ New H b := e.new n
theorem New.back {H H' : Hp} {b : Addr} (n : New H' b) (e : Out Nil H H') : New H b := (e.new n).elim (fun z => z.elim) fun z => z
theorem hk_val {l : List (Nat × V)} (nd : (l.map (·.1)).Nodup) {s : Nat} {v : V} (h : (s, v) ∈ l) : valV (hk l) (.inl (s : Int)) = some v := by
  induction l with
  | nil => cases h
  | cons a r ih =>
    obtain ⟨i, u⟩ := a
    rw [List.map_cons, List.nodup_cons] at nd
    rcases List.mem_cons.mp h with e | e
    · cases e
      exact valV_pos rfl
    · have ne : i ≠ s := fun z => nd.1 (by subst z; exact List.mem_map.mpr ⟨_, e, rfl⟩)
      have ne' : ¬ ((.inl (i : Int) : Key) = .inl (s : Int)) := fun z => by
        have := Sum.inl.inj z
        omega
      exact (valV_neg ne').trans (ih nd.2 e)
theorem hk_drop (l : List (Nat × V)) (s : Nat) : dropK (hk l) (.inl (s : Int)) = hk (l.filter fun q => decide (q.1 ≠ s)) := by
  induction l with
  | nil => rfl
  | cons a r ih =>
    obtain ⟨i, u⟩ := a
    unfold dropK hk at ih ⊢
    rw [List.map_cons, List.filter_cons, List.filter_cons, ih]
    by_cases e : i = s
    · subst e; simp
    · have e' : ¬ ((i : Int) = (s : Int)) := by omega
      simp [e, e']
theorem hk_put {l : List (Nat × V)} {s : Nat} (v : V) (h : s ∉ l.map (·.1)) : putK (hk l) (.inl (s : Int)) v = hk (l ++ [(s, v)]) := by
  unfold putK
  rw [if_neg ?_]
  · simp [hk]
  · intro z
    obtain ⟨q, h1, h2⟩ := List.any_eq_true.mp z
    obtain ⟨x, h3, h4⟩ := List.mem_map.mp h1
    subst h4
    have : (x.1 : Int) = s := Sum.inl.inj (of_decide_eq_true h2)
    exact h (List.mem_map.mpr ⟨x, h3, by omega⟩)
/-! ### x[i] += e on a list -/
def rGetN (K : PySem.W.Frag) : V → V → Hp → VK → Prop := fun o i H Q => ∃ (p : Addr) (xs : List V) (j : Nat) (z : V), o = .ref p ∧ i = .int j ∧ SqL K H p xs ∧ xs[j]? = some z ∧ Q z H
theorem pg_list {X : Cx} {K : PySem.W.Frag} (hK : X.K = K := by rfl) : PGet X (rGetN K) := by
  subst hK
  intro pins s σ H o i ov iv Q I ro ri h
  obtain ⟨p, xs, j, z, rfl, rfl, hq, he, q⟩ := h
  cases ro
  obtain ⟨t, rfl⟩ := ri
  obtain ⟨its, r, pl, hz⟩ := I.list hq
  obtain ⟨w, ew, rw'⟩ := r.get he
  have hj : j < xs.length := (List.getElem?_eq_some_iff.mp he).1
  have hn := line63
  exact wpAny_getItem_list pl.isList (by omega) (by omega) (by rw [Int.toNat_natCast]; simpa using ew) ⟨z, H, I, rw', q⟩

theorem r_augS {D : Ends} {σ : St} {H : Hp} {to ti te : TE} {tget : V → V → Hp → VK → Prop} {tip : TIp} {tset : TSet} (h : to σ H fun o H1 => ti σ H1 fun i H2 => tget o i H2 fun x H3 => te σ H3 fun y H4 => tip x y H4 fun z H5 => tset o i z H5 fun H6 => D.nx σ H6) : tAugS to ti te tget tip tset D σ H := h
theorem sortedK {X : Cx} {K : PySem.W.Frag} (h : X.K = K := by rfl) : CallR X (.builtin "sorted") (rSortedI K) := h ▸ cr_sortedI
theorem cntK {X : Cx} {K : PySem.W.Frag} (h : X.K = K := by rfl) : MtR X "list.count" (rCntI K) := h ▸ mt_lcount
theorem rgV_iv (n : Nat) : rgV 0 (n : Int) = iv (List.range n) := by
  unfold rgV iv ci
  rw [List.map_map]
  have e : ((n : Int) - 0).toNat = n := by omega
  rw [e]
  refine List.map_congr_left fun i _ => ?_
  show V.int (0 + (i : Int)) = V.int (i : Int)
  rw [Int.zero_add]
theorem rep_iv (n : Nat) : List.replicate n (V.int 0) = iv (List.replicate n 0) := by simp [iv, ci]
theorem r_attr {H : Hp} {R : V → Prop} {K : PySem.W.Frag} {p C dx : Addr} {fs : List (Str × V)} {f : Str} {v : V} (h1 : H p = some (.ins C dx fs)) (c : Cls K C) (n : NoAttr K C f) (l : fs.lookup f = some v) (h : R v) :
    ∃ a C dx fs v, V.ref p = .ref a ∧ H a = some (.ins C dx fs) ∧ Cls K C ∧ NoAttr K C f ∧ fs.lookup f = some v ∧ R v := ⟨_, _, _, _, _, rfl, h1, c, n, l, h⟩
theorem r_meth {H : Hp} {C p dx : Addr} {fs : List (Str × V)} {m : Str} {F : Prop} (h1 : H p = some (.ins C dx fs)) (l : fs.lookup m = none) (h : F) : ∃ a dx fs, V.ref p = .ref a ∧ H a = some (.ins C dx fs) ∧ fs.lookup m = none ∧ F := ⟨_, _, _, rfl, h1, l, h⟩
theorem r_tmeth {σ : St} {H : Hp} {Q : VK} {C : Addr} {m : Str} {sp : Sp} {dvs : List V} {E : XK} {ta : TE} {t : TA} (h : ta σ H fun x H1 => ∃ a dx fs, x = .ref a ∧ H1 a = some (.ins C dx fs) ∧ fs.lookup m = none ∧ t σ H1 fun vs H2 => sp (x :: (vs ++ dvs)) H2 Q E) : tMeth C m sp dvs E ta t σ H Q := h
theorem r_tmake {σ : St} {H : Hp} {Q : VK} {C : Addr} {sp : Sp} {dvs : List V} {E : XK} {t : TA} (h : t σ H fun vs H1 => ∀ x dx, H1 x = none → H1 dx = none → dx ≠ x → sp (.ref x :: (vs ++ dvs)) (upd (upd H1 dx (.own x)) x (.ins C dx [])) (fun v H2 => v = .non ∧ Q (.ref x) H2) E) : tMake C sp dvs E t σ H Q := h
theorem r_inc {σ : St} {H : Hp} {p : Addr} {xs : List V} {j : Nat} {z : Int} {K : PySem.W.Frag} {R : Hp → Prop} (h1 : H p = some (.lst xs)) (h2 : xs[j]? = some (.int z)) (h : R (upd H p (.lst (xs.set j (.int (z + 1)))))) :
    rGetN K (.ref p) (.int j) H fun x H3 => tC (.int 1) σ H3 fun y H4 => ipI (fun i j => i + j) x y H4 fun z H5 => rSetL (.ref p) (.int j) z H5 R :=
  ⟨p, xs, j, _, rfl, rfl, SqL.of h1, h2, _, _, rfl, rfl, r_setl h1 (by
    have hj := (List.getElem?_eq_some_iff.mp h2).1
    unfold ixN
    first | (rw [if_pos (by omega : (0 : Int) ≤ (j : Int))]; simp [hj]) | simp [hj] | (split <;> simp_all)) h⟩
theorem atI0 {xs : List V} {v : V} (h : xs[0]? = some v) : atI xs 0 = some v := atI_nat (j := 0) h
theorem atI1 {xs : List V} {v : V} (h : xs[1]? = some v) : atI xs 1 = some v := atI_nat (j := 1) h
theorem rem_j : ∀ {l : List Nat} {s : Nat}, s ∈ l → ∃ j : Nat, l[j]? = some s ∧ (∀ m, m < j → l[m]? ≠ some s) ∧ l.eraseIdx j = l.erase s
  | a :: r, s, h => by
    by_cases e : a = s
    · subst e
      exact ⟨0, rfl, fun m hm => absurd hm (Nat.not_lt_zero m), by simp⟩
    · obtain ⟨j, h1, h2, h3⟩ := rem_j (l := r) (s := s) ((List.mem_cons.mp h).resolve_left fun z => e z.symm)
      refine ⟨j + 1, h1, fun m hm => ?_, ?_⟩
      · cases m with
        | zero => intro z; exact e (Option.some.inj z)
        | succ m => exact h2 m (by omega)
      · rw [List.erase_cons_tail (by simp [e])]
        show a :: r.eraseIdx j = _
        rw [h3]
theorem r_rem {H : Hp} {Q : VK} {p : Addr} {l : List Nat} {s : Nat} (h : H p = some (.lst (iv l))) (hs : s ∈ l) (k : Q .non (upd H p (.lst (iv (l.erase s))))) : rRemI (.ref p) [.int s] H Q := by
  obtain ⟨j, h1, h2, h3⟩ := rem_j hs
  refine ⟨p, ci l, s, j, rfl, rfl, h, ci_get h1, fun m hm z => h2 m hm ?_, ?_⟩
  · unfold ci at z
    rw [List.getElem?_map] at z
    cases e : l[m]? with
    | none => rw [e] at z; cases z
    | some x =>
      rw [e] at z
      have z' : (x : Int) = s := Option.some.inj z
      congr 1; omega
  · have e : (ci l).eraseIdx j = ci (l.erase s) := by rw [← h3]; exact map_eraseIdx _ _ _
    rw [e]; exact k
theorem iv_set (l : List Nat) (i x : Nat) : (iv l).set i (V.int x) = iv (l.set i x) := by simp [iv, ci, List.map_set]
theorem iv_app (l : List Nat) (x : Nat) : iv l ++ [V.int x] = iv (l ++ [x]) := by simp [iv, ci]
theorem r_dput {D : Ends} {σ : St} {H : Hp} {td ty tv : TE} (h : tv σ H fun v H1 => td σ H1 fun x H2 => ty σ H2 fun y H3 => ∃ a H4, x = .ref a ∧ DPut H3 a y v H4 ∧ D.nx σ H4) : sDPut td ty tv D σ H := h
theorem r_dget {σ : St} {H : Hp} {Q : VK} {td ty : TE} (h : td σ H fun x H1 => ty σ H1 fun y H2 => ∃ a v, x = .ref a ∧ DGet H2 a y (some v) ∧ Q v H2) : tDGet td ty σ H Q := h
theorem r_dpop {σ : St} {H : Hp} {Q : VK} {td ty : TE} (h : td σ H fun x H1 => ∃ a, x = .ref a ∧ IsD H1 a ∧ ty σ H1 fun y H2 => ∃ kvs k v, H2 a = some (.dK kvs) ∧ y = kV k ∧ valV kvs k = some v ∧ Q v (upd H2 a (.dK (dropK kvs k)))) : tDPop1 td ty σ H Q := h
theorem ne_kind {H : Hp} {a b : Addr} {o u : HO} (h1 : H a = some o) (h2 : H b = some u) (h : o ≠ u) : a ≠ b := fun e => by subst e; rw [h1] at h2; exact h (Option.some.inj h2)
theorem SlAt.nes {C : Addr} {H : Hp} {p dx lo la lt lh : Addr} {m : SM} (x : SlAt C H p dx lo la lt lh m) : p ≠ lo ∧ p ≠ la ∧ p ≠ lt ∧ p ≠ lh ∧ lo ≠ lh ∧ la ≠ lh ∧ lt ≠ lh :=
  ⟨ne_kind x.ins x.o (fun z => by cases z), ne_kind x.ins x.a (fun z => by cases z), ne_kind x.ins x.t (fun z => by cases z), ne_kind x.ins x.d (fun z => by cases z), ne_kind x.o x.d (fun z => by cases z), ne_kind x.a x.d (fun z => by cases z), ne_kind x.t x.d (fun z => by cases z)⟩
theorem r_yes {σ : St} {H : Hp} {QB : Bool → Hp → Prop} (h : QB true H) : tYes σ H QB := h
theorem r_sfld {D : Ends} {σ : St} {H : Hp} {K : PySem.W.Frag} {ta tv : TE} {f : Str} (h : tv σ H fun y H1 => ta σ H1 fun x H2 => ∃ a C dx fs, x = .ref a ∧ H2 a = some (.ins C dx fs) ∧ Cls K C ∧ NoAttr K C f ∧ fs.length < 1000 ∧ D.nx σ (upd H2 a (.ins C dx (putF f y fs)))) : sFld K ta tv f D σ H := h
theorem putF_lt {fs : List (Str × V)} {f : Str} {y : V} {k : Nat} (h : fs.length < k) : (putF f y fs).length < k + 1 := by
  induction fs generalizing k with
  | nil => show 1 < k + 1; simp at h; omega
  | cons a r ih =>
    obtain ⟨g, x⟩ := a
    show (if g = f then (g, y) :: r else (g, x) :: putF f y r).length < k + 1
    split
    · simp at h ⊢; omega
    · have := ih (k := k - 1) (by simp at h; omega)
      simp at h ⊢; omega
theorem r_sf {H : Hp} {K : PySem.W.Frag} {p C dx : Addr} {fs : List (Str × V)} {f : Str} {y : V} {R : Hp → Prop} (h1 : H p = some (.ins C dx fs)) (c : Cls K C) (n : NoAttr K C f) (l : fs.length < 1000) (h : R (upd H p (.ins C dx (putF f y fs)))) :
    ∃ a C dx fs, V.ref p = .ref a ∧ H a = some (.ins C dx fs) ∧ Cls K C ∧ NoAttr K C f ∧ fs.length < 1000 ∧ R (upd H a (.ins C dx (putF f y fs))) := ⟨_, _, _, _, rfl, h1, c, n, l, h⟩
/-- a list of pairs of ints -/
def Prs (H : Hp) (xs : List V) (ps : List (Int × Int)) : Prop := xs.length = ps.length ∧ ∀ (i : Nat) (p : Int × Int), ps[i]? = some p → ∃ a, xs[i]? = some (.ref a) ∧ H a = some (.tup [.int p.1, .int p.2])
theorem Prs.out {F : Addr → Prop} {H H' : Hp} {xs : List V} {ps : List (Int × Int)} (h : Prs H xs ps) (e : Out F H H') (n : ∀ a ys, H a = some (.tup ys) → ¬ F a) : Prs H' xs ps := ⟨h.1, fun i p q => by
  obtain ⟨a, h1, h2⟩ := h.2 i p q
  exact ⟨a, h1, e.tup (n _ _ h2) h2⟩⟩
theorem Prs.at {H : Hp} {xs : List V} {ps : List (Int × Int)} (h : Prs H xs ps) {i : Nat} {x : V} (e : xs[i]? = some x) : ∃ a p, x = .ref a ∧ ps[i]? = some p ∧ H a = some (.tup [.int p.1, .int p.2]) := by
  have hi : i < ps.length := by rw [← h.1]; exact (List.getElem?_eq_some_iff.mp e).1
  obtain ⟨a, h1, h2⟩ := h.2 i _ (List.getElem?_eq_getElem hi)
  rw [h1] at e
  exact ⟨a, _, (Option.some.inj e).symm, List.getElem?_eq_getElem hi, h2⟩
theorem Prs.snoc {H : Hp} {xs : List V} {ps : List (Int × Int)} (h : Prs H xs ps) {a : Addr} {p : Int × Int} (e : H a = some (.tup [.int p.1, .int p.2])) : Prs H (xs ++ [.ref a]) (ps ++ [p]) := by
  refine ⟨by simp [h.1], fun i q hq => ?_⟩
  by_cases hi : i < ps.length
  · rw [List.getElem?_append_left hi] at hq
    obtain ⟨b, h1, h2⟩ := h.2 i q hq
    exact ⟨b, by rw [List.getElem?_append_left (by rw [h.1]; exact hi)]; exact h1, h2⟩
  · have hi2 : i = ps.length := by
      have := (List.getElem?_eq_some_iff.mp hq).1
      simp at this
      omega
    subst hi2
    rw [List.getElem?_append_right (Nat.le_refl _)] at hq
    simp at hq
    subst hq
    exact ⟨a, by rw [← h.1, List.getElem?_append_right (Nat.le_refl _)]; simp, e⟩
def SM.liveH (m : SM) : List (Int × Int) := m.ages.map fun (s : Nat) => ((s : Int), m.gen s)
def SM.has (m : SM) (a b : Int) : Bool := decide (a ∈ ci m.ages) && decide (b = m.gen a.toNat)
local macro_rules | `(tactic| walk_at "rd1") => `(tactic| first
  | ((with_reducible show ∃ (a : Addr) (C : Addr) (dx : Addr) (fs : List (Str × V)) (v : V), V.ref _ = V.ref a ∧ _); refine r_attr (by walk_at "hp") (by assumption) (by assumption) (by rfl) ?_)
  | ((with_reducible show ∃ (a : Addr) (dx : Addr) (fs : List (Str × V)), V.ref _ = V.ref a ∧ _); refine r_meth (by walk_at "hp") (by rfl) ?_)
  | (with_reducible refine r_augS ?_) | (with_reducible refine r_sfld ?_) | (with_reducible refine r_tmeth ?_) | (with_reducible refine r_tmake ?_) | (with_reducible refine r_yes ?_) | (with_reducible refine r_dput ?_) | (with_reducible refine r_dget ?_) | (with_reducible refine r_dpop ?_)
  | ((with_reducible show ∃ (a : Addr) (C : Addr) (dx : Addr) (fs : List (Str × V)), V.ref _ = V.ref a ∧ _); refine r_sf (by walk_at "hp") (by assumption) (by assumption) (Nat.lt_of_lt_of_le (by repeat' first | apply putF_lt | exact Nat.lt_succ_self _) (Nat.le_of_ble_eq_true rfl)) ?_))

/-! ### a slot map among a law's own lists X -/
structure Wd (C : Addr) (Tb : List (Addr × Str)) (H1 H : Hp) (X : Addr → Prop) (sl : Addr) (m : SM) (F : Addr → Prop) : Prop where
  s : Sl C H sl m F
  tb : LamX.Tabs Tb H
  o : Out X H1 H
  f : ∀ b, F b → New H1 b ∧ ¬ X b
  x : ∀ b, X b → ∃ xs, H b = some (.lst xs)
section
variable {C sl : Addr} {Tb : List (Addr × Str)} {H1 H H' : Hp} {X F F' : Addr → Prop} {m : SM}
theorem Wd.read (w : Wd C Tb H1 H X sl m F) (o : Out Nil H H') (t : LamX.Tabs Tb H') : Wd C Tb H1 H' X sl m F :=
  ⟨w.s.nil o, t, w.o.nil o, w.f, fun b hb => by obtain ⟨xs, e⟩ := w.x b hb; exact ⟨xs, o.lst (fun z => z) e⟩⟩
theorem Wd.put (w : Wd C Tb H1 H X sl m F) {b : Addr} {ys : List V} (hb : X b) : Wd C Tb H1 (upd H b (.lst ys)) X sl m F := by
  obtain ⟨xs, e⟩ := w.x b hb
  refine ⟨w.s.out (G := X) ((Out.refl H).upd (.inl hb)) fun c z y => (w.f c y).2 z, tabs_put w.tb e trivial, w.o.upd (.inl hb), w.f, fun c hc => ?_⟩
  by_cases z : c = b
  · subst z; exact ⟨_, upd_same⟩
  · rw [upd_ne z]; exact w.x c hc
theorem Wd.draw (w : Wd C Tb H1 H X sl m F) {p : Addr} (hp : X p) (o : Off p H H') (s : Src H' p) : Wd C Tb H1 H' X sl m F := by
  obtain ⟨xs, e⟩ := w.x p hp
  refine ⟨w.s.out (G := fun b => b = p) (.kp o.kp) fun c z y => (w.f c y).2 (by subst z; exact hp), tabs_keep w.tb fun b u q n => ?_, w.o.trans (.kp o.kp) fun c z => .inl (by subst z; exact hp), w.f, fun c hc => ?_⟩
  · rw [o b (fun z => by subst z; rw [e] at q; cases q; exact n trivial)]; exact q
  · by_cases z : c = p
    · subst z; obtain ⟨_, _, _, h⟩ := s; exact ⟨_, h⟩
    · rw [o c z]; exact w.x c hc
theorem Wd.nx (w : Wd C Tb H1 H X sl m F) {b : Addr} (hb : X b) : ¬ F b := fun z => (w.f b z).2 hb
theorem Wd.deed (w : Wd C Tb H1 H X sl m F) {m' : SM} (S : Sl C H' sl m' F') (g : ∀ b, F' b → F b ∨ New H b) (o : Out F H H') (t : LamX.Tabs Tb H') : Wd C Tb H1 H' X sl m' F' := by
  have nX : ∀ b, New H b → ¬ X b := fun b n hb => by
    obtain ⟨xs, e⟩ := w.x b hb
    obtain ⟨_, q⟩ := n _ e
    cases q
  refine ⟨S, t, w.o.trans o fun c z => .inr (w.f c z).1, fun b hb => ?_, fun b hb => ?_⟩
  · rcases g b hb with z | z
    · exact w.f b z
    · exact ⟨(w.o.new z).resolve_left (nX b z), nX b z⟩
  · obtain ⟨xs, e⟩ := w.x b hb
    exact ⟨xs, o.lst (w.nx hb) e⟩
theorem Wd.src (w : Wd C Tb H1 H X sl m F) {p : Addr} (hp : X p) (h : Src H p) (o : Out F H H') : Src H' p := o.src (w.nx hp) h
theorem Prs.deed {xs : List V} {ps : List (Int × Int)} (h : Prs H xs ps) (w : Wd C Tb H1 H X sl m F) (o : Out F H H') : Prs H' xs ps := h.out o fun _ _ e => w.s.ntup e
theorem Prs.read {xs : List V} {ps : List (Int × Int)} (h : Prs H xs ps) (o : Out Nil H H') : Prs H' xs ps := h.out o fun _ _ _ z => z
theorem Prs.put {xs ys : List V} {ps : List (Int × Int)} {b : Addr} (h : Prs H xs ps) {zs : List V} (hb : H b = some (.lst zs)) : Prs (upd H b (.lst ys)) xs ps := h.out (F := fun c => c = b) ((Out.refl H).upd (.inl rfl)) fun a zs' e z => by
  subst z; rw [hb] at e; cases e
theorem Prs.kp {xs : List V} {ps : List (Int × Int)} {p : Addr} (h : Prs H xs ps) (o : Off p H H') (s : Src H p) : Prs H' xs ps := h.out (F := fun c => c = p) (.kp o.kp) fun a zs' e z => by
  subst z; obtain ⟨_, _, _, q⟩ := s; rw [q] at e; cases e
end
section
variable {K : PySem.W.Frag} {σ : St} {H : Hp} {Q : VK} {g : TG} {tt : TT} {te : TE} {vs : List Nat}
theorem filtP_more {ps : List (Int × Int)} {i : Nat} {p : Int × Int} (f : Int × Int → Bool) (v : Int × Int → V) (h : ps[i]? = some p) : ((ps.take (i + 1)).filter f).map v = if f p then ((ps.take i).filter f).map v ++ [v p] else ((ps.take i).filter f).map v := by
  rw [List.take_succ, h, List.filter_append, List.map_append]
  by_cases c : f p = true <;> simp [c]
/-- a comprehension over a list of pairs that changes nothing -/
theorem lc_pureP {a : Addr} {xs : List V} {ps : List (Int × Int)} (f : Int × Int → Bool) (v : Int × Int → V) (hx : SqL K H a xs) (hp : Prs H xs ps) (hn : ps.length ≤ 1000000)
    (hs : ∀ D acc (i : Nat) t p (N : Hp → Prop), H D = none → ps[i]? = some p → upd H D (.lst acc) t = some (.tup [.int p.1, .int p.2]) → acc.length < sizeLine → (f p = true → N (upd H D (.lst (acc ++ [v p])))) → (f p = false → N (upd H D (.lst acc))) →
      g (.ref t) (wipe σ vs) (upd H D (.lst acc)) fun σ2 H2 => wipe σ2 vs = wipe σ vs ∧ tt σ2 H2 fun b H3 => if b = true then te σ2 H3 fun y H4 => ∃ a, H4 D = some (.lst a) ∧ a.length < sizeLine ∧ N (upd H4 D (.lst (a ++ [y]))) else N H3)
    (hd : ∀ D, H D = none → Q (.ref D) (upd H D (.lst ((ps.filter f).map v)))) : LcLoop (Itl K a) g tt te vs σ H Q := by
  intro D hD
  refine lc_list (K := K) (a := a) (xs := xs) (fun i H' => H' = upd H D (.lst (((ps.take i).filter f).map v))) rfl (fun i H' _ e => ?_) (fun i x H' hi e => ?_) (fun H' e => ?_)
  · subst e
    exact Same.seq (Same.upd (Same.refl H) hD) hx
  · subst e
    obtain ⟨t, p, rfl, hpi, ht⟩ := hp.at hi
    refine hs D _ i t p _ hD hpi (by rw [upd_ne (ne_of_none ht hD)]; exact ht) ?_ (fun h => ?_) (fun h => ?_)
    · have h1 := List.length_filter_le f (ps.take i)
      rw [List.length_map]
      rw [List.length_take] at h1
      exact Nat.lt_of_le_of_lt (Nat.le_trans h1 (Nat.le_trans (Nat.min_le_right _ _) hn)) (by decide)
    · rw [filtP_more f v hpi, if_pos h]
    · rw [filtP_more f v hpi, if_neg (by rw [h]; exact Bool.false_ne_true)]
  · subst e
    rw [hp.1, List.take_length]
    exact hd D hD
end
theorem sorted_range {n : Nat} {ms : List Int} (hp : ms.Perm (ci (List.range n))) (hs : ms.Pairwise (· ≤ ·)) : ms = ci (List.range n) := by
  refine List.Perm.eq_of_pairwise (le := fun a b : Int => decide (a ≤ b)) (fun a b _ _ h1 h2 => ?_) (hs.imp (by simp)) ?_ hp
  · simp only [decide_eq_true_eq] at h1 h2; omega
  · exact List.Pairwise.map _ (fun a b h => by simp; omega) (List.pairwise_lt_range (n := n))
theorem r_par3 {D : Ends} {σ : St} {H : Hp} {tA : TA} {i j l : Nat} (h : tA σ H fun vs H1 => ∃ u v w, vs = [u, v, w] ∧ D.nx (((σ.set i (some u)).set j (some v)).set l (some w)) H1) : tPar3 i j l tA D σ H := h
theorem r_par33 {x y z : V} {R : V → V → V → Prop} (h : R x y z) : ∃ u v w, [x, y, z] = [u, v, w] ∧ R u v w := ⟨_, _, _, rfl, h⟩
theorem r_lenO {C : Addr} {E : XK} {H : Hp} {Q : VK} {p : Addr} {m : SM} {F : Addr → Prop} (S : Sl C H p m F) (h : Q (.int (m.live.length : Int)) H) : rLenOwn C (fun vs H Q _ => ∃ (p : Addr) (m : SM) (F : Addr → Prop), vs = [.ref p] ∧ Sl C H p m F ∧ Q (.int (m.live.length : Int)) H) E [.ref p] H Q := by
  obtain ⟨dx, lo, la, lt, lh, x, f⟩ := id S
  have h1 := x.ok.len
  have h2 := x.ok.n64
  exact ⟨p, dx, _, rfl, x.ins, p, m, F, rfl, S, _, rfl, by omega, by omega, h⟩
theorem r_lstRg1 {σ : St} {H : Hp} {Q : VK} {ta : TE} (h : ta σ H fun x H1 => ∃ n, x = .int n ∧ RgOk 0 n ∧ ∀ q, H1 q = none → Q (.ref q) (upd H1 q (.lst (rgV 0 n)))) : tLstRg (tRg1 ta) σ H Q := h
theorem Out.ins {F : Addr → Prop} {H H' : Hp} {a C dx : Addr} {fs : List (Str × V)} (e : Out F H H') (n : ¬ F a) (h : H a = some (.ins C dx fs)) : H' a = some (.ins C dx fs) := e _ _ n h fun _ z => by cases z
local macro_rules | `(tactic| walk_at "rd1") => `(tactic| first | (with_reducible refine r_lstRg1 ?_) | (with_reducible refine r_par3 ?_) | (with_reducible refine r_par33 ?_))

/-! ### x in xs, items pairs of ints -/
theorem hu65 {A : Around} {k : Nat} (hr : Room k A) : A.units + 65 < cLine := by have := hr.un; omega
theorem inDK {X : Cx} {K : PySem.W.Frag} (hu : X.A.units + 65 < cLine) (h : X.K = K := by rfl) : OpR X (compareOp .In) (rInD K) := h ▸ op_inD hu
def pd (p : Int × Int) : PyData := .tuple [.int p.1, .int p.2]
theorem eqv_pd (p q : Int × Int) : PyData.eqv (pd p) (pd q) = decide (p = q) := by
  obtain ⟨a, b⟩ := p
  obtain ⟨c, d⟩ := q
  show (PyData.eqv (.int a) (.int c) && (PyData.eqv (.int b) (.int d) && true)) = _
  show ((a == c) && ((b == d) && true)) = _
  by_cases h1 : a = c <;> by_cases h2 : b = d <;> simp [h1, h2]
theorem any_pd (ps : List (Int × Int)) (p : Int × Int) : ((ps.map pd).any fun z => PyData.eqv z (pd p)) = decide (p ∈ ps) := by
  induction ps with
  | nil => simp
  | cons a r ih =>
    rw [List.map_cons, List.any_cons, ih, eqv_pd]
    by_cases h : a = p
    · subst h; simp
    · have h' : ¬ p = a := fun e => h e.symm
      simp [h, h']
theorem shaped_pd (p : Int × Int) : SeqAt.shaped (pd p) = true := rfl
theorem lay_pds : ∀ ps : List (Int × Int), PyData.canLayAll0 (ps.map pd) = true
  | [] => rfl
  | a :: r => by
    have ih := lay_pds r
    simp [PyData.canLayAll0, PyData.canLay0, pd, ih]
theorem depth_pds : ∀ ps : List (Int × Int), PyData.depthAll (ps.map pd) ≤ 1
  | [] => Nat.zero_le _
  | a :: r => by
    have ih := depth_pds r
    simp [PyData.depthAll, PyData.depth, pd]
    omega
theorem shaped_pds (ps : List (Int × Int)) : SeqAt.shaped (.list (ps.map pd)) = true := by
  have h1 := lay_pds ps
  have h2 := depth_pds ps
  simp [SeqAt.shaped, PyData.canLay0, PyData.depth, h1]
  omega
theorem dp_pair {K : PySem.W.Frag} {H : Hp} {t : Addr} {p : Int × Int} (h : H t = some (.tup [.int p.1, .int p.2])) : Dp K H (.ref t) (pd p) := .tup (SqT.of h) (.cons (.int _) (.cons (.int _) .nil))
theorem dp_pairs {K : PySem.W.Frag} {H : Hp} : ∀ {xs : List V} {ps : List (Int × Int)}, Prs H xs ps → DpAll K H xs (ps.map pd)
  | [], [], _ => .nil
  | [], _ :: _, h => by cases h.1
  | _ :: _, [], h => by cases h.1
  | x :: xs, p :: ps, h => by
    obtain ⟨a, h1, h2⟩ := h.2 0 p rfl
    obtain rfl : x = .ref a := Option.some.inj h1
    exact .cons (dp_pair h2) (dp_pairs ⟨Nat.succ.inj h.1, fun i q hq => h.2 (i + 1) q hq⟩)
theorem r_inP {K : PySem.W.Frag} {H : Hp} {Q : VK} {t l : Addr} {p : Int × Int} {xs : List V} {ps : List (Int × Int)} (h1 : H t = some (.tup [.int p.1, .int p.2])) (h2 : SqL K H l xs) (h3 : Prs H xs ps) (h : Q (.bl (decide (p ∈ ps))) H) : rInD K (.ref t) (.ref l) H Q :=
  ⟨pd p, ps.map pd, dp_pair h1, .lst h2 (dp_pairs h3), shaped_pd p, shaped_pds ps, by rw [any_pd]; exact h⟩
theorem fnIn_of {K : PySem.W.Frag} {x qual : Str} {st : Stmt} {f : Addr} {fd : FuncData} (F : Fun K x qual st f fd) : PySem.W.fnIn K f = true := by
  obtain ⟨oc, od, kV, doc, pm, an, cdv, ct, osl, rfl, lk, hcd⟩ := F.ex
  unfold PySem.W.fnIn
  rw [lk]

/-! ### Sep: the heap as a list of things that stand apart -/
mutual
inductive Dr (H : Hp) (Φ : Addr → Prop) : V → PyData → Prop
  | non : Dr H Φ .non .none
  | bl (b : Bool) : Dr H Φ (.bl b) (.bool b)
  | int (i : Int) : Dr H Φ (.int i) (.int i)
  | str (x : Str) : Dr H Φ (.str x) (.str x)
  | lst {a : Addr} {xs : List V} {ds : List PyData} : H a = some (.lst xs) → Φ a → DrAll H Φ xs ds → Dr H Φ (.ref a) (.list ds)
  | tup {a : Addr} {xs : List V} {ds : List PyData} : H a = some (.tup xs) → Φ a → DrAll H Φ xs ds → Dr H Φ (.ref a) (.tuple ds)
inductive DrAll (H : Hp) (Φ : Addr → Prop) : List V → List PyData → Prop
  | nil : DrAll H Φ [] []
  | cons {v : V} {vs : List V} {d : PyData} {ds : List PyData} : Dr H Φ v d → DrAll H Φ vs ds → DrAll H Φ (v :: vs) (d :: ds)
end
mutual
theorem Dr.keep {H H' : Hp} {Φ Φ' : Addr → Prop} (k : ∀ a o, Φ a → H a = some o → H' a = some o) (l : ∀ a, Φ a → Φ' a) : ∀ {v : V} {d : PyData}, Dr H Φ v d → Dr H' Φ' v d
  | _, _, .non => .non
  | _, _, .bl b => .bl b
  | _, _, .int i => .int i
  | _, _, .str x => .str x
  | _, _, .lst h1 h2 h3 => .lst (k _ _ h2 h1) (l _ h2) (DrAll.keep k l h3)
  | _, _, .tup h1 h2 h3 => .tup (k _ _ h2 h1) (l _ h2) (DrAll.keep k l h3)
theorem DrAll.keep {H H' : Hp} {Φ Φ' : Addr → Prop} (k : ∀ a o, Φ a → H a = some o → H' a = some o) (l : ∀ a, Φ a → Φ' a) : ∀ {v : List V} {d : List PyData}, DrAll H Φ v d → DrAll H' Φ' v d
  | _, _, .nil => .nil
  | _, _, .cons h1 h2 => .cons (Dr.keep k l h1) (DrAll.keep k l h2)
end
mutual
theorem Dr.dp {K : PySem.W.Frag} {H : Hp} {Φ : Addr → Prop} : ∀ {v : V} {d : PyData}, Dr H Φ v d → Dp K H v d
  | _, _, .non => .non
  | _, _, .bl b => .bl b
  | _, _, .int i => .int i
  | _, _, .str x => .str x
  | _, _, .lst h1 _ h3 => .lst (SqL.of h1) (DrAll.dp h3)
  | _, _, .tup h1 _ h3 => .tup (SqT.of h1) (DrAll.dp h3)
theorem DrAll.dp {K : PySem.W.Frag} {H : Hp} {Φ : Addr → Prop} : ∀ {v : List V} {d : List PyData}, DrAll H Φ v d → DpAll K H v d
  | _, _, .nil => .nil
  | _, _, .cons h1 h2 => .cons (Dr.dp h1) (DrAll.dp h2)
end
theorem DrAll.at {H : Hp} {Φ : Addr → Prop} : ∀ {vs : List V} {ds : List PyData} {i : Nat} {v : V} {d : PyData}, DrAll H Φ vs ds → vs[i]? = some v → ds[i]? = some d → Dr H Φ v d
  | _, _, _, _, _, .nil, h, _ => by simp at h
  | _, _, 0, _, _, .cons h1 _, h, g => by simp at h g; subst h g; exact h1
  | _, _, i + 1, _, _, .cons _ h2, h, g => h2.at (i := i) (by simpa using h) (by simpa using g)
theorem DrAll.len {H : Hp} {Φ : Addr → Prop} : ∀ {vs : List V} {ds : List PyData}, DrAll H Φ vs ds → vs.length = ds.length
  | _, _, .nil => rfl
  | _, _, .cons _ h2 => by simp [h2.len]
theorem DrAll.app {H : Hp} {Φ : Addr → Prop} : ∀ {vs : List V} {ds : List PyData} {us : List V} {es : List PyData}, DrAll H Φ vs ds → DrAll H Φ us es → DrAll H Φ (vs ++ us) (ds ++ es)
  | _, _, _, _, .nil, h => h
  | _, _, _, _, .cons h1 h2, h => .cons h1 (h2.app h)
theorem DrAll.ints {H : Hp} {Φ : Addr → Prop} : ∀ ns : List Int, DrAll H Φ (ns.map V.int) (ns.map PyData.int)
  | [] => .nil
  | i :: r => .cons (.int i) (DrAll.ints r)
theorem DrAll.split {H : Hp} {Φ : Addr → Prop} : ∀ {xs ys : List V} {ds : List PyData}, DrAll H Φ (xs ++ ys) ds → ∃ d1 d2, ds = d1 ++ d2 ∧ DrAll H Φ xs d1 ∧ DrAll H Φ ys d2
  | [], _, ds, h => ⟨[], ds, rfl, .nil, h⟩
  | x :: xs, ys, _, .cons h1 h2 => by
    obtain ⟨d1, d2, e, a, b⟩ := DrAll.split h2
    exact ⟨_ :: d1, d2, by rw [e]; rfl, .cons h1 a, b⟩
inductive R where
  | cell (p : Addr) (o : HO)
  | sl (p : Addr) (m : SM)
  | src (s : Addr)
  | ro (a : Addr) (xs : List V)
  | tup (p : Addr) (xs : List V)
  | dat (v : V) (d : PyData)
  | dats (vs : List V) (ds : List PyData)
def None_ (F : Addr → Prop) : Prop := ∀ a, ¬ F a
def R.at (C : Addr) (K : PySem.W.Frag) (H : Hp) (Φ F : Addr → Prop) : R → Prop
  | .cell p o => H p = some o ∧ Plain o ∧ ∀ a, F a ↔ a = p
  | .sl p m => Sl C H p m F
  | .src s => Src H s ∧ ∀ a, F a ↔ a = s
  | .ro a xs => (Rd H a (.lst xs) ∧ ∀ b, F b ↔ b = a) ∨ ((∀ H, SqL K H a xs) ∧ ∀ b, ¬ F b)
  | .tup p xs => H p = some (.tup xs) ∧ Φ p ∧ ∀ b, ¬ F b
  | .dat v d => Dr H Φ v d ∧ ∀ b, ¬ F b
  | .dats vs ds => DrAll H Φ vs ds ∧ ∀ b, ¬ F b
def Pl (H : Hp) (a : Addr) : Prop := ∃ o, H a = some o ∧ Plain o
theorem Pl.old {H : Hp} {a : Addr} (h : Pl H a) (n : New H a) : False := by
  obtain ⟨o, h1, h2⟩ := h
  obtain ⟨ps, rfl⟩ := n o h1
  exact h2
theorem Pl.nt {o : HO} (h : Plain o) : ∀ ps, o ≠ HO.tbl ps := fun ps e => by subst e; exact h
theorem R.keep {C : Addr} {K : PySem.W.Frag} {H H' : Hp} {Φ Φ' F : Addr → Prop} {r : R} (h : r.at C K H Φ F) (k1 : ∀ a o, F a → H a = some o → H' a = some o) (k2 : ∀ a o, Φ a → H a = some o → H' a = some o) (l : ∀ a, Φ a → Φ' a) : r.at C K H' Φ' F := by
  cases r with
  | cell p o => exact ⟨k1 _ _ ((h.2.2 p).mpr rfl) h.1, h.2⟩
  | sl p m => exact Sl.out (G := fun b => ¬ F b) h (fun b o n e _ => k1 b o (Classical.not_not.mp n) e) fun b n => n
  | src s =>
    obtain ⟨⟨a, b, c, e⟩, f⟩ := h
    exact ⟨⟨a, b, c, k1 _ _ ((f s).mpr rfl) e⟩, f⟩
  | ro a xs =>
    rcases h with ⟨h, f⟩ | h
    · refine .inl ⟨?_, f⟩
      rcases h with h | ⟨o, h⟩
      · exact .inl (k1 _ _ ((f a).mpr rfl) h)
      · exact .inr ⟨o, k1 _ _ ((f a).mpr rfl) h⟩
    · exact .inr h
  | tup p xs => exact ⟨k2 _ _ h.2.1 h.1, l _ h.2.1, h.2.2⟩
  | dat v d => exact ⟨h.1.keep k2 l, h.2⟩
  | dats v d => exact ⟨h.1.keep k2 l, h.2⟩
theorem R.dom {C : Addr} {K : PySem.W.Frag} {H : Hp} {Φ F : Addr → Prop} {r : R} (h : r.at C K H Φ F) {a : Addr} (f : F a) : Pl H a := by
  cases r with
  | cell p o => rw [(h.2.2 a).mp f]; exact ⟨o, h.1, h.2.1⟩
  | sl p m =>
    obtain ⟨dx, lo, la, lt, lh, x, g⟩ := h
    rcases (g a).mp f with e | e | e | e | e
    · subst e; exact ⟨_, x.ins, trivial⟩
    · subst e; exact ⟨_, x.o, trivial⟩
    · subst e; exact ⟨_, x.a, trivial⟩
    · subst e; exact ⟨_, x.t, trivial⟩
    · subst e; exact ⟨_, x.d, trivial⟩
  | src s =>
    obtain ⟨⟨_, _, _, e⟩, g⟩ := h
    rw [(g a).mp f]; exact ⟨_, e, trivial⟩
  | ro b xs =>
    rcases h with ⟨h, g⟩ | h
    · rw [(g a).mp f]
      rcases h with h | ⟨o, h⟩
      · exact ⟨_, h, trivial⟩
      · exact ⟨_, h, trivial⟩
    · exact absurd f (h.2 a)
  | tup p xs => exact absurd f (h.2.2 a)
  | dat v d => exact absurd f (h.2 a)
  | dats v d => exact absurd f (h.2 a)
def SepF (C : Addr) (K : PySem.W.Frag) (H : Hp) (Φ : Addr → Prop) : List R → (Addr → Prop) → Prop
  | [], _ => True
  | r :: L, U => ∃ F, r.at C K H Φ F ∧ (∀ a, F a → U a) ∧ SepF C K H Φ L fun a => U a ∧ ¬ F a
inductive Pick : R → List R → List R → Prop
  | here {r : R} {L : List R} : Pick r (r :: L) L
  | there {r x : R} {L L' : List R} : Pick r L L' → Pick r (x :: L) (x :: L')
theorem Pick.mem {r : R} {L L' : List R} (h : Pick r L L') : r ∈ L := by
  induction h with
  | here => exact List.mem_cons_self
  | there _ ih => exact List.mem_cons_of_mem _ ih
inductive Fit : List R → List R → Prop
  | refl {L : List R} : Fit L L
  | nil {L : List R} : Fit [] L
  | pick {r : R} {L L1 rs : List R} : Pick r L L1 → Fit rs L1 → Fit (r :: rs) L
  | drop {x : R} {L rs : List R} : Fit rs L → Fit rs (x :: L)
section
variable {C : Addr} {K : PySem.W.Frag} {Tb : List (Addr × Str)} {H H' : Hp} {Φ Φ' U U' : Addr → Prop} {L L' L1 rs : List R} {r : R}
theorem SepF.mono : ∀ {L : List R} {U U' : Addr → Prop}, SepF C K H Φ L U → (∀ a, U a → U' a) → SepF C K H Φ L U'
  | [], _, _, _, _ => trivial
  | r :: L, U, U', ⟨F, h1, h2, h3⟩, m => ⟨F, h1, fun a f => m a (h2 a f), SepF.mono h3 fun a ⟨u, f⟩ => ⟨m a u, f⟩⟩
theorem SepF.dom : ∀ {L : List R} {U : Addr → Prop}, SepF C K H Φ L U → SepF C K H Φ L fun a => U a ∧ Pl H a
  | [], _, _ => trivial
  | r :: L, U, ⟨F, h1, h2, h3⟩ => ⟨F, h1, fun a f => ⟨h2 a f, R.dom (r := r) h1 f⟩, h3.dom.mono fun a ⟨⟨u, f⟩, p⟩ => ⟨⟨u, p⟩, f⟩⟩
theorem SepF.keep (k2 : ∀ a o, Φ a → H a = some o → H' a = some o) (l : ∀ a, Φ a → Φ' a) : ∀ {L : List R} {U : Addr → Prop}, SepF C K H Φ L U → (∀ a o, U a → H a = some o → H' a = some o) → SepF C K H' Φ' L U
  | [], _, _, _ => trivial
  | r :: L, U, ⟨F, h1, h2, h3⟩, k => ⟨F, R.keep (r := r) h1 (fun a o f => k a o (h2 a f)) k2 l, h2, SepF.keep k2 l h3 fun a o u => k a o u.1⟩
theorem SepF.pick (p : Pick r L L') : ∀ {U : Addr → Prop}, SepF C K H Φ L U → SepF C K H Φ (r :: L') U := by
  induction p with
  | here => exact fun h => h
  | there _ ih =>
    rename_i r x L L'
    rintro U ⟨F, h1, h2, h3⟩
    obtain ⟨G, g1, g2, g3⟩ := ih h3
    exact ⟨G, g1, fun a g => (g2 a g).1, F, h1, fun a f => ⟨h2 a f, fun g => (g2 a g).2 f⟩, g3.mono fun a ⟨⟨u, f⟩, g⟩ => ⟨⟨u, g⟩, f⟩⟩
theorem SepF.fit (p : Fit rs L) : ∀ {U : Addr → Prop}, SepF C K H Φ L U → SepF C K H Φ rs U := by
  induction p with
  | refl => exact fun h => h
  | nil => exact fun _ => trivial
  | pick p _ ih =>
    intro U h
    obtain ⟨F, h1, h2, h3⟩ := h.pick p
    exact ⟨F, h1, h2, ih h3⟩
  | drop _ ih =>
    rintro U ⟨F, h1, h2, h3⟩
    exact ih (h3.mono fun a u => u.1)
theorem SepF.app : ∀ {rs : List R} {U1 U2 U : Addr → Prop}, SepF C K H Φ rs U1 → SepF C K H Φ L U2 → (∀ a, U1 a → U a) → (∀ a, U2 a → U a) → (∀ a, U1 a → U2 a → False) → SepF C K H Φ (rs ++ L) U
  | [], _, _, _, _, h, _, m, _ => h.mono m
  | r :: rs, U1, U2, U, ⟨F, h1, h2, h3⟩, h, m1, m2, d => ⟨F, h1, fun a f => m1 a (h2 a f), SepF.app h3 h (fun a u => ⟨m1 a u.1, u.2⟩) (fun a u => ⟨m2 a u, fun f => d a (h2 a f) u⟩) fun a u v => d a u.1 v⟩
theorem SepF.at (h : SepF C K H Φ L U) (m : r ∈ L) : ∃ F, r.at C K H Φ F ∧ ∀ a, F a → U a := by
  induction L generalizing U with
  | nil => cases m
  | cons x L ih =>
    obtain ⟨F, h1, h2, h3⟩ := h
    rcases List.mem_cons.mp m with e | e
    · subst e; exact ⟨F, h1, h2⟩
    · obtain ⟨G, g1, g2⟩ := ih h3 e
      exact ⟨G, g1, fun a g => (g2 a g).1⟩
structure Sep (C : Addr) (K : PySem.W.Frag) (Tb : List (Addr × Str)) (H : Hp) (L : List R) : Prop where
  ex : ∃ Φ : Addr → Prop, (∀ a, Φ a → Pl H a) ∧ SepF C K H Φ L fun a => ¬ Φ a
  tb : LamX.Tabs Tb H
theorem Sep.fit (S : Sep C K Tb H L) (p : Fit rs L) : Sep C K Tb H rs := by
  obtain ⟨⟨Φ, h1, h2⟩, t⟩ := S
  exact ⟨⟨Φ, h1, h2.fit p⟩, t⟩
theorem Sep.pick (S : Sep C K Tb H L) (p : Pick r L L') : Sep C K Tb H (r :: L') := S.fit (.pick p .refl)
/-- one owned thing changes; new things come -/
theorem Sep.step (S : Sep C K Tb H L) (p : Pick r L L') : ∃ Φ F : Addr → Prop, r.at C K H Φ F ∧ (∀ a, F a → ¬ Φ a) ∧ (∀ a, F a → Pl H a) ∧ (∀ a, Φ a → Pl H a) ∧ LamX.Tabs Tb H ∧
    ∀ (H' : Hp) (Φ' : Addr → Prop) (rs : List R) (U1 : Addr → Prop), Out F H H' → LamX.Tabs Tb H' → (∀ a, Φ a → Φ' a) → (∀ a, Φ' a → Φ a ∨ New H a) → (∀ a, Φ' a → Pl H' a) → SepF C K H' Φ' rs U1 → (∀ a, U1 a → (F a ∨ New H a) ∧ ¬ Φ' a) → Sep C K Tb H' (rs ++ L') := by
  obtain ⟨⟨Φ, h1, h2⟩, t⟩ := S
  obtain ⟨F, g1, g2, g3⟩ := h2.pick p
  refine ⟨Φ, F, g1, g2, fun a f => R.dom (r := r) g1 f, h1, t, fun H' Φ' rs U1 o t' l n d h u => ⟨⟨Φ', d, ?_⟩, t'⟩⟩
  have kΦ : ∀ a w, Φ a → H a = some w → H' a = some w := fun a w f e => o a w (fun z => g2 a z f) e (Pl.nt (by
    obtain ⟨w', e', pw⟩ := h1 a f
    rw [e'] at e; cases e; exact pw))
  have kL := SepF.keep (Φ' := Φ') kΦ l g3.dom fun a w ⟨⟨_, nf⟩, pl⟩ e => o a w nf e (Pl.nt (by
    obtain ⟨w', e', pw⟩ := pl
    rw [e'] at e; cases e; exact pw))
  refine SepF.app h kL (fun a z => (u a z).2) (fun a ⟨⟨z1, z2⟩, z3⟩ w => (n a w).elim z1 z3.old) fun a z ⟨⟨z1, z2⟩, z3⟩ => (u a z).1.elim z2 z3.old
/-- nothing owned changes; new things come -/
theorem Sep.step0 (S : Sep C K Tb H L) : ∃ Φ : Addr → Prop, (∀ a, Φ a → Pl H a) ∧
    ∀ (H' : Hp) (Φ' : Addr → Prop) (rs : List R) (U1 : Addr → Prop), Out Nil H H' → LamX.Tabs Tb H' → (∀ a, Φ a → Φ' a) → (∀ a, Φ' a → Φ a ∨ New H a) → (∀ a, Φ' a → Pl H' a) → SepF C K H' Φ' rs U1 → (∀ a, U1 a → New H a ∧ ¬ Φ' a) → Sep C K Tb H' (rs ++ L) := by
  obtain ⟨⟨Φ, h1, h2⟩, t⟩ := S
  refine ⟨Φ, h1, fun H' Φ' rs U1 o t' l n d h u => ⟨⟨Φ', d, ?_⟩, t'⟩⟩
  have kΦ : ∀ a w, Φ a → H a = some w → H' a = some w := fun a w f e => o a w (fun z => z) e (Pl.nt (by
    obtain ⟨w', e', pw⟩ := h1 a f
    rw [e'] at e; cases e; exact pw))
  have kL := SepF.keep (Φ' := Φ') kΦ l h2.dom fun a w ⟨nf, pl⟩ e => o a w (fun z => z) e (Pl.nt (by
    obtain ⟨w', e', pw⟩ := pl
    rw [e'] at e; cases e; exact pw))
  refine SepF.app h kL (fun a z => (u a z).2) (fun a ⟨z1, z3⟩ w => (n a w).elim z1 z3.old) fun a z ⟨z1, z3⟩ => z3.old (u a z).1
theorem Sep.read (S : Sep C K Tb H L) (o : Out Nil H H') (t : LamX.Tabs Tb H') : Sep C K Tb H' L := by
  obtain ⟨Φ, h1, h⟩ := S.step0
  have pl : ∀ a, Φ a → Pl H' a := fun a f => by
    obtain ⟨w, e, p⟩ := h1 a f
    exact ⟨w, o a w (fun z => z) e (Pl.nt p), p⟩
  exact h H' Φ [] (fun _ => False) o t (fun _ z => z) (fun _ z => .inl z) pl trivial fun _ z => z.elim
theorem Sep.get {p : Addr} {o : HO} (S : Sep C K Tb H L) (m : R.cell p o ∈ L) : H p = some o := by
  obtain ⟨⟨Φ, _, h2⟩, _⟩ := S
  obtain ⟨F, f, _⟩ := h2.at m
  exact f.1
theorem Sep.getT {p : Addr} {xs : List V} (S : Sep C K Tb H L) (m : R.tup p xs ∈ L) : H p = some (.tup xs) := by
  obtain ⟨⟨Φ, _, h2⟩, _⟩ := S
  obtain ⟨F, f, _⟩ := h2.at m
  exact f.1
theorem Sep.getS {p : Addr} (S : Sep C K Tb H L) (m : R.src p ∈ L) : Src H p := by
  obtain ⟨⟨Φ, _, h2⟩, _⟩ := S
  obtain ⟨F, f, _⟩ := h2.at m
  exact f.1
theorem Sep.ro {p : Addr} {xs : List V} (S : Sep C K Tb H L) (m : R.ro p xs ∈ L) : SqL K H p xs := by
  obtain ⟨⟨Φ, _, h2⟩, _⟩ := S
  obtain ⟨F, f, _⟩ := h2.at m
  rcases f with f | f
  · exact .inl f.1
  · exact f.1 H
theorem Sep.slot {p : Addr} {m : SM} (S : Sep C K Tb H L) (h : R.sl p m ∈ L) : ∃ F, Sl C H p m F := by
  obtain ⟨⟨Φ, _, h2⟩, _⟩ := S
  obtain ⟨F, f, _⟩ := h2.at h
  exact ⟨F, f⟩
theorem Sep.ok {p : Addr} {m : SM} (S : Sep C K Tb H L) (h : R.sl p m ∈ L) : m.Ok := by
  obtain ⟨F, f⟩ := S.slot h
  exact f.ok
theorem Sep.new {p : Addr} {o : HO} (S : Sep C K Tb H L) (n : H p = none) (po : Plain o) : Sep C K Tb (upd H p o) (.cell p o :: L) := by
  obtain ⟨Φ, h1, h⟩ := S.step0
  have np : ∀ a, Φ a → a ≠ p := fun a f e => by subst e; obtain ⟨w, q, _⟩ := h1 a f; rw [n] at q; cases q
  refine h _ Φ [.cell p o] (fun a => a = p) ((Out.refl H).fresh n) (tabs_new S.tb n) (fun _ z => z) (fun _ z => .inl z) (fun a f => ?_) ⟨fun a => a = p, ⟨upd_same, po, fun _ => Iff.rfl⟩, fun _ z => z, trivial⟩ fun a e => ?_
  · obtain ⟨w, q, pw⟩ := h1 a f
    exact ⟨w, by rw [upd_ne (np a f)]; exact q, pw⟩
  · subst e; exact ⟨.of n, fun f => np _ f rfl⟩
theorem Sep.newT {p : Addr} {xs : List V} (S : Sep C K Tb H L) (n : H p = none) : Sep C K Tb (upd H p (.tup xs)) (.tup p xs :: L) := by
  obtain ⟨Φ, h1, h⟩ := S.step0
  have np : ∀ a, Φ a → a ≠ p := fun a f e => by subst e; obtain ⟨w, q, _⟩ := h1 a f; rw [n] at q; cases q
  refine h _ (fun a => Φ a ∨ a = p) [.tup p xs] (fun _ => False) ((Out.refl H).fresh n) (tabs_new S.tb n) (fun _ z => .inl z) (fun _ z => z.elim .inl fun e => .inr (by subst e; exact .of n)) (fun a f => ?_) ⟨fun _ => False, ⟨upd_same, .inr rfl, fun _ z => z⟩, fun _ z => z, trivial⟩ fun a e => e.elim
  rcases f with f | rfl
  · obtain ⟨w, q, pw⟩ := h1 a f
    exact ⟨w, by rw [upd_ne (np a f)]; exact q, pw⟩
  · exact ⟨_, upd_same, trivial⟩
theorem Sep.put {p : Addr} {o u : HO} (S : Sep C K Tb H L) (k : Pick (.cell p o) L L') (po : Plain u) : Sep C K Tb (upd H p u) (.cell p u :: L') := by
  obtain ⟨Φ, F, f, h1, h2, h3, t, h⟩ := S.step k
  obtain ⟨e, pl, f⟩ := f
  have fp : F p := (f p).mpr rfl
  refine h _ Φ [.cell p u] F ((Out.refl H).upd (.inl fp)) (tabs_put S.tb e pl) (fun _ z => z) (fun _ z => .inl z) (fun a q => ?_) ⟨F, ⟨upd_same, po, f⟩, fun _ z => z, trivial⟩ fun a z => ⟨.inl z, h1 a z⟩
  obtain ⟨w, q', pw⟩ := h3 a q
  exact ⟨w, by rw [upd_ne (fun z => by subst z; exact h1 _ fp q)]; exact q', pw⟩
/-! what is known of values -/
mutual
inductive Has (fz : Bool) (L : List R) : V → PyData → Prop
  | non : Has fz L .non .none
  | bl (b : Bool) : Has fz L (.bl b) (.bool b)
  | int (i : Int) : Has fz L (.int i) (.int i)
  | str (x : Str) : Has fz L (.str x) (.str x)
  | dat {v : V} {d : PyData} : R.dat v d ∈ L → Has fz L v d
  | item {vs : List V} {ds : List PyData} {i : Nat} {v : V} {d : PyData} : R.dats vs ds ∈ L → vs[i]? = some v → ds[i]? = some d → Has fz L v d
  | tup {p : Addr} {xs : List V} {ds : List PyData} : R.tup p xs ∈ L → HasAll fz L xs ds → Has fz L (.ref p) (.tuple ds)
  | lst {p : Addr} {xs : List V} {ds : List PyData} : fz = false → R.cell p (.lst xs) ∈ L → HasAll fz L xs ds → Has fz L (.ref p) (.list ds)
  | ro {p : Addr} {xs : List V} {ds : List PyData} : fz = false → R.ro p xs ∈ L → HasAll fz L xs ds → Has fz L (.ref p) (.list ds)
inductive HasAll (fz : Bool) (L : List R) : List V → List PyData → Prop
  | nil : HasAll fz L [] []
  | cons {v : V} {vs : List V} {d : PyData} {ds : List PyData} : Has fz L v d → HasAll fz L vs ds → HasAll fz L (v :: vs) (d :: ds)
  | dats {vs : List V} {ds : List PyData} : R.dats vs ds ∈ L → HasAll fz L vs ds
  | ints (ns : List Int) : HasAll fz L (ns.map V.int) (ns.map PyData.int)
  | app {vs us : List V} {ds es : List PyData} : HasAll fz L vs ds → HasAll fz L us es → HasAll fz L (vs ++ us) (ds ++ es)
end
theorem _root_.L2.DpAll.app {K : PySem.W.Frag} {H : Hp} : ∀ {vs : List V} {ds : List PyData} {us : List V} {es : List PyData}, DpAll K H vs ds → DpAll K H us es → DpAll K H (vs ++ us) (ds ++ es)
  | _, _, _, _, .nil, h => h
  | _, _, _, _, .cons h1 h2, h => .cons h1 (h2.app h)
mutual
theorem Sep.dr_ (h2 : SepF C K H Φ L U) : ∀ {v : V} {d : PyData}, Has true L v d → Dr H Φ v d
  | _, _, .non => .non
  | _, _, .bl b => .bl b
  | _, _, .int i => .int i
  | _, _, .str x => .str x
  | _, _, .dat m => by obtain ⟨F, f, _⟩ := h2.at m; exact f.1
  | _, _, .item m a b => by obtain ⟨F, f, _⟩ := h2.at m; exact f.1.at a b
  | _, _, .tup m k => by obtain ⟨F, f, _⟩ := h2.at m; exact .tup f.1 f.2.1 (Sep.drs_ h2 k)
  | _, _, .lst f _ _ => by cases f
  | _, _, .ro f _ _ => by cases f
theorem Sep.drs_ (h2 : SepF C K H Φ L U) : ∀ {v : List V} {d : List PyData}, HasAll true L v d → DrAll H Φ v d
  | _, _, .nil => .nil
  | _, _, .cons a b => .cons (Sep.dr_ h2 a) (Sep.drs_ h2 b)
  | _, _, .dats m => by obtain ⟨F, f, _⟩ := h2.at m; exact f.1
  | _, _, .ints ns => DrAll.ints ns
  | _, _, .app a b => (Sep.drs_ h2 a).app (Sep.drs_ h2 b)
end
mutual
theorem Sep.dp {fz : Bool} (S : Sep C K Tb H L) : ∀ {v : V} {d : PyData}, Has fz L v d → Dp K H v d
  | _, _, .non => .non
  | _, _, .bl b => .bl b
  | _, _, .int i => .int i
  | _, _, .str x => .str x
  | _, _, .dat m => by obtain ⟨⟨Φ, _, h2⟩, _⟩ := S; obtain ⟨F, f, _⟩ := h2.at m; exact f.1.dp
  | _, _, .item m a b => by obtain ⟨⟨Φ, _, h2⟩, _⟩ := S; obtain ⟨F, f, _⟩ := h2.at m; exact (f.1.at a b).dp
  | _, _, .tup m k => .tup (SqT.of (S.getT m)) (Sep.dps S k)
  | _, _, .lst _ m k => .lst (SqL.of (S.get m)) (Sep.dps S k)
  | _, _, .ro _ m k => .lst (S.ro m) (Sep.dps S k)
theorem Sep.dps {fz : Bool} (S : Sep C K Tb H L) : ∀ {v : List V} {d : List PyData}, HasAll fz L v d → DpAll K H v d
  | _, _, .nil => .nil
  | _, _, .cons a b => .cons (Sep.dp S a) (Sep.dps S b)
  | _, _, .dats m => by obtain ⟨⟨Φ, _, h2⟩, _⟩ := S; obtain ⟨F, f, _⟩ := h2.at m; exact f.1.dp
  | _, _, .ints ns => dpall_ints ns
  | _, _, .app a b => (Sep.dps S a).app (Sep.dps S b)
end
theorem Sep.fact {Q : R → Prop} (S : Sep C K Tb H L) (r : R) (k : ∀ Φ U, SepF C K H Φ L U → r.at C K H Φ fun _ => False) : Sep C K Tb H (r :: L) := by
  obtain ⟨⟨Φ, h1, h2⟩, t⟩ := S
  exact ⟨⟨Φ, h1, fun _ => False, k Φ _ h2, fun _ z => z.elim, h2.mono fun a u => ⟨u, fun z => z⟩⟩, t⟩
theorem Sep.dat {v : V} {d : PyData} (S : Sep C K Tb H L) (h : Has true L v d) : Sep C K Tb H (.dat v d :: L) := S.fact (Q := fun _ => True) _ fun _ _ s => ⟨Sep.dr_ s h, fun _ z => z⟩
theorem Sep.dats {v : List V} {d : List PyData} (S : Sep C K Tb H L) (h : HasAll true L v d) : Sep C K Tb H (.dats v d :: L) := S.fact (Q := fun _ => True) _ fun _ _ s => ⟨Sep.drs_ s h, fun _ z => z⟩
/-- a tuple of data is taken apart -/
theorem Sep.untup {v : V} {ds : List PyData} (S : Sep C K Tb H L) (h : Has true L v (.tuple ds)) : ∃ a xs, v = .ref a ∧ Sep C K Tb H (.tup a xs :: .dats xs ds :: L) := by
  obtain ⟨⟨Φ, h1, h2⟩, t⟩ := S
  cases Sep.dr_ h2 h with
  | @tup a xs _ e f g => exact ⟨a, xs, rfl, ⟨⟨Φ, h1, fun _ => False, ⟨e, f, fun _ z => z⟩, fun _ z => z.elim, fun _ => False, ⟨g, fun _ z => z⟩, fun _ z => z.elim, h2.mono fun a u => ⟨⟨u, fun z => z⟩, fun z => z⟩⟩, t⟩⟩
theorem Sep.int {v : V} {i : Int} (S : Sep C K Tb H L) (h : Has true L v (.int i)) : v = .int i := by
  obtain ⟨⟨Φ, h1, h2⟩, t⟩ := S
  cases Sep.dr_ h2 h; rfl
theorem Sep.str {v : V} {i : Str} (S : Sep C K Tb H L) (h : Has true L v (.str i)) : v = .str i := by
  obtain ⟨⟨Φ, h1, h2⟩, t⟩ := S
  cases Sep.dr_ h2 h; rfl
theorem Sep.non {v : V} (S : Sep C K Tb H L) (h : Has true L v .none) : v = .non := by
  obtain ⟨⟨Φ, h1, h2⟩, t⟩ := S
  cases Sep.dr_ h2 h; rfl
theorem Sep.len {vs : List V} {ds : List PyData} (S : Sep C K Tb H L) (h : HasAll true L vs ds) : vs.length = ds.length := by
  obtain ⟨⟨Φ, h1, h2⟩, t⟩ := S
  exact (Sep.drs_ h2 h).len
theorem Sep.pair {v : V} {a b : Int} (S : Sep C K Tb H L) (h : Has true L v (pd (a, b))) : ∃ t, v = .ref t ∧ Sep C K Tb H (.tup t [.int a, .int b] :: L) := by
  obtain ⟨⟨Φ, h1, h2⟩, t⟩ := S
  cases Sep.dr_ h2 h with
  | @tup p xs _ e f g =>
    cases g with
    | cons g1 g =>
      cases g1
      cases g with
      | cons g2 g =>
        cases g2
        cases g
        exact ⟨p, rfl, ⟨⟨Φ, h1, fun _ => False, ⟨e, f, fun _ z => z⟩, fun _ z => z.elim, h2.mono fun a u => ⟨u, fun z => z⟩⟩, t⟩⟩
/-- a list that is owned is changed no more -/
theorem Sep.freeze {p : Addr} {xs : List V} {ds : List PyData} (S : Sep C K Tb H L) (k : Pick (.cell p (.lst xs)) L L') (h : HasAll true L xs ds) : Sep C K Tb H (.dat (.ref p) (.list ds) :: L') := by
  obtain ⟨⟨Φ, h1, h2⟩, t⟩ := S
  have d := Sep.drs_ h2 h
  obtain ⟨F, f, g, h3⟩ := h2.pick k
  have le : ∀ a, Φ a → Φ a ∨ F a := fun _ z => .inl z
  refine ⟨⟨fun a => Φ a ∨ F a, fun a z => z.elim (h1 a) fun w => R.dom (r := .cell p (.lst xs)) f w, fun _ => False, ⟨.lst f.1 (.inr ((f.2.2 p).mpr rfl)) (d.keep (fun _ _ _ e => e) le), fun _ z => z⟩, fun _ z => z.elim, ?_⟩, t⟩
  exact (SepF.keep (fun _ _ _ e => e) le h3 fun _ _ _ e => e).mono fun a ⟨u, v⟩ => ⟨fun z => z.elim u v, fun z => z⟩
theorem Sep.prs {xs : List V} {ps : List (Int × Int)} (S : Sep C K Tb H L) (h : HasAll true L xs (ps.map pd)) : Prs H xs ps := by
  obtain ⟨⟨Φ, h1, h2⟩, t⟩ := S
  have d := Sep.drs_ h2 h
  clear h h2 h1
  refine ⟨by rw [d.len, List.length_map], fun i p hp => ?_⟩
  have hi : i < xs.length := by
    rw [d.len, List.length_map]; exact (List.getElem?_eq_some_iff.mp hp).1
  have e := List.getElem?_eq_getElem hi
  have g := d.at e (by rw [List.getElem?_map, hp]; rfl)
  rw [e]
  revert g
  generalize xs[i] = v
  intro g
  obtain ⟨a, b⟩ := p
  have g : Dr H Φ v (.tuple [.int a, .int b]) := g
  cases g with
  | tup e f g =>
    cases g with
    | cons g1 g =>
      cases g1
      cases g with
      | cons g2 g =>
        cases g2
        cases g
        exact ⟨_, rfl, e⟩
end

/-! ### Sep: readings -/
def NewTup (Q : VK) (xs : List V) (H : Hp) : Prop := xs.length ≤ sizeLine ∧ ∀ p, H p = none → Q (.ref p) (upd H p (.tup xs))
def NewLst (Q : VK) (xs : List V) (H : Hp) : Prop := xs.length ≤ sizeLine ∧ ∀ p, H p = none → Q (.ref p) (upd H p (.lst xs))
def MkNew (C : Addr) (sp : Sp) (dvs : List V) (E : XK) (vs : List V) (H1 : Hp) (Q : VK) : Prop := ∀ x dx, H1 x = none → H1 dx = none → dx ≠ x → sp (.ref x :: (vs ++ dvs)) (upd (upd H1 dx (.own x)) x (.ins C dx [])) (fun v H2 => v = .non ∧ Q (.ref x) H2) E
def attrOf (m : SM) (f : Str) : Option V := if f = "n" then some (.int m.n) else if f = "limit" then some (.int m.lim) else if f = "generations" then some (.int m.g) else if f = "rule" then some (.str m.rule.s) else none
theorem million {n : Nat} (h : n ≤ 1000000) : n < sizeLine := Nat.lt_of_le_of_lt h (by decide)
section
variable {C : Addr} {K : PySem.W.Frag} {Tb : List (Addr × Str)} {D : Ends} {σ : St} {H H' : Hp} {Q : VK} {QH : Hp → Prop} {QS : St → Hp → Prop} {L L' L2 : List R} {tA : TA} {ta te : TE} {tt : TT} {g : TG} {l p b : Addr} {xs zs : List V} {v : V} {vs : List Nat} {m : SM}
theorem s_tup (h : tA σ H fun xs H1 => NewTup Q xs H1) : tTup tA σ H Q := h
theorem s_lst (h : tA σ H fun xs H1 => NewLst Q xs H1) : tLst tA σ H Q := h
theorem s_newT (S : Sep C K Tb H L) (hn : xs.length ≤ 1000) (k : ∀ p H', Sep C K Tb H' (.tup p xs :: L) → Q (.ref p) H') : NewTup Q xs H := ⟨small_sz hn, fun p n => k p _ (S.newT n)⟩
theorem s_newL (S : Sep C K Tb H L) (hn : xs.length ≤ 1000) (k : ∀ p H', Sep C K Tb H' (.cell p (.lst xs) :: L) → Q (.ref p) H') : NewLst Q xs H := ⟨small_sz hn, fun p n => k p _ (S.new n trivial)⟩
theorem s_append (S : Sep C K Tb H L) (pk : Pick (.cell l (.lst xs)) L L') (hn : xs.length ≤ 1000000) (k : ∀ H', Sep C K Tb H' (.cell l (.lst (xs ++ [v])) :: L') → Q .non H') : rAppend (.ref l) [v] H Q :=
  r_append (S.get pk.mem) (million hn) (k _ (S.put pk trivial))
theorem s_setl {a : Int} {j : Nat} (S : Sep C K Tb H L) (pk : Pick (.cell l (.lst xs)) L L') (h2 : ixN xs.length a = some j) (k : ∀ H', Sep C K Tb H' (.cell l (.lst (xs.set j v)) :: L') → QH H') : rSetL (.ref l) (.int a) v H QH :=
  r_setl (S.get pk.mem) h2 (k _ (S.put pk trivial))
theorem s_cat (S : Sep C K Tb H L) (h1 : R.cell l (.lst xs) ∈ L) (h2 : R.cell b (.lst zs) ∈ L) (hn : xs.length + zs.length ≤ 1000) (k : ∀ p H', Sep C K Tb H' (.cell p (.lst (xs ++ zs)) :: L) → Q (.ref p) H') : rCat (.ref l) (.ref b) H Q :=
  r_cat (S.get h1) (S.get h2) hn fun p n => k p _ (S.new n trivial)
theorem s_cutL {lo hi : Option Int} (S : Sep C K Tb H L) (h1 : SqL K H l xs) (k : ∀ p H', Sep C K Tb H' (.cell p (.lst (cutV xs lo hi)) :: L) → Q (.ref p) H') : rSlL K (.ref l) lo hi H Q :=
  r_slL h1 fun p n => k p _ (S.new n trivial)
theorem s_list (S : Sep C K Tb H L) (h1 : SqL K H l xs) (k : ∀ p H', Sep C K Tb H' (.cell p (.lst xs) :: L) → Q (.ref p) H') : rListC K [.ref l] H Q := r_listl h1 fun p n => k p _ (S.new n trivial)
theorem s_listT (S : Sep C K Tb H L) (h1 : SqT K H l xs) (k : ∀ p H', Sep C K Tb H' (.cell p (.lst xs) :: L) → Q (.ref p) H') : rListC K [.ref l] H Q := r_listt h1 fun p n => k p _ (S.new n trivial)
theorem s_popAt {a : Int} {j : Nat} {y : V} (S : Sep C K Tb H L) (pk : Pick (.cell l (.lst xs)) L L') (b1 : -(2 ^ 63) ≤ a) (b2 : a < 2 ^ 63) (h2 : seqIndex? a xs.length = some j) (h3 : xs[j]? = some y) (k : ∀ H', Sep C K Tb H' (.cell l (.lst (xs.eraseIdx j)) :: L') → Q y H') : rPopAt (.ref l) [.int a] H Q :=
  r_popAt (S.get pk.mem) b1 b2 h2 h3 (k _ (S.put pk trivial))
theorem s_listRg {n : Int} (S : Sep C K Tb H L) (hb : RgOk 0 n) (k : ∀ p H', Sep C K Tb H' (.cell p (.lst (rgV 0 n)) :: L) → Q (.ref p) H') : ∃ m : Int, V.int n = .int m ∧ RgOk 0 m ∧ ∀ q, H q = none → Q (.ref q) (upd H q (.lst (rgV 0 m))) := ⟨n, rfl, hb, fun q n' => k q _ (S.new n' trivial)⟩
theorem s_attr {f : Str} {R' : V → Prop} (S : Sep C K Tb H L) (h : R.sl p m ∈ L) (cl : Cls K C) (n : NoAttr K C f) (e : attrOf m f = some v) (k : R' v) :
    ∃ a C dx fs v, V.ref p = .ref a ∧ H a = some (.ins C dx fs) ∧ Cls K C ∧ NoAttr K C f ∧ fs.lookup f = some v ∧ R' v := by
  obtain ⟨F, dx, lo, la, lt, lh, x, _⟩ := S.slot h
  refine ⟨p, C, dx, _, v, rfl, x.ins, cl, n, ?_, k⟩
  unfold attrOf at e
  split at e
  · rename_i q; subst q; exact e
  · split at e
    · rename_i q; subst q; exact e
    · split at e
      · rename_i q; subst q; exact e
      · split at e
        · rename_i q; subst q; exact e
        · cases e
theorem s_meth {x : Str} {F : Prop} (S : Sep C K Tb H L) (h : R.sl p m ∈ L) (hl : ∀ lo la lt lh, (flds m lo la lt lh).lookup x = none) (k : F) : ∃ a dx fs, V.ref p = .ref a ∧ H a = some (.ins C dx fs) ∧ fs.lookup x = none ∧ F := by
  obtain ⟨_, dx, lo, la, lt, lh, y, _⟩ := S.slot h
  exact ⟨p, dx, _, rfl, y.ins, hl _ _ _ _, k⟩
theorem s_lenO {E : XK} (S : Sep C K Tb H L) (h : R.sl p m ∈ L) (k : Q (.int (m.live.length : Int)) H) : rLenOwn C (fun vs H Q _ => ∃ (p : Addr) (m : SM) (F : Addr → Prop), vs = [.ref p] ∧ Sl C H p m F ∧ Q (.int (m.live.length : Int)) H) E [.ref p] H Q := by
  obtain ⟨F, x⟩ := S.slot h
  exact r_lenO x k
theorem s_make {sp : Sp} {dvs : List V} {E : XK} (h : tA σ H fun vs H1 => MkNew C sp dvs E vs H1 Q) : tMake C sp dvs E tA σ H Q := h
theorem Sep.sq (S : Sep C K Tb H L) (h : R.cell l (.lst xs) ∈ L ∨ R.ro l xs ∈ L) : SqL K H l xs := h.elim (fun h => SqL.of (S.get h)) S.ro
theorem s_keep {H4 : Hp} {L4 L5 : List R} {Dd : Addr} {acc : List V} {y : V} {N : Hp → Prop} (S : Sep C K Tb H4 L4) (p : Pick (.cell Dd (.lst acc)) L4 L5) (ft : Fit L L5) (hl : acc.length ≤ 1000000) (k : ∀ H'', Sep C K Tb H'' (.cell Dd (.lst (acc ++ [y])) :: L) → N H'') :
    ∃ a, H4 Dd = some (.lst a) ∧ a.length < sizeLine ∧ N (upd H4 Dd (.lst (a ++ [y]))) :=
  ⟨acc, S.get p.mem, million hl, k _ ((S.fit (.pick p ft)).put .here trivial)⟩
theorem s_keepD {H4 : Hp} {L4 L5 : List R} {Dd : Addr} {acc : List V} {ads : List PyData} {d : PyData} {y : V} {N : Hp → Prop} (S : Sep C K Tb H4 L4) (h : Has true L4 y d) (hm : HasAll true L4 acc ads) (p : Pick (.cell Dd (.lst acc)) L4 L5) (ft : Fit L L5) (hl : acc.length ≤ 1000000)
    (k : ∀ H'', Sep C K Tb H'' (.cell Dd (.lst (acc ++ [y])) :: .dats (acc ++ [y]) (ads ++ [d]) :: L) → N H'') :
    ∃ a, H4 Dd = some (.lst a) ∧ a.length < sizeLine ∧ N (upd H4 Dd (.lst (a ++ [y]))) := by
  have S2 := S.dats (.app hm (.cons h .nil))
  have S3 := S2.fit (.pick (.there p) (.pick .here ft))
  exact ⟨acc, S.get p.mem, million hl, k _ (S3.put .here trivial)⟩
theorem filtZ {α β : Type} {zs : List α} {i : Nat} {z : α} (f : α → Bool) (w : α → β) (h : zs[i]? = some z) : ((zs.take (i + 1)).filter f).map w = if f z then ((zs.take i).filter f).map w ++ [w z] else ((zs.take i).filter f).map w := by
  rw [List.take_succ, h, List.filter_append, List.map_append]
  by_cases c : f z = true <;> simp [c]
theorem filtZ_len {α β : Type} (zs : List α) (i : Nat) (f : α → Bool) (w : α → β) : (((zs.take i).filter f).map w).length ≤ zs.length := by
  have h1 := List.length_filter_le f (zs.take i)
  rw [List.length_map]
  rw [List.length_take] at h1
  omega
/-- a comprehension over a list, its items plain values -/
theorem s_lcL {α : Type} (zs : List α) {a : Addr} (S : Sep C K Tb H L) (hx : R.cell a (.lst xs) ∈ L ∨ R.ro a xs ∈ L) (hlen : xs.length = zs.length) (hn : zs.length ≤ 1000000) (f : α → Bool) (w : α → V)
    (hs : ∀ D H' (i : Nat) x z acc (N : Hp → Prop), xs[i]? = some x → zs[i]? = some z → acc.length ≤ 1000000 → Sep C K Tb H' (.cell D (.lst acc) :: L) → (f z = true → ∀ H'', Sep C K Tb H'' (.cell D (.lst (acc ++ [w z])) :: L) → N H'') → (f z = false → ∀ H'', Sep C K Tb H'' (.cell D (.lst acc) :: L) → N H'') →
      g x (wipe σ vs) H' fun σ2 H2 => wipe σ2 vs = wipe σ vs ∧ tt σ2 H2 fun b H3 => if b = true then te σ2 H3 fun y H4 => ∃ a, H4 D = some (.lst a) ∧ a.length < sizeLine ∧ N (upd H4 D (.lst (a ++ [y]))) else N H3)
    (hd : ∀ D H', Sep C K Tb H' (.cell D (.lst ((zs.filter f).map w)) :: L) → Q (.ref D) H') : LcLoop (Itl K a) g tt te vs σ H Q := by
  intro Dd hD
  refine lc_list (K := K) (a := a) (xs := xs) (fun i H' => Sep C K Tb H' (.cell Dd (.lst (((zs.take i).filter f).map w)) :: L)) (S.new hD trivial) (fun i H' _ S' => (S'.fit (.drop .refl)).sq hx) (fun i x H' hi S' => ?_) (fun H' S' => ?_)
  · have hi2 : i < zs.length := by rw [← hlen]; exact (List.getElem?_eq_some_iff.mp hi).1
    have hz := List.getElem?_eq_getElem hi2
    refine hs Dd H' i x _ _ _ hi hz (Nat.le_trans (filtZ_len _ _ _ _) hn) S' (fun c H'' S'' => ?_) (fun c H'' S'' => ?_)
    · show Sep C K Tb H'' (.cell Dd (.lst (((zs.take (i + 1)).filter f).map w)) :: L)
      rw [filtZ f w hz, if_pos c]; exact S''
    · show Sep C K Tb H'' (.cell Dd (.lst (((zs.take (i + 1)).filter f).map w)) :: L)
      rw [filtZ f w hz, if_neg (by rw [c]; exact Bool.false_ne_true)]; exact S''
  · refine hd Dd H' ?_
    rw [hlen, List.take_length] at S'; exact S'
/-- .. its items data -/
theorem s_lcLD {α : Type} (zs : List α) {a : Addr} (S : Sep C K Tb H L) (hx : R.cell a (.lst xs) ∈ L ∨ R.ro a xs ∈ L) (hlen : xs.length = zs.length) (hn : zs.length ≤ 1000000) (f : α → Bool) (w : α → PyData)
    (hs : ∀ D H' (i : Nat) x z acc ads (N : Hp → Prop), xs[i]? = some x → zs[i]? = some z → acc.length ≤ 1000000 → Sep C K Tb H' (.cell D (.lst acc) :: .dats acc ads :: L) → (f z = true → ∀ H'' y, Sep C K Tb H'' (.cell D (.lst (acc ++ [y])) :: .dats (acc ++ [y]) (ads ++ [w z]) :: L) → N H'') → (f z = false → ∀ H'', Sep C K Tb H'' (.cell D (.lst acc) :: .dats acc ads :: L) → N H'') →
      g x (wipe σ vs) H' fun σ2 H2 => wipe σ2 vs = wipe σ vs ∧ tt σ2 H2 fun b H3 => if b = true then te σ2 H3 fun y H4 => ∃ a, H4 D = some (.lst a) ∧ a.length < sizeLine ∧ N (upd H4 D (.lst (a ++ [y]))) else N H3)
    (hd : ∀ D H' ys, Sep C K Tb H' (.cell D (.lst ys) :: .dats ys ((zs.filter f).map w) :: L) → Q (.ref D) H') : LcLoop (Itl K a) g tt te vs σ H Q := by
  intro Dd hD
  refine lc_list (K := K) (a := a) (xs := xs) (fun i H' => ∃ acc, acc.length ≤ zs.length ∧ Sep C K Tb H' (.cell Dd (.lst acc) :: .dats acc (((zs.take i).filter f).map w) :: L)) ⟨[], Nat.zero_le _, ((S.new (o := .lst []) hD trivial).dats .nil).fit (.pick (.there .here) (.pick .here .refl))⟩ (fun i H' _ ⟨_, _, S'⟩ => (S'.fit (.drop (.drop .refl))).sq hx) (fun i x H' hi ⟨acc, la, S'⟩ => ?_) (fun H' ⟨acc, la, S'⟩ => ?_)
  · have hi2 : i < zs.length := by rw [← hlen]; exact (List.getElem?_eq_some_iff.mp hi).1
    have hz := List.getElem?_eq_getElem hi2
    refine hs Dd H' i x _ acc _ _ hi hz (Nat.le_trans la hn) S' (fun c H'' y S'' => ?_) (fun c H'' S'' => ?_)
    · have e := filtZ f w hz
      rw [if_pos c] at e
      refine ⟨acc ++ [y], ?_, by rw [e]; exact S''⟩
      have h1 := S''.len (.dats (List.mem_cons_of_mem _ List.mem_cons_self))
      have h2 := filtZ_len zs (i + 1) f w
      rw [e] at h2
      rw [h1]; exact h2
    · refine ⟨acc, la, ?_⟩
      rw [filtZ f w hz, if_neg (by rw [c]; exact Bool.false_ne_true)]; exact S''
  · refine hd Dd H' acc ?_
    rw [hlen, List.take_length] at S'; exact S'
theorem s_lcR {n : Nat} (S : Sep C K Tb H L) (hn : n ≤ 1000000) (f : Nat → Bool) (w : Nat → V)
    (hs : ∀ D H' (i : Nat) acc (N : Hp → Prop), i < n → acc.length ≤ 1000000 → Sep C K Tb H' (.cell D (.lst acc) :: L) → (f i = true → ∀ H'', Sep C K Tb H'' (.cell D (.lst (acc ++ [w i])) :: L) → N H'') → (f i = false → ∀ H'', Sep C K Tb H'' (.cell D (.lst acc) :: L) → N H'') →
      g (.int i) (wipe σ vs) H' fun σ2 H2 => wipe σ2 vs = wipe σ vs ∧ tt σ2 H2 fun b H3 => if b = true then te σ2 H3 fun y H4 => ∃ a, H4 D = some (.lst a) ∧ a.length < sizeLine ∧ N (upd H4 D (.lst (a ++ [y]))) else N H3)
    (hd : ∀ D H', Sep C K Tb H' (.cell D (.lst (((List.range n).filter f).map w)) :: L) → Q (.ref D) H') : LcLoop (Itr 0 n) g tt te vs σ H Q := by
  intro Dd hD
  refine lc_range (lo := 0) (n := n) (fun i H' => Sep C K Tb H' (.cell Dd (.lst (((List.range i).filter f).map w)) :: L)) (S.new hD trivial) (fun i H' hi S' => ?_) (fun H' S' => hd Dd H' S')
  rw [Int.zero_add]
  have hl : (((List.range i).filter f).map w).length ≤ 1000000 := by
    have h1 := List.length_filter_le f (List.range i)
    rw [List.length_map]; rw [List.length_range] at h1; omega
  refine hs Dd H' i _ _ hi hl S' (fun c H'' S'' => ?_) (fun c H'' S'' => ?_)
  · show Sep C K Tb H'' (.cell Dd (.lst (((List.range (i + 1)).filter f).map w)) :: L)
    rw [filt_more, if_pos c]; exact S''
  · show Sep C K Tb H'' (.cell Dd (.lst (((List.range (i + 1)).filter f).map w)) :: L)
    rw [filt_more, if_neg (by rw [c]; exact Bool.false_ne_true)]; exact S''
theorem s_lcRD {n : Nat} (S : Sep C K Tb H L) (hn : n ≤ 1000000) (f : Nat → Bool) (w : Nat → PyData)
    (hs : ∀ D H' (i : Nat) acc ads (N : Hp → Prop), i < n → acc.length ≤ 1000000 → Sep C K Tb H' (.cell D (.lst acc) :: .dats acc ads :: L) → (f i = true → ∀ H'' y, Sep C K Tb H'' (.cell D (.lst (acc ++ [y])) :: .dats (acc ++ [y]) (ads ++ [w i]) :: L) → N H'') → (f i = false → ∀ H'', Sep C K Tb H'' (.cell D (.lst acc) :: .dats acc ads :: L) → N H'') →
      g (.int i) (wipe σ vs) H' fun σ2 H2 => wipe σ2 vs = wipe σ vs ∧ tt σ2 H2 fun b H3 => if b = true then te σ2 H3 fun y H4 => ∃ a, H4 D = some (.lst a) ∧ a.length < sizeLine ∧ N (upd H4 D (.lst (a ++ [y]))) else N H3)
    (hd : ∀ D H' ys, Sep C K Tb H' (.cell D (.lst ys) :: .dats ys (((List.range n).filter f).map w) :: L) → Q (.ref D) H') : LcLoop (Itr 0 n) g tt te vs σ H Q := by
  intro Dd hD
  refine lc_range (lo := 0) (n := n) (fun i H' => ∃ acc, acc.length ≤ i ∧ Sep C K Tb H' (.cell Dd (.lst acc) :: .dats acc (((List.range i).filter f).map w) :: L)) ⟨[], Nat.le_refl _, ((S.new (o := .lst []) hD trivial).dats .nil).fit (.pick (.there .here) (.pick .here .refl))⟩ (fun i H' hi ⟨acc, la, S'⟩ => ?_) (fun H' ⟨acc, _, S'⟩ => hd Dd H' acc S')
  rw [Int.zero_add]
  refine hs Dd H' i acc _ _ hi (by omega) S' (fun c H'' y S'' => ?_) (fun c H'' S'' => ?_)
  · have e := filt_more f w i
    rw [if_pos c] at e
    exact ⟨acc ++ [y], by simp; omega, by rw [e]; exact S''⟩
  · refine ⟨acc, by omega, ?_⟩
    rw [filt_more, if_neg (by rw [c]; exact Bool.false_ne_true)]; exact S''
theorem s_eqD {d e : PyData} {x y : V} {b1 b2 : Bool} (S : Sep C K Tb H L) (h1 : Has b1 L x d) (h2 : Has b2 L y e) (sd : SeqAt.shaped d = true) (se : SeqAt.shaped e = true) (k : Q (.bl (PyData.eqv d e)) H) : rEqD K x y H Q := ⟨d, e, S.dp h1, S.dp h2, sd, se, k⟩
theorem s_neD {d e : PyData} {x y : V} {b1 b2 : Bool} (S : Sep C K Tb H L) (h1 : Has b1 L x d) (h2 : Has b2 L y e) (sd : SeqAt.shaped d = true) (se : SeqAt.shaped e = true) (k : Q (.bl (!PyData.eqv d e)) H) : rNeD K x y H Q := ⟨d, e, S.dp h1, S.dp h2, sd, se, k⟩
end
local macro_rules | `(tactic| walk_at "pk") => `(tactic| first | (with_reducible exact Pick.here) | ((with_reducible apply Pick.there); walk_at "pk"))
local macro_rules | `(tactic| walk_at "mm") => `(tactic| first | (with_reducible exact List.mem_cons_self) | ((with_reducible refine List.mem_cons_of_mem _ ?_); walk_at "mm") | assumption)
local macro_rules | `(tactic| walk_at "ft") => `(tactic| first | (with_reducible exact Fit.refl) | (with_reducible exact Fit.nil) | ((with_reducible apply Fit.pick); (focus walk_at "pk"); walk_at "ft") | ((with_reducible refine Fit.drop ?_); walk_at "ft"))
local macro_rules | `(tactic| walk_at "sp") => `(tactic| exact Sep.fit (by assumption) (by walk_at "ft"))
local macro_rules | `(tactic| walk_at "hs") => `(tactic| first | exact Has.int _ | exact Has.str _ | exact Has.bl _ | exact Has.non | (with_reducible exact Has.dat (by walk_at "mm")) | (with_reducible exact HasAll.nil) | (with_reducible exact HasAll.dats (by walk_at "mm")) | ((with_reducible refine Has.tup (by walk_at "mm") ?_); walk_at "hs") | ((with_reducible refine Has.lst rfl (by walk_at "mm") ?_); walk_at "hs") | ((with_reducible refine HasAll.cons ?_ ?_) <;> walk_at "hs") | exact HasAll.ints _)
local macro_rules | `(tactic| walk_at "hp") => `(tactic| first | assumption | exact Sep.get (by assumption) (by walk_at "mm") | exact Sep.getT (by assumption) (by walk_at "mm"))
local macro_rules | `(tactic| walk_at "sq") => `(tactic| first | exact SqL.of (by walk_at "hp") | exact Sep.ro (by assumption) (by walk_at "mm"))
local macro_rules | `(tactic| walk_at "sz") => `(tactic| first | exact Nat.le_of_ble_eq_true rfl | omega | (simp; omega))
local macro_rules | `(tactic| walk_at "sd1") => `(tactic| first
  | (with_reducible refine s_tup ?_) | (with_reducible refine s_lst ?_) | (with_reducible refine s_make ?_)
  | ((with_reducible refine s_newT (by assumption) ?_ (fun _ _ _ => ?_)); (focus walk_at "sz"))
  | ((with_reducible refine s_newL (by assumption) ?_ (fun _ _ _ => ?_)); (focus walk_at "sz"))
  | ((with_reducible show ∃ (a : Addr) (C : Addr) (dx : Addr) (fs : List (Str × V)) (v : V), V.ref _ = V.ref a ∧ _); refine s_attr (by assumption) (by walk_at "mm") (by assumption) (by assumption) (by rfl) ?_)
  | ((with_reducible show ∃ (a : Addr) (dx : Addr) (fs : List (Str × V)), V.ref _ = V.ref a ∧ _); refine s_meth (by assumption) (by walk_at "mm") (fun _ _ _ _ => rfl) ?_)
  | ((with_reducible show rSetL _ _ _ _ _); refine s_setl (by assumption) (by walk_at "pk") (by rfl) (fun _ _ => ?_))
  | ((with_reducible show rLenC _ _ _ _); refine r_lenl (by walk_at "sq") ?_)
  | ((with_reducible show rLenC _ _ _ _); refine r_lent (SqT.of (by walk_at "hp")) ?_)
  | ((with_reducible show rLenOwn _ _ _ _ _ _); refine s_lenO (by assumption) (by walk_at "mm") ?_)
  | ((with_reducible show rAppend _ _ _ _); refine s_append (by assumption) (by walk_at "pk") (by walk_at "sz") (fun _ _ => ?_))
  | ((with_reducible show rListC _ _ _ _); refine s_list (by assumption) (by walk_at "sq") (fun _ _ _ => ?_))
  | ((with_reducible show rSlL _ _ _ _ _ _); refine s_cutL (by assumption) (by walk_at "sq") (fun _ _ _ => ?_))
  | ((with_reducible show ∃ (b : Addr), V.ref _ = V.ref b ∧ (∃ ys, SqL _ _ b ys) ∧ Loop _ _ _ _ _ _); refine overLL (by walk_at "sq") ?_)
  | ((with_reducible show ∃ (b : Addr), V.ref _ = V.ref b ∧ (∃ ys, SqL _ _ b ys) ∧ LcLoop _ _ _ _ _ _ _ _); refine overLC (by walk_at "sq") ?_)
  | ((with_reducible show ∃ (b : Addr), V.ref _ = V.ref b ∧ (∃ ys, SqT _ _ b ys) ∧ Loop _ _ _ _ _ _); refine overTL (SqT.of (by walk_at "hp")) ?_)
  | ((with_reducible show ∃ (b : Addr), V.ref _ = V.ref b ∧ (∃ ys, SqT _ _ b ys) ∧ LcLoop _ _ _ _ _ _ _ _); refine overTC (SqT.of (by walk_at "hp")) ?_)
  | ((with_reducible show rCat _ _ _ _); refine s_cat (by assumption) (by walk_at "mm") (by walk_at "mm") (by walk_at "sz") (fun _ _ _ => ?_))
  | ((with_reducible show ∃ m : Int, V.int _ = .int m ∧ RgOk 0 m ∧ _); refine s_listRg (by assumption) (RgOk.of_le (by omega) (by omega) (by omega) (by omega)) (fun _ _ _ => ?_))
  | walk_at "rd1")
local macro_rules | `(tactic| walk_at "sd") => `(tactic| repeat walk_at "sd1")

/-! ### Sep: how promises of the older kind are used -/
section
variable {C : Addr} {K : PySem.W.Frag} {Tb : List (Addr × Str)} {H H' : Hp} {L L' : List R}
theorem Pl.keep {a : Addr} (h : Pl H a) (o : Out Nil H H') : Pl H' a := by
  obtain ⟨w, e, p⟩ := h
  exact ⟨w, o a w (fun z => z) e (Pl.nt p), p⟩
theorem Pl.keepF {F : Addr → Prop} {a : Addr} (h : Pl H a) (n : ¬ F a) (o : Out F H H') : Pl H' a := by
  obtain ⟨w, e, p⟩ := h
  exact ⟨w, o a w n e (Pl.nt p), p⟩
theorem Sep.readNew {q : Addr} {u : HO} (S : Sep C K Tb H L) (nq : New H q) (o : Out Nil H H') (t : LamX.Tabs Tb H') (e : H' q = some u) (pu : Plain u) : Sep C K Tb H' (.cell q u :: L) := by
  obtain ⟨Φ, h1, h⟩ := S.step0
  refine h H' Φ [.cell q u] (fun a => a = q) o t (fun _ z => z) (fun _ z => .inl z) (fun a f => (h1 a f).keep o) ⟨fun a => a = q, ⟨e, pu, fun _ => Iff.rfl⟩, fun _ z => z, trivial⟩ fun a z => ?_
  subst z
  exact ⟨nq, fun f => (h1 _ f).old nq⟩
theorem dr_of_prs {Φ : Addr → Prop} : ∀ {xs : List V} {ps : List (Int × Int)}, Prs H xs ps → (∀ b, V.ref b ∈ xs → Φ b) → DrAll H Φ xs (ps.map pd)
  | [], [], _, _ => .nil
  | [], _ :: _, h, _ => by cases h.1
  | _ :: _, [], h, _ => by cases h.1
  | x :: xs, p :: ps, h, n => by
    obtain ⟨a, h1, h2⟩ := h.2 0 p rfl
    obtain rfl : x = .ref a := Option.some.inj h1
    exact .cons (.tup h2 (n _ List.mem_cons_self) (.cons (.int _) (.cons (.int _) .nil))) (dr_of_prs ⟨Nat.succ.inj h.1, fun i q hq => h.2 (i + 1) q hq⟩ fun b hb => n b (List.mem_cons_of_mem _ hb))
theorem Prs.tup {xs : List V} {ps : List (Int × Int)} (h : Prs H xs ps) {b : Addr} (m : V.ref b ∈ xs) : ∃ ys, H b = some (.tup ys) := by
  obtain ⟨i, hi⟩ := List.getElem?_of_mem m
  obtain ⟨a, p, e1, e2, e3⟩ := h.at hi
  cases e1
  exact ⟨_, e3⟩
theorem Sep.readPrs {q : Addr} {xs : List V} {ps : List (Int × Int)} (S : Sep C K Tb H L) (nq : New H q) (o : Out Nil H H') (t : LamX.Tabs Tb H') (e : H' q = some (.lst xs)) (pr : Prs H' xs ps) (nb : ∀ b, V.ref b ∈ xs → New H b) : Sep C K Tb H' (.cell q (.lst xs) :: .dats xs (ps.map pd) :: L) := by
  obtain ⟨Φ, h1, h⟩ := S.step0
  have dq : ¬ V.ref q ∈ xs := fun m => by
    obtain ⟨ys, e'⟩ := pr.tup m
    rw [e] at e'; cases e'
  refine h H' (fun a => Φ a ∨ V.ref a ∈ xs) [.cell q (.lst xs), .dats xs (ps.map pd)] (fun a => a = q) o t (fun _ z => .inl z) (fun _ z => z.elim .inl fun m => .inr (nb _ m)) (fun a f => ?_) ⟨fun a => a = q, ⟨e, trivial, fun _ => Iff.rfl⟩, fun _ z => z, fun _ => False, ⟨dr_of_prs pr fun b m => .inr m, fun _ z => z⟩, fun _ z => z.elim, trivial⟩ fun a z => ?_
  · rcases f with f | m
    · exact (h1 a f).keep o
    · obtain ⟨ys, e'⟩ := pr.tup m
      exact ⟨_, e', trivial⟩
  · subst z
    exact ⟨nq, fun f => f.elim (fun f => (h1 _ f).old nq) dq⟩
theorem Sep.readSl {q : Addr} {m : SM} {F' : Addr → Prop} (S : Sep C K Tb H L) (o : Out Nil H H') (t : LamX.Tabs Tb H') (s : Sl C H' q m F') (n : ∀ b, F' b → New H b) : Sep C K Tb H' (.sl q m :: L) := by
  obtain ⟨Φ, h1, h⟩ := S.step0
  exact h H' Φ [.sl q m] F' o t (fun _ z => z) (fun _ z => .inl z) (fun a f => (h1 a f).keep o) ⟨F', s, fun _ z => z, trivial⟩ fun a z => ⟨n a z, fun f => (h1 _ f).old (n a z)⟩
theorem Sep.readSrc {p : Addr} (S : Sep C K Tb H L) (n : H p = none) (s : Src H' p) (o : Same H H') : Sep C K Tb H' (.src p :: L) := by
  obtain ⟨Φ, h1, h⟩ := S.step0
  refine h H' Φ [.src p] (fun a => a = p) (.same o) (tabs_same S.tb o) (fun _ z => z) (fun _ z => .inl z) (fun a f => (h1 a f).keep (.same o)) ⟨_, ⟨s, fun _ => Iff.rfl⟩, fun _ z => z, trivial⟩ fun a z => ?_
  subst z
  exact ⟨.of n, fun f => (h1 _ f).old (.of n)⟩
theorem Sep.draw {p : Addr} (S : Sep C K Tb H L) (k : Pick (.src p) L L') (s : Src H' p) (o : Off p H H') : Sep C K Tb H' (.src p :: L') := by
  obtain ⟨Φ, F, f, h1, h2, h3, t, h⟩ := S.step k
  obtain ⟨sr, f⟩ := f
  have ou : Out F H H' := (Out.kp o.kp).mono fun c z => .inl (by subst z; exact (f _).mpr rfl)
  refine h H' Φ [.src p] F ou (tabs_kp t o.kp sr) (fun _ z => z) (fun _ z => .inl z) (fun a q => (h3 a q).keepF (fun z => h1 a z q) ou) ⟨F, ⟨s, f⟩, fun _ z => z, trivial⟩ fun a z => ⟨.inl z, h1 a z⟩
theorem Sep.took {p q : Addr} {m m' : SM} {xs : List V} (S : Sep C K Tb H L) (k : Pick (.sl p m) L L') (h : ∀ F, Sl C H p m F → Sl C H' p m' F ∧ New H q ∧ H' q = some (.tup xs) ∧ Out F H H') (t' : LamX.Tabs Tb H') : Sep C K Tb H' (.tup q xs :: .sl p m' :: L') := by
  obtain ⟨Φ, F, f, h1, h2, h3, t, hh⟩ := S.step k
  obtain ⟨s', nq, e, o⟩ := h F f
  refine hh H' (fun a => Φ a ∨ a = q) [.tup q xs, .sl p m'] F o t' (fun _ z => .inl z) (fun _ z => z.elim .inl fun z => .inr (by subst z; exact nq)) (fun a z => ?_) ⟨fun _ => False, ⟨e, .inr rfl, fun _ z => z⟩, fun _ z => z.elim, F, s', fun a z => ⟨z, fun w => w⟩, trivial⟩ fun a z => ⟨.inl z, fun w => ?_⟩
  · rcases z with z | z
    · exact (h3 a z).keepF (fun w => h1 a w z) o
    · subst z; exact ⟨_, e, trivial⟩
  · rcases w with w | w
    · exact h1 a z w
    · subst w; exact (h2 _ z).old nq
theorem Sep.gave {p : Addr} {m m' : SM} (S : Sep C K Tb H L) (k : Pick (.sl p m) L L') (h : ∀ F, Sl C H p m F → ∃ F', Sl C H' p m' F' ∧ (∀ b, F' b → F b ∨ New H b) ∧ Out F H H') (t' : LamX.Tabs Tb H') : Sep C K Tb H' (.sl p m' :: L') := by
  obtain ⟨Φ, F, f, h1, h2, h3, t, hh⟩ := S.step k
  obtain ⟨F', s', g, o⟩ := h F f
  exact hh H' Φ [.sl p m'] F' o t' (fun _ z => z) (fun _ z => .inl z) (fun a z => (h3 a z).keepF (fun w => h1 a w z) o) ⟨F', s', fun _ z => z, trivial⟩ fun a z => ⟨g a z, fun w => (g a z).elim (fun y => h1 a y w) fun y => (h3 a w).old y⟩
theorem Sep.made {p dx : Addr} {m : SM} {F : Addr → Prop} (S : Sep C K Tb H L) (np : H p = none) (nd : H dx = none) (ne : dx ≠ p) (s : Sl C H' p m F) (g : ∀ b, F b → b = p ∨ New (upd (upd H dx (.own p)) p (.ins C dx [])) b) (o : Out (fun b => b = p) (upd (upd H dx (.own p)) p (.ins C dx [])) H') (t : LamX.Tabs Tb H') : Sep C K Tb H' (.sl p m :: L) := by
  have u8 : Out (fun b => b = p) H (upd (upd H dx (.own p)) p (.ins C dx [])) := ((Out.refl H).fresh nd).upd (.inl rfl)
  have o9 : Out Nil H H' := (u8.trans o fun _ z => .inl z).mono fun b z => .inr (by subst z; exact .of np)
  refine S.readSl o9 t s fun b hb => ?_
  rcases g b hb with z | z
  · subst z; exact .of np
  · exact (u8.new z).elim (fun z => by subst z; exact .of np) fun z => z
theorem tabs_made {p dx : Addr} (t : LamX.Tabs Tb H) (np : H p = none) (nd : H dx = none) (ne : dx ≠ p) : LamX.Tabs Tb (upd (upd H dx (.own p)) p (.ins C dx [])) := tabs_new (tabs_new t nd) (by rw [upd_ne ne.symm]; exact np)
/-- the law's own call -/
theorem Sep.start {a : Addr} {ns : List Int} (t : LamX.Tabs Tb H) (h : SqL K H a (ns.map V.int)) : Sep C K Tb H [.ro a (ns.map V.int)] := by
  refine ⟨⟨fun _ => False, fun _ z => z.elim, ?_⟩, t⟩
  rcases h with h | h
  · exact ⟨fun b => b = a, .inl ⟨h, fun _ => Iff.rfl⟩, fun _ _ z => z, trivial⟩
  · exact ⟨fun _ => False, .inr ⟨fun H => .inr h, fun _ z => z⟩, fun _ z => z.elim, trivial⟩
end

/-! ### a == b, a != b by a class's own __eq__ -/
section
open PySem PySem.W PyProof.Rows
theorem ifBound_B {prog : Program} {w : World} {A : Around} {E : Value → Shared → Prop} {s : Shared} {K : PySem.W.Frag} {x C : Addr} {ox : Obj} {od : Option Obj} {name : Str} {id : String} {args : List Value} {Q : Option Value → Shared → Prop} (X : K.In s.heap) (I : InstAt s.heap x ox C od)
    (hs : findIn K (.ref C) name = some (some (.builtin id))) (hb : ∀ self, bindSpecial (.builtin id) self = pure (.builtin id, [self])) (h : wpAny (model prog w) A (call (.builtin id) (.ref x :: args)) (fun v => Q (some v)) E s) : wpAny (model prog w) A (callSpecialIfBound? (.ref x) name args) Q E s := by
  simp only [callSpecialIfBound?, bindSpecialIfBound?]
  refine wpAny_holding (wpAny_bind (wpAny_bind (wpAny_bind (I.type.here ((looks_findIn X hs).here ?_)))))
  refine wpAny_bind (wpAny_askSetting (wpAny_ite ?_))
  have fin : wpAny (model prog w) A (call (.builtin id) ([.ref x] ++ args) >>= fun v => pure (some v)) Q E s := wpAny_bind (wpAny_mono h (fun v s' h' => wpAny_pure h') fun _ _ h' => h')
  split
  · exact wpAny_bind ((Looks.of_pure (hb _)).here (wpAny_pure (by exact fin)))
  · exact wpAny_tryCatch (wpAny_bind ((Looks.of_pure (hb _)).here (wpAny_pure (by exact fin))))
theorem ne_bind (self : Value) : bindSpecial (.builtin "object.__ne__") self = pure (.builtin "object.__ne__", [self]) := by kernel_rfl
theorem ne_K {prog : Program} {w : World} {A : Around} {E : Value → Shared → Prop} {s : Shared} {K : PySem.W.Frag} {x C L f : Addr} {h₀ : Heap} {m : Str → Option Value} {ox : Obj} {od : Option Obj} {b tb : Value} {Q : Value → Shared → Prop} (hu : A.units + 1 < cLine) (Fh : Fr h₀ L s.heap m) (X₀ : K.In h₀) (I : InstAt s.heap x ox C od) (hb : Looks (model prog w) s.heap (typeOf b) tb) (hn : notFirst K C tb = true)
    (hp : plainOver K C = true) (hne : findIn K (.ref C) "__ne__" = some (some (.builtin "object.__ne__"))) (hs : findIn K (.ref C) "__eq__" = some (some (.ref f))) (hf : isFn K (.ref f) = true)
    (h : wpAny (model prog w) A.in1 (call (.ref f) [.ref x, b]) (fun v s' => ∃ r, v = .bool r ∧ Q (.bool (!r)) s') E s) : wpAny (model prog w) A (richCompare .NotEq (.ref x) b) Q E s := by
  have X := X₀.keeps Fh.keep
  obtain ⟨cd, hc, ho⟩ := any_some hp
  have nem : cd.mro.isEmpty = false := by cases q : cd.mro with | nil => rw [q] at ho; cases ho | cons _ _ => rfl
  have sub : Looks (model prog w) s.heap (isInstance (.ref x) (.type "object")) true := I.type.andThen (looks_mroIn X (by unfold mroIn; rw [hc, Option.bind_some, if_neg (by rw [nem]; decide), only_has ho]))
  have one : wpAny (model prog w) A (tryCompare (.ref x) "__ne__" b) (fun r s' => ∃ v, r = some v ∧ Q v s') E s := by
    unfold tryCompare
    refine wpAny_bind (ifBound_B X I hne ne_bind ?_)
    refine wpAny_call (codeAny_call_builtin PySem.F.cmp_object.ne.plain PySem.F.cmpEntry_ne (check_slot PySem.F.cmpKind_ne PySem.F.cmpSplit_ne sub (PySem.F.cmpArgs_ne _ _) ?_))
    unfold Builtin.«object.__ne__»
    have hv : wpAny (model prog w) A.in1 (callSpecialIfBound? (.ref x) "__eq__" [b]) (fun r s' => ∃ k, r = some (.bool k) ∧ Q (.bool (!k)) s') E s := ifBound_K X I hs hf (wpAny_mono h (fun v s' ⟨r, e, q⟩ => ⟨r, by rw [e], q⟩) fun _ _ e => e)
    have hv2 : ∀ (Q' : Option Value → Shared → Prop) (E' : Value → Shared → Prop), (∀ k s', Q (.bool (!k)) s' → Q' (some (.bool k)) s') → (∀ e s', E e s' → E' e s') → wpAny (model prog w) A.in1 (callSpecialIfBound? (.ref x) "__eq__" [b]) Q' E' s := fun Q' E' h1 h2 => wpAny_mono hv (fun r s' ⟨k, e, q⟩ => by rw [e]; exact h1 k s' q) h2
    repeat (first | with_reducible refine wpAny_cRoomFor hu ?_ | with_reducible refine hv2 _ _ (fun k s' q => ?_) (fun e s' q => ?_) | wp_step)
    · exact ⟨_, rfl, q⟩
    · exact q
  have hu0 : A.units < cLine := Nat.lt_of_succ_lt hu
  unfold richCompare
  simp only [oneThing_ref, PySem.cmpInfo_NotEq]
  refine wpAny_holding (wpAny_bind (wpAny_cRoomFor hu0 ?_))
  refine wpAny_bind (I.type.here (wpAny_bind (hb.here ?_)))
  split
  · rename_i q
    have e : subIn K tb (.ref C) = some false := by
      rcases Bool.or_eq_true_iff.mp hn with e | e
      · rw [beq_iff_eq.mp e] at q; simp at q
      · exact beq_iff_eq.mp e
    refine wpAny_bind ((looks_subIn X e).here ?_)
    simp only [Bool.false_eq_true, if_false]
    refine wpAny_bind (wpAny_mono one (fun r s' z => ?_) fun _ _ e => e)
    obtain ⟨v, rfl, hq⟩ := z
    exact wpAny_pure hq
  · refine wpAny_bind (wpAny_pure ?_)
    simp only [Bool.false_eq_true, if_false]
    refine wpAny_bind (wpAny_mono one (fun r s' z => ?_) fun _ _ e => e)
    obtain ⟨v, rfl, hq⟩ := z
    exact wpAny_pure hq
end
def rEqOwn (C : Addr) (sp : Sp) (E : XK) (neg : Bool) : R2 := fun x y H Q => ∃ a b dx dy fs gs, x = .ref a ∧ y = .ref b ∧ H a = some (.ins C dx fs) ∧ H b = some (.ins C dy gs) ∧ sp [.ref a, .ref b] H (fun v H' => ∃ r, v = .bl r ∧ Q (.bl (if neg then !r else r)) H') E
section
variable {X : Cx} {CX : CXT} {n : Nat} {C f : Addr} {fd : FuncData} {ps : List Str} {sp : Sp} {E : XK} {K : PySem.W.Frag}
theorem op_eqOwn (F : FnOk X.prog X.w X.K X.mg X.base CX n f fd ps sp) (hr : Room n X.A) (mt : Meth X.K C "__eq__" f) (hb : Binds X.K fd ps []) (hx : Passes CX X E) : OpR X (compareOp .Eq) (rEqOwn C sp E false) := by
  intro pins s σ H x y v u Q I rx ry h
  obtain ⟨a, b, dx, dy, fs, gs, rfl, rfl, ha, hb', hsp⟩ := h
  cases rx
  cases ry
  obtain ⟨mA, J, _⟩ := ins_get I.hok ha
  obtain ⟨mB, J', _⟩ := ins_get I.hok hb'
  obtain ⟨od, J, _⟩ := J.look
  obtain ⟨od', J', _⟩ := J'.look
  obtain ⟨m, hF⟩ := I.fr
  refine PySem.W.cmp_K (op := .Eq) (tb := .ref C) hr.units0 hF I.ok.mod.kin J J'.type (by simp [PySem.W.notFirst]) mt.at_ mt.fn ?_
  refine wpAny_mono (run_at F hr rfl hb hx I (.cons (show RelV (.ref a) (.ref a) from rfl) (.cons (show RelV (.ref b) (.ref b) from rfl) .nil)) hsp) (fun r s' hq => ?_) fun _ _ e => e
  obtain ⟨z, H', I', rz, k, rfl, q⟩ := hq
  obtain rfl : r = Value.bool k := rz
  exact ⟨.bl k, H', I', rfl, q⟩
theorem op_neOwn (F : FnOk X.prog X.w X.K X.mg X.base CX n f fd ps sp) (hr : Room (n + 1) X.A) (cl : Cls X.K C) (hne : PySem.W.findIn X.K (.ref C) "__ne__" = some (some (.builtin "object.__ne__"))) (mt : Meth X.K C "__eq__" f) (hb : Binds X.K fd ps []) (hx : Passes CX X E) : OpR X (compareOp .NotEq) (rEqOwn C sp E true) := by
  intro pins s σ H x y v u Q I rx ry h
  obtain ⟨a, b, dx, dy, fs, gs, rfl, rfl, ha, hb', hsp⟩ := h
  cases rx
  cases ry
  obtain ⟨mA, J, _⟩ := ins_get I.hok ha
  obtain ⟨mB, J', _⟩ := ins_get I.hok hb'
  obtain ⟨od, J, _⟩ := J.look
  obtain ⟨od', J', _⟩ := J'.look
  obtain ⟨m, hF⟩ := I.fr
  refine ne_K (tb := .ref C) (by have := hr.un; omega) hF I.ok.mod.kin J J'.type (by simp [PySem.W.notFirst]) cl.po hne mt.at_ mt.fn ?_
  refine wpAny_mono (run_at F hr.in1 rfl hb hx I (.cons (show RelV (.ref a) (.ref a) from rfl) (.cons (show RelV (.ref b) (.ref b) from rfl) .nil)) hsp) (fun r s' hq => ?_) fun _ _ e => e
  obtain ⟨z, H', I', rz, k, rfl, q⟩ := hq
  obtain rfl : r = Value.bool k := rz
  exact ⟨k, rfl, .bl (!k), H', I', rfl, q⟩
/-- how == of two values answers -/
inductive VEq (K : PySem.W.Frag) (H : Hp) : V → V → Bool → Prop
  | same {x : V} : flatB x = true → VEq K H x x true
  | ref (a : Addr) : VEq K H (.ref a) (.ref a) true
  | dp {x y : V} {d e : PyData} : Dp K H x d → Dp K H y e → SeqAt.shaped d = true → SeqAt.shaped e = true → VEq K H x y (PyData.eqv d e)
inductive VEqs (K : PySem.W.Frag) (H : Hp) : List V → List V → Bool → Prop
  | nil : VEqs K H [] [] true
  | cons {x y : V} {xs ys : List V} {a b : Bool} : VEq K H x y a → VEqs K H xs ys b → VEqs K H (x :: xs) (y :: ys) (a && b)
end
structure InsTy (K : PySem.W.Frag) (C : Addr) : Prop where
  ha : PySem.W.findIn K (.ref C) "__class__" = some (some (.builtin "object.__class__"))
  hn : PySem.W.specialIn K (.builtin "object.__class__") "__get__" = some (some (.builtin "getset_descriptor.__get__"))
  htk : PySem.W.takesIn K (.builtin "object.__class__") = some true
  hm : PySem.W.mroIn K C (.type "object") = some true
theorem InsTy.ty {K : PySem.W.Frag} {C : Addr} {H : Hp} {a dx : Addr} {fs : List (Str × V)} (t : InsTy K C) (c : Cls K C) (e : H a = some (.ins C dx fs)) : TyX K H (.ref a) (.ref C) := .base (.ins e c t.ha t.hn t.htk t.hm)
theorem r_isiOwn {K : PySem.W.Frag} {C : Addr} {H : Hp} {Q : VK} {a dx : Addr} {fs : List (Str × V)} (t : InsTy K C) (c : Cls K C) (e : H a = some (.ins C dx fs)) (h : Q (.bl true) H) : rIsi K [.ref a, .ref C] H Q :=
  ⟨_, _, .ref C, .ref C, true, rfl, .own C, t.ty c e, by simp [PySem.W.kitOne], h⟩
section
variable {X : Cx} {K : PySem.W.Frag}
theorem veq_run {pins : List (Addr × Obj)} {σ : St} {H : Hp} {s : Shared} (I : Inv X pins σ H s) {A : Around} (hu : A.units + 64 < cLine) {x y : V} {r : Bool} (h : VEq X.K H x y r) {u v : Value} (rx : RelV x u) (ry : RelV y v) : SeqAt.EqP X.prog X.w A s u v r := by
  cases h with
  | same f => exact (eqAt_same rx ry f).eqP
  | ref a =>
    cases (show u = Value.ref a from rx)
    cases (show v = Value.ref a from ry)
    exact (SeqAt.EqAt.same _).eqP
  | dp d e sd se =>
    obtain ⟨as, r1⟩ := Dp.reads I _ x u d rx
    obtain ⟨bs, r2⟩ := Dp.reads I _ y v e ry
    exact (SeqAt.eqAt_reads _ _ A s _ _ as bs r1 r2 (SeqAt.canLay_of_shaped sd) (SeqAt.canLay_of_shaped se) (SeqAt.room_of_shaped sd hu)).eqP
/-- the pairs of one dict looked up in another -/
inductive HitV (K : PySem.W.Frag) (H : Hp) (ls : List (Key × V)) : List (Key × V) → Bool → Prop
  | nil : HitV K H ls [] true
  | miss {k : Key} {v : V} {r : List (Key × V)} : valV ls k = none → HitV K H ls ((k, v) :: r) false
  | hit {k : Key} {v y : V} {r : List (Key × V)} {a b : Bool} : valV ls k = some y → VEq K H v y a → HitV K H ls r b → HitV K H ls ((k, v) :: r) (a && b)
theorem hit_run {pins : List (Addr × Obj)} {σ : St} {H : Hp} {s : Shared} (I : Inv X pins σ H s) {A : Around} (hu : A.units + 64 < cLine) {ls : List (Key × V)} {vb : List (Key × Value)} (rb : KV ls vb) {ks : List (Key × V)} {r : Bool} (h : HitV X.K H ls ks r) :
    ∀ {va : List (Key × Value)}, KV ks va → PySem.W.KeqHitsP X.prog X.w A s vb va r := by
  induction h with
  | nil => intro va ra; cases ra; exact .nil
  | @miss k v r e =>
    intro va ra
    cases ra with
    | @cons p q ps qs h t =>
      obtain ⟨h1, h2⟩ := h
      obtain ⟨k', v'⟩ := q
      obtain rfl : k = k' := h1
      have rr : RelO none (valueAt vb k) := by rw [← e]; exact rb.val k
      exact .miss (by
        cases e2 : valueAt vb k with
        | none => rfl
        | some y => rw [e2] at rr; cases rr)
  | @hit k v y r a b e f g ih =>
    intro va ra
    cases ra with
    | @cons p q ps qs h t =>
      obtain ⟨h1, h2⟩ := h
      obtain ⟨k', v'⟩ := q
      obtain rfl : k = k' := h1
      have rr : RelO (some y) (valueAt vb k) := by rw [← e]; exact rb.val k
      obtain ⟨z, hz, rz⟩ := rr.some_of
      exact .hit hz (veq_run I hu f h2 rz) (ih t)
/-- == of two dicts -/
def rEqDk (K : PySem.W.Frag) : R2 := fun x y H Q => ∃ a b ks ls r, x = .ref a ∧ y = .ref b ∧ H a = some (.dK ks) ∧ H b = some (.dK ls) ∧ (ks.length = ls.length → HitV K H ls ks r) ∧ Q (.bl (ks.length == ls.length && r)) H
theorem op_eqDk (hu : X.A.units + 65 < cLine) : OpR X (compareOp .Eq) (rEqDk X.K) := by
  intro pins s σ H x y v u Q I rx ry h
  obtain ⟨a, b, ks, ls, r, rfl, rfl, ha, hb, hh, q⟩ := h
  cases rx
  cases ry
  obtain ⟨_, ya, va, ra, da⟩ := (show ObjOk X.prog X.w H s.heap a (.dK ks) from I.hok a _ ha)
  obtain ⟨_, yb, vb, rb, db⟩ := (show ObjOk X.prog X.w H s.heap b (.dK ls) from I.hok b _ hb)
  have e1 : ks.length = va.length := ra.length
  have e2 : ls.length = vb.length := rb.length
  refine PySem.W.rcP_dicts (knd := mixKind X.prog X.w) (r := r) ya yb da db (by omega) (fun e => hit_run I (by show X.A.units + 1 + 64 < cLine; omega) rb (hh (by omega)) ra) X.xe _ ⟨.bl _, H, I, rfl, ?_⟩
  rw [← e1, ← e2]
  exact q
theorem eqDk (hu : X.A.units + 65 < cLine) (h : X.K = K := by rfl) : OpR X (compareOp .Eq) (rEqDk K) := h ▸ op_eqDk hu
theorem VEqs.len {H : Hp} {xs ys : List V} {r : Bool} (h : VEqs K H xs ys r) : xs.length = ys.length := by
  induction h with
  | nil => rfl
  | cons _ _ ih => simp [ih]
theorem valV_drop {l : List (Key × V)} {k : Key} {r : List (Key × V)} (h : valV l k = none) : valV (l ++ r) k = valV r k := by
  induction l with
  | nil => rfl
  | cons p l ih =>
    obtain ⟨k', v⟩ := p
    by_cases e : k' = k
    · rw [e, valV_pos rfl] at h; cases h
    · rw [valV_neg e] at h
      exact (valV_neg e).trans (ih h)
end

/-! ### loops, joins; deeds -/
def tIfJ (c : TT) (t u : TS) : TS := tIfS c t u
theorem ifJ {X : Cx} {st : Stmt} {c : TT} {t u : TS} (h : PS X st (tIfS c t u)) : PS X st (tIfJ c t u) := h
section
variable {C : Addr} {K : PySem.W.Frag} {Tb : List (Addr × Str)} {D : Ends} {σ : St} {H : Hp} {L : List R}
theorem r_ifJ {tt : TT} {t u : TS} (h : tt σ H fun b H1 => if b = true then t D σ H1 else u D σ H1) : tIfJ tt t u D σ H := h
theorem r_join (PA PB : Hp → Prop) {tt : TT} {t u : TS} (h : ∀ A B : Hp → Prop, (∀ H1, PA H1 → A H1) → (∀ H1, PB H1 → B H1) → tt σ H fun b H1 => if b = true then A H1 else B H1) (hA : ∀ H1, PA H1 → t D σ H1) (hB : ∀ H1, PB H1 → u D σ H1) : tIfJ tt t u D σ H := h _ _ hA hB
theorem s_while {c : TT} {tb : TS} (Pv : Nat → St → Hp → Prop) (h0 : ∃ m, Pv m σ H) (hs : ∀ m σ H, Pv m σ H → c σ H fun b H1 => if b = true then ∃ N : St → Hp → Prop, (∀ σ' H', N σ' H' → ∃ m', m' < m ∧ Pv m' σ' H') ∧ tb { D with nx := N, ct := N, bk := D.nx } σ H1 else D.nx σ H1) : tWhile c tb D σ H := ⟨Pv, h0, hs⟩
theorem w_turn {m : Nat} {tb : TS} {Pv : Nat → St → Hp → Prop} (h : tb { D with nx := fun σ' H' => ∃ m', m' < m ∧ Pv m' σ' H', ct := fun σ' H' => ∃ m', m' < m ∧ Pv m' σ' H', bk := D.nx } σ H) : ∃ N : St → Hp → Prop, (∀ σ' H', N σ' H' → ∃ m', m' < m ∧ Pv m' σ' H') ∧ tb { D with nx := N, ct := N, bk := D.nx } σ H := ⟨_, fun _ _ z => z, h⟩
end
/-- a deed: a take, or a give by age -/
abbrev Deed := Option Nat
def dD : Deed → PyData
  | none => .str "take"
  | some k => .tuple [.str "give", .int (k : Int)]
theorem dD_take (x : Deed) : PyData.eqv (dD x) (.str "take") = decide (x = none) := by
  cases x with
  | none => show (("take" : Str) == ("take" : Str)) = _; simp
  | some k => rfl
theorem dD_shaped (x : Deed) : SeqAt.shaped (dD x) = true := by
  have h1 : PyData.strOk "take" = true := by decide +kernel
  have h2 : PyData.strOk "give" = true := by decide +kernel
  cases x <;> simp [dD, SeqAt.shaped, PyData.canLay0, PyData.canLayAll0, PyData.depth, PyData.depthAll, h1, h2]
theorem take_shaped : SeqAt.shaped (.str "take") = true := dD_shaped none
def goD (lim : Nat) : Nat → List Deed → Option Nat
  | a, [] => some a
  | a, none :: r => if a < lim then goD lim (a + 1) r else none
  | a, some k :: r => if k < a then goD lim (a - 1) r else none
theorem goD_app (lim : Nat) : ∀ (ds es : List Deed) (a : Nat), goD lim a (ds ++ es) = (goD lim a ds).bind fun b => goD lim b es
  | [], es, a => rfl
  | none :: r, es, a => by
    show (if a < lim then goD lim (a + 1) (r ++ es) else none) = (if a < lim then goD lim (a + 1) r else none).bind _
    split
    · exact goD_app lim r es (a + 1)
    · rfl
  | some k :: r, es, a => by
    show (if k < a then goD lim (a - 1) (r ++ es) else none) = (if k < a then goD lim (a - 1) r else none).bind _
    split
    · exact goD_app lim r es (a - 1)
    · rfl
theorem goD_take {lim a b : Nat} {ds : List Deed} (h : goD lim a ds = some b) (hb : b < lim) : goD lim a (ds ++ [none]) = some (b + 1) := by
  rw [goD_app, h]; show (if b < lim then some (b + 1) else none) = _; rw [if_pos hb]
theorem goD_give {lim a b k : Nat} {ds : List Deed} (h : goD lim a ds = some b) (hb : k < b) : goD lim a (ds ++ [some k]) = some (b - 1) := by
  rw [goD_app, h]; show (if k < b then some (b - 1) else none) = _; rw [if_pos hb]
def exD (vals : List V) : SM → Nat → List Deed → SM
  | m, _, [] => m
  | m, j, none :: r => exD vals (m.take (vals.getD j .non)) (j + 1) r
  | m, j, some k :: r => exD vals (m.give (m.ages.getD k 0)) j r
def exH : SM → List Deed → List (Int × Int)
  | _, [] => []
  | m, none :: r => ((m.slot : Int), (m.take .non).gen m.slot) :: exH (m.take .non) r
  | m, some k :: r => exH (m.give (m.ages.getD k 0)) r
section
variable {C : Addr} {K : PySem.W.Frag} {Tb : List (Addr × Str)} {H : Hp} {L : List R}
theorem Sep.deed {v : V} {k : Nat} (S : Sep C K Tb H L) (h : Has true L v (dD (some k))) : ∃ t, v = .ref t ∧ Sep C K Tb H (.tup t [.str "give", .int (k : Int)] :: L) := by
  obtain ⟨⟨Φ, h1, h2⟩, t⟩ := S
  have g : Dr H Φ v (.tuple [.str "give", .int (k : Int)]) := Sep.dr_ h2 h
  cases g with
  | @tup p xs _ e f g =>
    cases g with
    | cons g1 g =>
      cases g1
      cases g with
      | cons g2 g =>
        cases g2
        cases g
        exact ⟨p, rfl, ⟨⟨Φ, h1, fun _ => False, ⟨e, f, fun _ z => z⟩, fun _ z => z.elim, h2.mono fun a u => ⟨u, fun z => z⟩⟩, t⟩⟩
end
theorem SM.live_at {m : SM} {k : Nat} (h : k < m.live.length) : ∃ s v, m.live[k]? = some (s, v) ∧ (s, v) ∈ m.live ∧ m.ages[k]? = some s ∧ m.ages.getD k 0 = s ∧ m.liveH[k]? = some ((s : Int), m.gen s) := by
  obtain ⟨x, hx⟩ : ∃ x, m.live[k]? = some x := ⟨_, List.getElem?_eq_getElem h⟩
  obtain ⟨s, v⟩ := x
  have e1 : m.ages[k]? = some s := by rw [SM.ages, List.getElem?_map, hx]; rfl
  refine ⟨s, v, hx, List.mem_of_getElem? hx, e1, ?_, ?_⟩
  · rw [List.getD_eq_getElem?_getD, e1]; rfl
  · rw [SM.liveH, List.getElem?_map, e1]; rfl
theorem SM.liveH_len (m : SM) : m.liveH.length = m.live.length := by simp [SM.liveH, SM.ages]
theorem SM.give_len {m : SM} (h : m.Ok) {s : Nat} (hs : s ∈ m.ages) : (m.give s).live.length = m.live.length - 1 := by
  have h1 := congrArg List.length (SM.ages_giveE h s)
  rw [List.length_erase_of_mem hs] at h1
  simpa [SM.ages] using h1
theorem SM.take_len (m : SM) (v : V) : (m.take v).live.length = m.live.length + 1 := by simp [SM.take]
theorem SM.mem_ages {m : SM} {s : Nat} {v : V} (h : (s, v) ∈ m.live) : s ∈ m.ages := List.mem_map.mpr ⟨_, h, rfl⟩
/-- values of a map -/
def SM.vals (m : SM) : List V := m.live.map (·.2)
theorem vals_take {m : SM} {v : V} {P : V → Prop} (h : ∀ u ∈ m.vals, P u) (hv : P v) : ∀ u ∈ (m.take v).vals, P u := fun u hu => by
  have : u ∈ m.vals ++ [v] := by simpa [SM.vals, SM.take] using hu
  rcases List.mem_append.mp this with z | z
  · exact h u z
  · rw [List.mem_singleton.mp z]; exact hv
theorem vals_give {m : SM} {s : Nat} {P : V → Prop} (h : ∀ u ∈ m.vals, P u) : ∀ u ∈ (m.give s).vals, P u := fun u hu => by
  obtain ⟨x, h1, h2⟩ := List.mem_map.mp hu
  exact h u (List.mem_map.mpr ⟨x, (List.mem_filter.mp h1).1, h2⟩)

theorem DrAll.erase {H : Hp} {Φ : Addr → Prop} : ∀ {vs : List V} {ds : List PyData} (j : Nat), DrAll H Φ vs ds → DrAll H Φ (vs.eraseIdx j) (ds.eraseIdx j)
  | _, _, _, .nil => .nil
  | _, _, 0, .cons _ h2 => h2
  | _, _, j + 1, .cons h1 h2 => .cons h1 (h2.erase j)
theorem DrAll.take {H : Hp} {Φ : Addr → Prop} : ∀ {vs : List V} {ds : List PyData} (j : Nat), DrAll H Φ vs ds → DrAll H Φ (vs.take j) (ds.take j)
  | _, _, 0, _ => by simpa using DrAll.nil
  | _, _, _ + 1, .nil => .nil
  | _, _, j + 1, .cons h1 h2 => .cons h1 (h2.take j)
theorem DrAll.drop {H : Hp} {Φ : Addr → Prop} : ∀ {vs : List V} {ds : List PyData} (j : Nat), DrAll H Φ vs ds → DrAll H Φ (vs.drop j) (ds.drop j)
  | _, _, 0, h => h
  | _, _, _ + 1, .nil => .nil
  | _, _, j + 1, .cons h1 h2 => h2.drop j
section
variable {C : Addr} {K : PySem.W.Frag} {Tb : List (Addr × Str)} {H : Hp} {L : List R} {vs : List V} {ds : List PyData}
theorem Sep.datsE (S : Sep C K Tb H L) (h : HasAll true L vs ds) (j : Nat) : Sep C K Tb H (.dats (vs.eraseIdx j) (ds.eraseIdx j) :: L) := S.fact (Q := fun _ => True) _ fun _ _ s => ⟨(Sep.drs_ s h).erase j, fun _ z => z⟩
theorem Sep.datsT (S : Sep C K Tb H L) (h : HasAll true L vs ds) (j : Nat) : Sep C K Tb H (.dats (vs.take j) (ds.take j) :: L) := S.fact (Q := fun _ => True) _ fun _ _ s => ⟨(Sep.drs_ s h).take j, fun _ z => z⟩
theorem Sep.datsD (S : Sep C K Tb H L) (h : HasAll true L vs ds) (j : Nat) : Sep C K Tb H (.dats (vs.drop j) (ds.drop j) :: L) := S.fact (Q := fun _ => True) _ fun _ _ s => ⟨(Sep.drs_ s h).drop j, fun _ z => z⟩
theorem Sep.ints {ns : List Int} (S : Sep C K Tb H L) (h : HasAll true L vs (ns.map PyData.int)) : vs = ns.map V.int := by
  obtain ⟨⟨Φ, _, h2⟩, _⟩ := S
  have g := Sep.drs_ h2 h
  clear h h2
  induction ns generalizing vs with
  | nil => cases g; rfl
  | cons a r ih =>
    cases g with
    | cons g1 g2 => cases g1; rw [ih g2]; rfl
end
/-- data that == can read -/
def Okd (d : PyData) : Prop := d.canLay0 = true ∧ d.depth ≤ 60
theorem okd_all {ds : List PyData} (h : ∀ d ∈ ds, Okd d) : PyData.canLayAll0 ds = true ∧ PyData.depthAll ds ≤ 60 := by
  induction ds with
  | nil => exact ⟨rfl, by simp [PyData.depthAll]⟩
  | cons a r ih =>
    obtain ⟨h1, h2⟩ := h a List.mem_cons_self
    obtain ⟨h3, h4⟩ := ih fun d hd => h d (List.mem_cons_of_mem _ hd)
    exact ⟨by simp [PyData.canLayAll0, h1, h3], by simp only [PyData.depthAll]; omega⟩
theorem okd_list {ds : List PyData} (h : ∀ d ∈ ds, Okd d) : SeqAt.shaped (.list ds) = true := by
  obtain ⟨h1, h2⟩ := okd_all h
  have h3 : PyData.depth (.list ds) ≤ 64 := by simp only [PyData.depth]; omega
  simp [SeqAt.shaped, PyData.canLay0, h1, h3]
theorem okd_tup {ds : List PyData} (h : ∀ d ∈ ds, Okd d) : SeqAt.shaped (.tuple ds) = true := by
  obtain ⟨h1, h2⟩ := okd_all h
  have h3 : PyData.depth (.tuple ds) ≤ 64 := by simp only [PyData.depth]; omega
  simp [SeqAt.shaped, PyData.canLay0, h1, h3]
theorem okd_int (i : Int) : Okd (.int i) := ⟨rfl, by simp [PyData.depth]⟩
theorem okd_pd (p : Int × Int) : Okd (pd p) := ⟨by simp [pd, PyData.canLay0, PyData.canLayAll0], by simp [pd, PyData.depth, PyData.depthAll]⟩
theorem okd_dD (x : Deed) : Okd (dD x) := by
  have h1 : PyData.strOk "take" = true := by decide +kernel
  have h2 : PyData.strOk "give" = true := by decide +kernel
  cases x <;> simp [Okd, dD, PyData.canLay0, PyData.canLayAll0, PyData.depth, PyData.depthAll, h1, h2]
theorem eqv_nil (ds : List PyData) : PyData.eqv (.list ds) (.list []) = decide (ds = []) := by
  cases ds with
  | nil => rfl
  | cons a r => rfl
theorem rl_mem {v : V} (h : v ∈ [V.str "last", .str "first", .str "lowest", .str "least"]) : ∃ r : Rl, v = .str r.s := by
  simp only [List.mem_cons, List.not_mem_nil, or_false] at h
  rcases h with rfl | rfl | rfl | rfl
  · exact ⟨.last, rfl⟩
  · exact ⟨.first, rfl⟩
  · exact ⟨.lowest, rfl⟩
  · exact ⟨.least, rfl⟩
theorem lim_mem {v : V} {n k : Nat} (hk : k < n) (h : v ∈ [V.int 1, .int (1 + ((n - 1 : Nat) : Int)), .int (1 + (k : Int))]) : ∃ l : Nat, v = .int l ∧ 1 ≤ l ∧ l ≤ n := by
  simp only [List.mem_cons, List.not_mem_nil, or_false] at h
  rcases h with rfl | rfl | rfl
  · exact ⟨1, rfl, by omega, by omega⟩
  · exact ⟨n, by congr 1; omega, by omega, by omega⟩
  · exact ⟨k + 1, by congr 1; omega, by omega, by omega⟩
theorem inV_iv (s : Nat) (l : List Nat) : inV (.int (s : Int)) (iv l) = decide (s ∈ l) := by
  unfold iv
  rw [inV_ints]
  by_cases h : s ∈ l
  · rw [decide_eq_true h, decide_eq_true (mem_ci.mpr h)]
  · rw [decide_eq_false h, decide_eq_false fun z => h (mem_ci.mp z)]
theorem s_inN {C : Addr} {K : PySem.W.Frag} {Tb : List (Addr × Str)} {H : Hp} {L : List R} {Q : VK} {q : Addr} {l : List Nat} {s : Nat} (S : Sep C K Tb H L) (h : R.cell q (.lst (iv l)) ∈ L) (k : Q (.bl (decide (s ∈ l))) H) : rIn K false (.int (s : Int)) (.ref q) H Q :=
  r_inL (SqL.of (S.get h)) rfl (flat_ints _) (by rw [inV_iv]; exact k)
theorem s_ninN {C : Addr} {K : PySem.W.Frag} {Tb : List (Addr × Str)} {H : Hp} {L : List R} {Q : VK} {q : Addr} {l : List Nat} {s : Nat} (S : Sep C K Tb H L) (h : R.cell q (.lst (iv l)) ∈ L) (k : Q (.bl (!decide (s ∈ l))) H) : rIn K true (.int (s : Int)) (.ref q) H Q :=
  r_ninL (SqL.of (S.get h)) rfl (flat_ints _) (by rw [inV_iv]; exact k)

/-! ### defs that call repr: nothing is being shown around them -/
structure FnG (P : Program) (w : World) (K : PySem.W.Frag) (mg : Str → Option Value) (base : Heap) (CX : CXT) (k : Nat) (f : Addr) (fd : FuncData) (ps : List Str) (sp : Sp) : Prop where
  len : ∀ vs H Q E, sp vs H Q E → vs.length = ps.length
  go : ∀ (A : Around) (outer : List Env) (s : Shared) (H : Hp) (args : PySem.Args) (us : List Value) (vs : List V) (Q : VK) (E : XK), A.guards = some [] → Room k A → Env0 P w K mg base A outer s H → BindsTo s fd args (ps.zip us) → Vals vs us → sp vs H Q E → codeAny (model P w) A (.call (.ref f) args) (CR CX outer P w H s Q E) s
section
variable {P : Program} {w : World} {K : PySem.W.Frag} {mg : Str → Option Value} {base : Heap} {CX : CXT} {k : Nat} {f : Addr} {fd : FuncData} {ps : List Str} {sp : Sp}
theorem _root_.L2.FnOk.g (F : FnOk P w K mg base CX k f fd ps sp) : FnG P w K mg base CX k f fd ps sp := ⟨F.len, fun A o s H a us vs Q E _ => F.run A o s H a us vs Q E⟩
theorem fnG_of {qual : Str} {oc kV doc pm cdv ct : Value} {an od : Option Addr} {osl : Array (Option Value)} {x : Str} {st : Stmt} {N : List Str} (lk : K.lookup f = some ⟨oc, od, .func (PySem.W.fnOf x qual (defArgs st) (defBody st) (defScope st) .none kV doc pm an cdv ct), osl⟩)
    (hc : PySem.W.codeIn K cdv qual = true) (S : FnScope N ps (defScope st)) (len : ∀ vs H Q E, sp vs H Q E → vs.length = ps.length)
    (body : ∀ (A : Around) (outer : List Env) (s : Shared) (H : Hp) (vs : List V) (Q : VK) (E : XK), (A.deeper (PyProof.Rows.envOfC qual (defScope st) s.heap.objs.size f cdv)).guards = some [] → Room k (A.deeper (PyProof.Rows.envOfC qual (defScope st) s.heap.objs.size f cdv)) → sp vs H Q E →
      ∃ t, PSs (cxOf CX P w K mg base N qual (defScope st) f cdv A outer s H E) (defBody st) t ∧ t { nx := fun _ H' => Q .non H', rt := Q } (start N vs) H) :
    FnG P w K mg base CX (k + 1) f (PySem.W.fnOf x qual (defArgs st) (defBody st) (defScope st) .none kV doc pm an cdv ct) ps sp := by
  constructor
  · exact len
  intro A outer s H args us vs Q E gd room env0 bind rel want
  have old : ∀ b o, base.get? b = some o → s.heap.get? b = some o := fun b o e => (env0.bs b o e).1
  have inK : K.In s.heap := env0.mod.kin.keeps old
  have kinds : ∀ y ∈ ps.zip us, (defScope st).names.lookup y.1 = some .local ∨ ((defScope st).names.lookup y.1 = some .cell ∧ ((PySem.cellsFrom (s.heap.objs.size + 1) (defScope st).names []).lookup y.1).isSome = true) := by
    rintro ⟨n, v⟩ hy
    exact (S.par n (List.of_mem_zip hy).1).imp id fun q => ⟨q, PySem.W.cellsFrom_some _ _ _ (.inl q)⟩
  refine codeAny_call_function room.depth (inK _ _ lk) rfl S.co S.gen rfl (PySem.W.codeRec_of inK hc) (bind _ _ _ _ (PySem.wpAny_newFunctionEnv_cells S.kind kinds ?_))
  rintro _ rfl s1 x
  refine ⟨(env0.mod.nolimit.keeps old).keeps x.toInCall.keep, codeAny_func ?_⟩
  obtain ⟨t, ht, hq⟩ := body A outer s H vs Q E gd (room.deeper _) want
  refine wpAny_mono (ht.run [] s1 (start N vs) H _ (inv_start S room.hd env0 (len _ _ _ _ want) rel x) hq) ?_ fun _ _ z => z
  rintro (_ | _ | _ | u) s' hs
  · obtain ⟨σ', H', J, q⟩ := hs
    exact ⟨V.non, H', J.os, J.bare, J.base, J.hok, rfl, q⟩
  · exact hs.elim fun _ z => z.elim fun _ z => z.2.elim
  · exact hs.elim fun _ z => z.elim fun _ z => z.2.elim
  · obtain ⟨v, σ', H', J, rv, q⟩ := hs
    exact ⟨v, H', J.os, J.bare, J.base, J.hok, rv, q⟩
end
section
variable {X : Cx} {CX : CXT} {k : Nat} {f : Addr} {fd : FuncData} {ps : List Str} {sp : Sp} {ds : List Value} {dvs : List V} {E : XK} {x : Str} {p pos : Pos} {e : Expr} {es : List Expr} {t : TA}
theorem runG {pins : List (Addr × Obj)} {σ : St} {H : Hp} {s : Shared} {Q : VK} {us : List Value} {vs : List V} (F : FnG X.prog X.w X.K X.mg X.base CX k f fd ps sp) (gd : X.A.guards = some []) (room : Room k X.A) (hb : Binds X.K fd ps ds) (hd : Vals dvs ds) (hx : Passes CX X E) (I : Inv X pins σ H s) (rel : Vals vs us) (want : sp (vs ++ dvs) H Q E) :
    wpAny (model X.prog X.w) X.A (call (.ref f) us) (EP X pins σ Q) X.xe s := by
  have rel2 := rel.append hd
  have len2 := rel2.length.symm.trans (F.len _ _ _ _ want)
  refine wpAny_call (codeAny_mono (F.go X.A X.stack s H _ _ _ Q E gd room I.env0 (hb s us I.kIn len2) rel2 want) ?_)
  rintro (e | _ | _ | _ | u) s' hq
  · exact hx pins σ H s e s' I hq
  · exact hq.elim
  · exact hq.elim
  · exact hq.elim
  · exact I.after hq
theorem pe_callG (F : FnG X.prog X.w X.K X.mg X.base CX k f fd ps sp) (gd : X.A.guards = some []) (room : Room k X.A) (hg : Gl X x) (hm : X.mg x = some (.ref f)) (hk : PySem.W.keepIn X.K (.ref f) = true) (hb : Binds X.K fd ps ds) (hd : Vals dvs ds) (hx : Passes CX X E)
    (ha : PA X (e :: es) t) (hdb : (x == ("__debug__" : Str)) = false := by decide) (he : starEach (e :: es) X.env = (false, eval e X.env) :: starEach es X.env := by rfl) (hpl : (backTo pos (starEach es X.env)).any (·.1) = false := by rfl) :
    PE X (.Call (.Name x p) (e :: es) [] pos) (tCall sp dvs E t) := by
  constructor
  intro pins s σ H Q I want
  exact wpAny_Call_Name_kw (ld_glob I hg hm (PySem.W.callWith_K (h₀ := X.base) I.ok.mod.kin hk (thn (ha.run pos pins s σ H _ I want) fun us s1 ⟨vs, H1, I1, r, q⟩ => ⟨I1.kIn, runG F gd room hb hd hx I1 r q⟩) he hpl) hdb)
theorem pe_call0G (F : FnG X.prog X.w X.K X.mg X.base CX k f fd ps sp) (gd : X.A.guards = some []) (room : Room k X.A) (hg : Gl X x) (hm : X.mg x = some (.ref f)) (hk : PySem.W.keepIn X.K (.ref f) = true) (hb : Binds X.K fd ps ds) (hd : Vals dvs ds) (hx : Passes CX X E)
    (hdb : (x == ("__debug__" : Str)) = false := by decide) : PE X (.Call (.Name x p) [] [] pos) (tCall sp dvs E tNil) := by
  constructor
  intro pins s σ H Q I want
  exact wpAny_Call_Name_kw (ld_glob I hg hm (PySem.W.callWith_K0 I.kIn hk (runG (us := []) F gd room hb hd hx I .nil want)) hdb)
end
section
variable {P : Program} {w : World} {K : PySem.W.Frag} {mg : Str → Option Value} {base : Heap} {x qual : Str} {st : Stmt} {f c : Addr} {fd : FuncData} {N ps : List Str} {k : Nat} {sp : Sp}
theorem _root_.L2.Fun.okG (F : Fun K x qual st f fd) (S : FnScope N ps (defScope st)) (len : ∀ vs H Q E, sp vs H Q E → vs.length = ps.length)
    (body : ∀ (cdv : Value) (A : Around) (outer : List Env) (s : Shared) (H : Hp) (vs : List V) (Q : VK) (E : XK), (A.deeper (PyProof.Rows.envOfC qual (defScope st) s.heap.objs.size f cdv)).guards = some [] → Room k (A.deeper (PyProof.Rows.envOfC qual (defScope st) s.heap.objs.size f cdv)) → sp vs H Q E →
      ∃ t, PSs (cxOf CX0 P w K mg base N qual (defScope st) f cdv A outer s H E).nox (defBody st) t ∧ t { nx := fun _ H' => Q .non H', rt := Q } (start N vs) H) : FnG P w K mg base CX0 (k + 1) f fd ps sp := by
  obtain ⟨oc, od, kV, doc, pm, an, cdv, ct, osl, rfl, lk, hcd⟩ := F.ex
  exact fnG_of lk hcd S len fun A outer s H vs Q E gd hr want => let ⟨t, h, q⟩ := body cdv A outer s H vs Q E gd hr want; ⟨t, h.nox, q⟩
theorem FunC.okG (F : FunC K x qual st f fd c) (S : FnScope N ps (defScope st)) (len : ∀ vs H Q E, sp vs H Q E → vs.length = ps.length)
    (body : ∀ (cdv : Value) (A : Around) (outer : List Env) (s : Shared) (H : Hp) (vs : List V) (Q : VK) (E : XK), (A.deeper (PyProof.Rows.envOfC qual (defScope st) s.heap.objs.size f (.ref c))).guards = some [] → Room k (A.deeper (PyProof.Rows.envOfC qual (defScope st) s.heap.objs.size f (.ref c))) → sp vs H Q E →
      ∃ t, PSs (cxOf CX0 P w K mg base N qual (defScope st) f (.ref c) A outer s H E).nox (defBody st) t ∧ t { nx := fun _ H' => Q .non H', rt := Q } (start N vs) H) : FnG P w K mg base CX0 (k + 1) f fd ps sp := by
  obtain ⟨oc, od, kV, doc, pm, an, ct, osl, rfl, lk, hcd⟩ := F.ex
  exact fnG_of lk hcd S len fun A outer s H vs Q E gd hr want => let ⟨t, h, q⟩ := body (.ref c) A outer s H vs Q E gd hr want; ⟨t, h.nox, q⟩
end
/-- repr of data -/
def rReprD (K : PySem.W.Frag) : List V → Hp → VK → Prop := fun xs H Q => ∃ (x : V) (d : PyData), xs = [x] ∧ Dp K H x d ∧ SeqAt.shaped d = true ∧ d.showable = true ∧ d.shown.length ≤ sizeLine ∧ Q (.str d.shown) H
theorem cr_repr {X : Cx} (gd : X.A.guards = some []) (hu : X.A.units + 70 < cLine) : CallR X (.builtin "repr") (rReprD X.K) := by
  intro pins s σ H xs us Q I r h
  obtain ⟨x, d, rfl, hd, sh, sw, sz, q⟩ := h
  obtain ⟨u, rfl, rx⟩ := vals1 r
  obtain ⟨as, hr⟩ := Dp.reads I d x u hd rx
  have hl := SeqAt.canLay_of_shaped sh
  have dp : d.depth ≤ 64 := by
    have : (d.canLay0 && decide (d.depth ≤ 64)) = true := sh
    simp only [Bool.and_eq_true, decide_eq_true_eq] at this
    exact this.2
  have ref : ∀ a, u = .ref a → wpAny (model X.prog X.w) X.A (call (.builtin "repr") [u]) (EP X pins σ Q) X.xe s := by
    rintro a rfl
    exact repr_of_reads' hr sw (PyData.noDict_hsm (PyData.hasDict_of_canLay d hl)) gd (by omega) (fun _ _ e => e) (fun h' v tk hk => ⟨.str _, H, I.kept hk, ⟨_, rfl⟩, q⟩) sz
  cases hd with
  | non => cases rx; exact PySem.P.repr_of_none ⟨.str _, H, I.tok _, ⟨_, by simp only [PyData.shown]; rfl⟩, q⟩
  | bl b => cases rx; exact PySem.P.repr_of_bool ⟨.str _, H, I.tok _, ⟨_, by simp only [PyData.shown]; rfl⟩, q⟩
  | int i => obtain ⟨t, rfl⟩ := rx; exact PySem.P.repr_of_int (by simpa [PyData.showable] using sw) ⟨.str _, H, I.tok _, ⟨_, by simp only [PyData.shown]; rfl⟩, q⟩
  | str z => obtain ⟨t, rfl⟩ := rx; exact PySem.P.repr_of_str ⟨.str _, H, I.tok _, ⟨_, by simp only [PyData.shown]; rfl⟩, q⟩ (by simpa only [PyData.shown] using sz)
  | lst e a => exact ref _ rx
  | tup e a => exact ref _ rx
theorem reprK {X : Cx} {K : PySem.W.Frag} (gd : X.A.guards = some []) (hu : X.A.units + 70 < cLine) (h : X.K = K := by rfl) : CallR X (.builtin "repr") (rReprD K) := h ▸ cr_repr gd hu

/-! ### the law's end for such a def -/
section
open PySem PySem.Spec PyProof.Rows L2
def LawAtG (l : PySem.W.OpenLaw) (w : World) (K : PySem.W.Frag) (k n : Nat) (x : Str) (mg : Str → Option Value) (fa : Addr) (h : Heap) : Prop :=
  ∃ (fd : FuncData) (cs : List (Addr × Addr)) (sp : Sp), (∀ p ∈ cs, h.get? p.2 = some { cls := .none, data := .fields #[] }) ∧ (∀ p ∈ cs, K.lookup p.2 = none) ∧ (∀ p ∈ cs, PySem.W.CodeHd h p.1 p.2) ∧ (∀ (s : Shared) (u : Value), BindsTo s fd ⟨[u], []⟩ [(x, u)]) ∧
    (∀ (H : Hp) (a : Addr) (ns : List Int), ns.length ≤ n → (∀ z ∈ ns, Builtin.Int.intBits z ≤ 1048576) → (∀ p ∈ cs, H p.2 = some (.tbl #[])) → SqL K H a (ns.map V.int) → sp [.ref a] H (fun v _ => v = .bl true) fun _ _ _ => False) ∧
    ∀ base : Heap, K.In base → base.Ns mainGlobals mg → (∀ p ∈ cs, LamX.TabB base mg p.1 p.2) → FnG l.prog w K mg base CX0 k fa fd [x] sp
/-- what is tracked at the law's call: the tables, the script if it is not of the written part -/
def H0 (K : PySem.W.Frag) (ts : List Addr) (a : Addr) (ob : Obj) (ns : List Int) : Hp := fun b => if b ∈ ts then some (.tbl #[]) else if b = a ∧ K.lookup a = none then some (.frz ob (.lst (ns.map V.int))) else none
theorem H0_cases {K : PySem.W.Frag} {ts : List Addr} {a b : Addr} {ob : Obj} {ns : List Int} : (b ∈ ts ∧ H0 K ts a ob ns b = some (.tbl #[])) ∨ (b ∉ ts ∧ b = a ∧ K.lookup a = none ∧ H0 K ts a ob ns b = some (.frz ob (.lst (ns.map V.int)))) ∨ (b ∉ ts ∧ (b = a → K.lookup a ≠ none) ∧ H0 K ts a ob ns b = none) := by
  unfold H0
  by_cases h1 : b ∈ ts
  · exact .inl ⟨h1, if_pos h1⟩
  · by_cases h2 : b = a ∧ K.lookup a = none
    · exact .inr (.inl ⟨h1, h2.1, h2.2, (if_neg h1).trans (if_pos h2)⟩)
    · exact .inr (.inr ⟨h1, fun e z => h2 ⟨e, z⟩, (if_neg h1).trans (if_neg h2)⟩)
theorem callG {P : Program} {w : World} {K : PySem.W.Frag} {mg mb : Str → Option Value} {k : Nat} {fa a : Addr} {cs : List (Addr × Addr)} {fd : FuncData} {x : Str} {sp : Sp} {s₁ : Shared} {vs : List Value} {ns : List Int}
    (inK : K.In s₁.heap) (nsG : s₁.heap.Ns mainGlobals mg) (nsB : s₁.heap.Ns builtinsNs mb) (boot : ∀ x : Str, x ≠ "__name__" → mb x = bootBuiltins x) (lim : s₁.heap.NoLimit) (gens : s₁.gens = #[])
    (tabs : ∀ p ∈ cs, s₁.heap.get? p.2 = some { cls := .none, data := .fields #[] }) (notK : ∀ p ∈ cs, K.lookup p.2 = none) (code : ∀ p ∈ cs, PySem.W.CodeHd s₁.heap p.1 p.2)
    (bm : ∃ (bm : Addr) (ob : Obj), mg "__builtins__" = some (.ref bm) ∧ bm ≠ builtinsNs ∧ s₁.heap.get? bm = some ob ∧ ob.cls = .type "module" ∧ ob.dict = some builtinsNs ∧ ob.data = .plain)
    (scr : s₁.heap.get? a = some { cls := .type "list", data := .seq vs.toArray }) (hin : IntsAre vs ns) (len : ns.length ≤ sizeLine) (room : Room k callerA)
    (F : ∀ base : Heap, K.In base → base.Ns mainGlobals mg → (∀ p ∈ cs, LamX.TabB base mg p.1 p.2) → FnG P w K mg base CX0 k fa fd [x] sp) (bind : ∀ (s : Shared) (u : Value), BindsTo s fd ⟨[u], []⟩ [(x, u)])
    (want : ∀ H : Hp, (∀ p ∈ cs, H p.2 = some (.tbl #[])) → SqL K H a (ns.map V.int) → sp [.ref a] H (fun v _ => v = .bl true) fun _ _ _ => False) :
    codeAny (model P w) callerA (.call (.ref fa) ⟨[.ref a], []⟩) (fun r s' => r = .ok (.ret (.bool true)) ∧ OldK s₁.heap s'.heap ∧ s'.os = s₁.os ∧ AllBare s'.gens) s₁ := by
  have rel := vals_ints hin
  have hlen := hin.length
  have tabT : ∀ b ∈ cs.map (·.2), s₁.heap.get? b = some { cls := .none, data := .fields #[] } := by
    intro b hb
    obtain ⟨p, hp, rfl⟩ := List.mem_map.mp hb
    exact tabs p hp
  have aT : a ∉ cs.map (·.2) := fun z => by
    have q := (tabT a z).symm.trans scr
    simp at q
  let H : Hp := H0 K (cs.map (·.2)) a { cls := .type "list", data := .seq vs.toArray } ns
  have cse : ∀ b, (b ∈ cs.map (·.2) ∧ H b = some (.tbl #[])) ∨ (b ∉ cs.map (·.2) ∧ b = a ∧ K.lookup a = none ∧ H b = some (.frz { cls := .type "list", data := .seq vs.toArray } (.lst (ns.map V.int)))) ∨ (b ∉ cs.map (·.2) ∧ (b = a → K.lookup a ≠ none) ∧ H b = none) := fun b => H0_cases
  have HT : ∀ p ∈ cs, H p.2 = some (.tbl #[]) := fun p hp => by
    have m : p.2 ∈ cs.map (·.2) := List.mem_map.mpr ⟨p, hp, rfl⟩
    rcases cse p.2 with h | h | h
    · exact h.2
    · exact absurd m h.1
    · exact absurd m h.1
  -- what is not tracked
  have free : ∀ {b : Addr} {o : Obj}, s₁.heap.get? b = some o → (∀ us n, o.data ≠ .seq us n) → o.data ≠ .fields #[] → H b = none := by
    intro b o e n1 n2
    rcases cse b with h | h | h
    · rw [tabT b h.1] at e; cases e; exact absurd rfl n2
    · rw [h.2.1, scr] at e; cases e; exact absurd rfl (n1 _ _)
    · exact h.2.2
  have hid : ∀ {b : Addr} {o : Obj}, s₁.heap.get? b = some o → H b = none → (hidT s₁.heap H).get? b = some o := fun e n => hidT_get e n
  have nsH : ∀ {b : Addr} {m : Str → Option Value}, s₁.heap.Ns b m → (hidT s₁.heap H).Ns b m := by
    rintro b m ⟨o, es, ep, e, d, r⟩
    exact ⟨o, es, ep, hid e (free e (fun _ _ z => by rw [d] at z; cases z) fun z => by rw [d] at z; cases z), d, r⟩
  have inB : K.In (hidT s₁.heap H) := by
    intro b o e
    refine hid (inK b o e) ?_
    rcases cse b with h | h | h
    · obtain ⟨p, hp, rfl⟩ := List.mem_map.mp h.1
      rw [notK p hp] at e; cases e
    · rw [h.2.1, h.2.2.1] at e; cases e
    · exact h.2.2
  have okH : HOk P w H s₁.heap := by
    intro b u e
    rcases cse b with h | h | h
    · rw [h.2] at e; cases e; exact tabT b h.1
    · rw [h.2.2.2] at e; cases e
      rw [h.2.1]
      exact ⟨scr, by rw [List.length_map]; exact len, vs, _, rel, scr⟩
    · rw [h.2.2] at e; cases e
  have sq : SqL K H a (ns.map V.int) := by
    rcases cse a with h | h | h
    · exact absurd h.1 aT
    · exact .inl (.inr ⟨_, h.2.2.2⟩)
    · cases hk : K.lookup a with
      | none => exact absurd hk (h.2.1 rfl)
      | some o =>
        have e := inK a o hk
        rw [scr] at e; cases e
        exact .inr ⟨_, vs.toArray, _, hk, rfl, rfl, rfl, by rw [List.size_toArray, hlen]; exact len, by simpa using rel⟩
  have TB : ∀ p ∈ cs, LamX.TabB (hidT s₁.heap H) mg p.1 p.2 := by
    intro p hp
    refine ⟨?_, ?_, ?_⟩
    · obtain ⟨o, us, file, tf, flags, tg, inF, text, tt, e1, r1, r2, r3, rest⟩ := code p hp
      exact ⟨o, us, file, tf, flags, tg, inF, text, tt, hid e1 (free e1 (fun _ _ z => by rw [r2] at z; cases z) fun z => by rw [r2] at z; cases z; simp at r3), r1, r2, r3, rest⟩
    · obtain ⟨m, ob, b1, b2, b3, b4, b5, b6⟩ := bm
      refine ⟨m, ob, b1, b2, ?_, ?_, hid b3 (free b3 (fun _ _ z => by rw [b6] at z; cases z) fun z => by rw [b6] at z; cases z), b4, b5, b6⟩
      · rintro rfl
        obtain ⟨o, es, ep, e, hd, _⟩ := nsG
        rw [e] at b3; cases b3
        rw [hd] at b6; cases b6
      · rintro rfl
        rw [tabs p hp] at b3; cases b3; cases b6
    · intro z
      obtain ⟨o, es, ep, e, hd, _⟩ := nsG
      rw [z, tabs p hp] at e
      cases e; cases hd
  have env0 : Env0 P w K mg (hidT s₁.heap H) callerA [] s₁ H := ⟨rfl, ⟨inB, nsH nsG, ⟨mb, nsH nsB, boot⟩, lim.elim fun mc h => ⟨mc, nsH h.1, h.2⟩⟩, fun b o e => of_hidT e, Nat.le_of_eq (hidT_size _ _), trivial, (fun _ hb => nomatch hb), okH, .of_eq gens⟩
  refine codeAny_mono ((F _ inB (nsH nsG) TB).go callerA [] s₁ H _ [.ref a] [.ref a] _ _ rfl room env0 (bind s₁ (.ref a)) (.cons rfl .nil) (want H HT sq)) ?_
  rintro (e | _ | _ | _ | u) s' h
  · exact h.elim
  · exact h.elim
  · exact h.elim
  · exact h.elim
  obtain ⟨v, H', os, bare, un, okH', r', rfl⟩ := h
  obtain rfl : u = Value.bool true := r'
  have kept : ∀ b o, b ∉ cs.map (·.2) → s₁.heap.get? b = some o → s'.heap.get? b = some o := by
    intro b o nb e
    rcases cse b with h | h | h
    · exact absurd h.1 nb
    · have z := un.frzs b _ _ h.2.2.2
      rw [h.2.1, scr] at e; cases e
      rw [h.2.1] at z ⊢
      exact (okH' a _ z).1
    · exact un.keep b o e h.2.2 (fun z => nomatch z) (by simp)
  have more : ∀ p ∈ cs, ∃ m : Array Value, s'.heap.get? p.2 = some { cls := .none, data := .fields m } := by
    intro p hp
    obtain ⟨m, z⟩ := un.tbls p.2 #[] (HT p hp)
    exact ⟨_, okH' p.2 _ z⟩
  refine ⟨rfl, ⟨fun b o e => ?_, fun b o e => ?_⟩, os, bare⟩ <;> by_cases hb : b ∈ cs.map (·.2)
  · obtain ⟨p, hp, rfl⟩ := List.mem_map.mp hb
    obtain ⟨m, hm⟩ := more p hp
    rw [tabs p hp] at e; cases e
    exact .inr (.inl ⟨((code p hp).tab (tabs p hp)).isCodeTable, rfl, #[], m, rfl, by rw [Array.empty_append]; exact hm⟩)
  · exact .inl (kept b o hb e)
  · obtain ⟨p, hp, rfl⟩ := List.mem_map.mp hb
    obtain ⟨m, hm⟩ := more p hp
    exact ⟨_, hm⟩
  · exact ⟨o, kept b o hb e⟩
theorem walkG {l : PySem.W.OpenLaw} {n k : Nat} {q : Program} {loose : List Str} {XP : (Str → Option Value) → Heap → Prop} {YP : World → Heap → Prop} {d : DefRec} {K : Params → PySem.W.Frag} {x : Str} {LN : List Str}
    (hn : l.most = some n) (hn2 : n ≤ sizeLine) (hdf : d.params.defaults = []) (hr : Room k callerA) (hrec : (LN.all fun x => (PyProof.Rows.recsOf q).any fun e => e.name == x) = true) (hY : ∀ (w : World) (h : Heap), YP w h → (K w.params).In h)
    (F : ∀ (w : World) (mg : Str → Option Value) (fa : Addr) (h : Heap), YP w h → (K w.params).In h → h.Ns mainGlobals mg → mg d.name = some (.ref fa) → TabsAt LN mg h → LawAtG l w (K w.params) k n x mg fa h) :
    PySem.W.WalkO q loose XP YP l.row.toRowW d [] (fun f vs => PySem.call f vs) := by
  refine Att.attach_callB hn hdf fun w s₀ s₁ mg mb fa o pm cd doc a vs ns G Y ho hd hcd hmg hobj hints hlen hbits hg => ?_
  have own : TabsAt LN mg s₁.heap := fun x hx => by
    obtain ⟨dL, hm, hn1⟩ := List.any_eq_true.mp (List.all_eq_true.mp hrec x hx)
    have hn2 : dL.name = x := beq_iff_eq.mp hn1
    obtain ⟨a', o', fd', c', P', h1, h2, h3, h4, h5, h6⟩ := G.T.tab dL hm
    rw [hn2] at h1
    exact ⟨a', o', fd', c', P', h1, h2, h3, h4, PySem.W.CodeHd.of h5 h6, h6.2⟩
  obtain ⟨fd, cs, sp, hT, nT, C, hb, hsp, hF⟩ := F w mg fa _ Y (hY w _ Y) G.T.g hmg own
  exact callG (hY w _ Y) G.T.g G.T.b G.T.builtins G.T.nolimit hg hT nT C G.T.bmain hobj hints (Nat.le_trans hlen hn2) hr hF hb fun H hH hS => hsp H a ns hlen hbits hH hS
end

/-! ### data that repr can show -/
theorem hu70 {A : Around} {k : Nat} (hr : Room k A) : A.units + 70 < cLine := by have := hr.un; omega
structure Sh (w : Nat) (d : PyData) : Prop where
  ok : Okd d
  sw : d.showable = true
  lf : d.leavesShort 13 = true
  wt : d.weight ≤ w
theorem Sh.mono {w v : Nat} {d : PyData} (h : Sh w d) (l : w ≤ v) : Sh v d := ⟨h.ok, h.sw, h.lf, Nat.le_trans h.wt l⟩
theorem Sh.len {w : Nat} {d : PyData} (h : Sh w d) (l : w ≤ 1000000) : d.shown.length ≤ sizeLine := by
  have h1 := PyData.shown_le 13 (by decide) d h.lf
  have h2 := h.wt
  have h3 : 15 * d.weight + 13 ≤ 16777216 := by omega
  exact Nat.le_trans h1 (Nat.le_trans h3 (by decide))
theorem log2_lt {n k : Nat} (h : n < 2 ^ k) (h0 : n ≠ 0) : n.log2 < k := (Nat.log2_lt h0).mpr h
theorem sh_int {i : Int} (h1 : -1000000000000 < i) (h2 : i < 1000000000000) : Sh 50 (.int i) := by
  have hn : i.natAbs < 10 ^ 12 := by have : (10 : Nat) ^ 12 = 1000000000000 := by decide
                                     omega
  have hl : i.natAbs.log2 ≤ 40 := by
    by_cases z : i.natAbs = 0
    · rw [z]; decide
    · have := log2_lt (n := i.natAbs) (k := 41) (by have : (2 : Nat) ^ 41 = 2199023255552 := by decide
                                                    have : (10 : Nat) ^ 12 = 1000000000000 := by decide
                                                    omega) z
      omega
  refine ⟨okd_int i, ?_, ?_, ?_⟩
  · simp only [PyData.showable]; exact decide_eq_true (by omega)
  · simp only [PyData.leavesShort]; exact decide_eq_true (PyData.shown_int_le hn)
  · simp only [PyData.weight]; split <;> omega
theorem sh_none : Sh 50 .none := ⟨⟨rfl, by simp [PyData.depth]⟩, rfl, rfl, by simp [PyData.weight]⟩
theorem sh_bool (b : Bool) : Sh 50 (.bool b) := ⟨⟨rfl, by simp [PyData.depth]⟩, rfl, rfl, by simp [PyData.weight]⟩
theorem sh_all {w : Nat} : ∀ {ds : List PyData}, (∀ d ∈ ds, Sh w d) → PyData.showableAll ds = true ∧ PyData.leavesShortAll 13 ds = true ∧ PyData.weightAll ds ≤ ds.length * (w + 1)
  | [], _ => ⟨rfl, rfl, by simp [PyData.weightAll]⟩
  | a :: r, h => by
    have ha := h a List.mem_cons_self
    obtain ⟨h1, h2, h3⟩ := sh_all (ds := r) fun d hd => h d (List.mem_cons_of_mem _ hd)
    refine ⟨?_, ?_, ?_⟩
    · simp [PyData.showableAll, ha.sw, h1]
    · simp [PyData.leavesShortAll, ha.lf, h2]
    · have := ha.wt
      simp only [PyData.weightAll, List.length_cons, Nat.succ_mul]
      omega
theorem sh_mul {n N w : Nat} (h : n ≤ N) : n * (w + 1) ≤ N * (w + 1) := Nat.mul_le_mul_right _ h
/-- lists and tuples of such data; nested at most some deep -/
theorem sh_list {w N : Nat} {ds : List PyData} (h : ∀ d ∈ ds, Sh w d) (hd : ∀ d ∈ ds, d.depth ≤ 20) (hn : ds.length ≤ N) : Sh (N * (w + 1)) (.list ds) := by
  obtain ⟨h1, h2, h3⟩ := sh_all h
  have h4 := (okd_all fun d hd => (h d hd).ok).1
  have h5 : PyData.depthAll ds ≤ 20 := by
    clear h1 h2 h3 h4 h hn
    induction ds with
    | nil => simp [PyData.depthAll]
    | cons a r ih =>
      have := ih fun d hm => hd d (List.mem_cons_of_mem _ hm)
      have := hd a List.mem_cons_self
      simp only [PyData.depthAll]; omega
  refine ⟨⟨by simp [PyData.canLay0, h4], by simp only [PyData.depth]; omega⟩, by simp [PyData.showable, h1], by simp [PyData.leavesShort, h2], ?_⟩
  simp only [PyData.weight]
  exact Nat.le_trans h3 (sh_mul hn)
theorem sh_tup {w N : Nat} {ds : List PyData} (h : ∀ d ∈ ds, Sh w d) (hd : ∀ d ∈ ds, d.depth ≤ 20) (hn : ds.length ≤ N) : Sh (N * (w + 1)) (.tuple ds) := by
  have x := sh_list h hd hn
  have y := x.ok
  refine ⟨⟨by simpa [PyData.canLay0] using y.1, by simpa [PyData.depth] using y.2⟩, by simpa [PyData.showable] using x.sw, by simpa [PyData.leavesShort] using x.lf, by simpa [PyData.weight] using x.wt⟩
theorem sh_pd {a b : Int} (h1 : -1000000000000 < a) (h2 : a < 1000000000000) (h3 : -1000000000000 < b) (h4 : b < 1000000000000) : Sh 102 (pd (a, b)) :=
  sh_tup (w := 50) (N := 2) (ds := [.int a, .int b]) (fun d hd => by
    simp only [List.mem_cons, List.not_mem_nil, or_false] at hd
    rcases hd with rfl | rfl
    · exact sh_int h1 h2
    · exact sh_int h3 h4) (fun d hd => by
    simp only [List.mem_cons, List.not_mem_nil, or_false] at hd
    rcases hd with rfl | rfl <;> simp [PyData.depth]) (Nat.le_refl _)
theorem s_repr {C : Addr} {K : PySem.W.Frag} {Tb : List (Addr × Str)} {H : Hp} {L : List R} {Q : VK} {x : V} {d : PyData} {b : Bool} {w : Nat} (S : Sep C K Tb H L) (h : Has b L x d) (sh : Sh w d) (hw : w ≤ 1000000) (k : Q (.str d.shown) H) : rReprD K [x] H Q := by
  refine ⟨x, d, rfl, S.dp h, ?_, sh.sw, sh.len hw, k⟩
  obtain ⟨h1, h2⟩ := sh.ok
  have h3 : d.depth ≤ 64 := by omega
  simp [SeqAt.shaped, h1, h3]
def NewA (Q : VK) (xs : List V) (H : Hp) : Prop := ∀ q, H q = none → Q (.ref q) (upd H q (.lst xs))
theorem s_lstRg1 {σ : St} {H : Hp} {Q : VK} {ta : TE} (h : ta σ H fun x H1 => ∃ n, x = .int n ∧ (RgOk 0 n ∧ NewA Q (rgV 0 n) H1)) : tLstRg (tRg1 ta) σ H Q := by
  refine r_lstRg1 (σ := σ) (H := H) (Q := Q) (ta := ta) ?_
  exact h
theorem s_rg {C : Addr} {K : PySem.W.Frag} {Tb : List (Addr × Str)} {H : Hp} {L : List R} {Q : VK} {a : Int} {n : Nat} (S : Sep C K Tb H L) (e : a = n) (hn : n ≤ 1000000) (k : ∀ p H', Sep C K Tb H' (.cell p (.lst (iv (List.range n))) :: L) → Q (.ref p) H') : RgOk 0 a ∧ NewA Q (rgV 0 a) H := by
  subst e
  refine ⟨RgOk.of_le (by omega) (by omega) (by omega) (by omega), fun q hq => ?_⟩
  rw [rgV_iv]
  exact k q _ (S.new hq trivial)
/-- a tuple of two ints is taken apart -/
theorem s_gtup2 {C : Addr} {K : PySem.W.Frag} {Tb : List (Addr × Str)} {σ : St} {H : Hp} {L : List R} {QS : St → Hp → Prop} {t : Addr} {xs : List V} {n : Nat} {g : TGs} (S : Sep C K Tb H L) (h : R.tup t xs ∈ L) (hn : xs.length = n) (k : g xs σ H QS) : gTup K n g (.ref t) σ H QS := r_gtup (SqT.of (S.getT h)) hn k
theorem s_ixt {C : Addr} {K : PySem.W.Frag} {Tb : List (Addr × Str)} {H : Hp} {L : List R} {Q : VK} {t : Addr} {xs : List V} {a : Int} {v : V} (S : Sep C K Tb H L) (h : R.tup t xs ∈ L) (e : atI xs a = some v) (k : Q v H) : rIxT K (.ref t) (.int a) H Q := r_ixt (SqT.of (S.getT h)) e k
theorem attr_n (m : SM) : attrOf m "n" = some (.int m.n) := by unfold attrOf; rw [if_pos rfl]
theorem attr_l (m : SM) : attrOf m "limit" = some (.int m.lim) := by unfold attrOf; rw [if_neg (by decide +kernel), if_pos rfl]
theorem attr_g (m : SM) : attrOf m "generations" = some (.int m.g) := by unfold attrOf; rw [if_neg (by decide +kernel), if_neg (by decide +kernel), if_pos rfl]
theorem attr_r (m : SM) : attrOf m "rule" = some (.str m.rule.s) := by unfold attrOf; rw [if_neg (by decide +kernel), if_neg (by decide +kernel), if_neg (by decide +kernel), if_pos rfl]
theorem pe_bmK {X : Cx} {K : PySem.W.Frag} {T id : String} {name : Str} {apos cpos : Pos} {o e : Expr} {es : List Expr} {r : V → List V → Hp → VK → Prop} {to : TE} {t : TA} (pa : PlainAttrs T) (slot : Slot T name id) (hty : typeOf (.builtin id) = pure (.type "method_descriptor")) (hm : MtR X id r) (ho : PE X o to) (ha : PA X (e :: es) t) (hK : X.K = K := by rfl)
    (h1 : attributeBase o name X.env (eval o X.env) = eval o X.env := by rfl)
    (h2 : ((backTo cpos (starEach (e :: es) X.env)).all (fun x => !x.1) && (backToKw cpos (keywordEach [] X.env)).all (fun x => x.1.isSome) && decide ((e :: es).length + ([] : List Keyword).length + (if ([] : List Keyword).isEmpty then 0 else 1) < 30)) = true := by rfl)
    (h3 : (apos.endLine == cpos.line) = true := by rfl) (h4 : starEach (e :: es) X.env = (false, eval e X.env) :: starEach es X.env := by rfl) (h5 : (backTo cpos (starEach es X.env)).any (·.1) = false := by rfl) : PE X (.Call (.Attribute o name apos) (e :: es) [] cpos) (tBM K T r to t) := hK ▸ pe_bm pa slot hty hm ho ha h1 h2 h3 h4 h5
local macro_rules | `(tactic| walk_at "sd1") => `(tactic| first
  | ((with_reducible show ∃ (a : Addr) (C : Addr) (dx : Addr) (fs : List (Str × V)) (v : V), V.ref _ = V.ref a ∧ _); refine s_attr (by assumption) (by walk_at "mm") (by assumption) (by assumption) (by with_reducible first | exact attr_n _ | exact attr_l _ | exact attr_g _ | exact attr_r _) ?_)
  | (with_reducible refine s_lstRg1 ?_)
  | ((with_reducible refine s_rg (by assumption) (by first | rfl | omega) ?_ (fun _ _ _ => ?_)); (focus walk_at "sz"))
  | ((with_reducible show gTup _ _ _ _ _ _ _); refine s_gtup2 (by assumption) (by walk_at "mm") (by rfl) ?_)
  | ((with_reducible show rIxT _ _ _ _ _); refine s_ixt (by assumption) (by walk_at "mm") (by rfl) ?_))

/-! ### more of slot maps: live handles, generations -/
theorem count_filt (td : List (Int × Int)) (s : Int) : (td.filter fun q => decide (q.1 = s)).length = (td.map (·.1)).count s := by
  induction td with
  | nil => rfl
  | cons a r ih =>
    rw [List.map_cons, List.count_cons, List.filter_cons]
    by_cases h : a.1 = s
    · simp [h, ih]
    · simp [h, ih]
theorem eqvAll_pds : ∀ ps qs : List (Int × Int), PyData.eqvAll (ps.map pd) (qs.map pd) = decide (ps = qs)
  | [], [] => rfl
  | [], _ :: _ => rfl
  | _ :: _, [] => rfl
  | p :: ps, q :: qs => by
    show (PyData.eqv (pd p) (pd q) && PyData.eqvAll (ps.map pd) (qs.map pd)) = _
    rw [eqv_pd, eqvAll_pds ps qs]
    by_cases h : p = q <;> simp [h]
theorem eqv_pds (ps qs : List (Int × Int)) : PyData.eqv (.list (ps.map pd)) (.list (qs.map pd)) = decide (ps = qs) := by
  rw [← eqvAll_pds]; simp only [PyData.eqv]
theorem okd_pds (ps : List (Int × Int)) : ∀ d ∈ ps.map pd, Okd d := fun d hd => by
  obtain ⟨p, _, rfl⟩ := List.mem_map.mp hd; exact okd_pd p
theorem liveH_take {m : SM} (h : m.Ok) (hl : m.live.length < m.lim) (v : V) : (m.take v).liveH = m.liveH ++ [((m.slot : Int), (m.take v).gen m.slot)] := by
  have e : (m.take v).ages = m.ages ++ [m.slot] := by simp [SM.ages, SM.take]
  unfold SM.liveH
  rw [e, List.map_append]
  congr 1
  refine List.map_congr_left fun s hs => ?_
  have ne : s ≠ m.slot := fun z => h.slot_dead hl (z ▸ hs)
  have : (m.take v).gen s = m.gen s := by
    show (((m.take v).cnt s : Int) - 1) % (m.g : Int) = _
    rw [SM.cnt_take h hl, if_neg ne]; rfl
  rw [this]
theorem erase_idx {l : List Nat} (h : l.Nodup) {j s : Nat} (e : l[j]? = some s) : l.erase s = l.eraseIdx j := by
  induction l generalizing j with
  | nil => simp at e
  | cons a r ih =>
    obtain ⟨h1, h2⟩ := List.nodup_cons.mp h
    cases j with
    | zero =>
      have : a = s := by simpa using e
      subst this; simp
    | succ j =>
      have e2 : r[j]? = some s := by simpa using e
      have ne : a ≠ s := fun z => h1 (z ▸ List.mem_of_getElem? e2)
      rw [List.erase_cons_tail (by simp [ne]), ih h2 e2]; rfl
theorem liveH_give {m : SM} (h : m.Ok) {s j : Nat} (e : m.ages[j]? = some s) : (m.give s).liveH = m.liveH.eraseIdx j := by
  unfold SM.liveH
  rw [SM.ages_giveE h, erase_idx h.nodupA e, ← map_eraseIdx]
  rfl
theorem gen_taken {m : SM} (h : m.Ok) (hl : m.live.length < m.lim) (v : V) : (m.take v).gen m.slot = (m.cnt m.slot : Int) % (m.g : Int) := by
  show (((m.take v).cnt m.slot : Int) - 1) % (m.g : Int) = _
  rw [SM.cnt_take h hl, if_pos rfl]
  congr 1; omega
theorem gen_bnd {m : SM} (h : m.Ok) (s : Nat) : 0 ≤ m.gen s ∧ m.gen s < 1000000000 := by
  have g1 := h.ar.g1
  have g2 := h.ar.g2
  unfold SM.gen
  exact ⟨Int.emod_nonneg _ (by omega), Int.lt_of_lt_of_le (Int.emod_lt_of_pos _ (by omega)) g2⟩

/-! ### dicts with text keys: update, get, put, display -/
def rUpdD : V → List V → Hp → VK → Prop := fun x xs H Q => ∃ a b ks ls, x = .ref a ∧ xs = [.ref b] ∧ a ≠ b ∧ H a = some (.dK ks) ∧ H b = some (.dK ls) ∧ ks.length + ls.length ≤ 1000 ∧ Q .non (upd H a (.dK (mergeK ks ls)))
theorem mt_updD {X : Cx} : MtR X "dict.update" rUpdD := by
  intro pins s σ H x xs v us Q I rx rxs h
  obtain ⟨a, b, ks, ls, rfl, rfl, hne, ha, hb, hn, q⟩ := h
  cases rx
  obtain rfl := Vals.ref1 rxs
  obtain ⟨z1, d1, va, ra, da⟩ := dk_of I.hok ha
  obtain ⟨z2, d2, vb, rb, db⟩ := dk_of I.hok hb
  have e1 := ra.length
  have e2 := rb.length
  have hs : 1000 ≤ sizeLine := by decide
  refine call_meetsIn PySem.F.slot_dict_update da.typeIs PySem.F.entry_dict_update (PySem.F.args_dict_update_2 _ _) (meets_dict_update (mixKind X.prog X.w) a b hne d2) ⟨va, vb, da, db, by omega, fun h' hd _ hsb => ?_⟩
  have he : ∃ q, h'.get? a = some q := let ⟨q, _, _, hq, _⟩ := hd; ⟨q, hq⟩
  have hl := length_mergeK ls ks
  exact ⟨.non, _, d_write I (by rw [ha]; exact True.intro) hsb he (dk_new (by omega) d1 (KV.merge rb ra) hd), rfl, q⟩
theorem r_disp {trs : List (TE × TE)} {σ : St} {H : Hp} {Q : VK} (h : ∀ p, H p = none → tPairs trs σ (upd H p (.dK [])) fun ps H2 => H2 p = some (.dK []) ∧ ∃ kvs : List (Key × V), ps = kvs.map (fun kv => (kV kv.1, kv.2)) ∧ kvs.length ≤ 15 ∧ Q (.ref p) (upd H2 p (.dK (mergeK [] kvs)))) : tDisp trs σ H Q := h
def DispEnd (p : Addr) (Q : VK) (ps : List (V × V)) (H2 : Hp) : Prop := H2 p = some (.dK []) ∧ ∃ kvs : List (Key × V), ps = kvs.map (fun kv => (kV kv.1, kv.2)) ∧ kvs.length ≤ 15 ∧ Q (.ref p) (upd H2 p (.dK (mergeK [] kvs)))
section
variable {C : Addr} {K : PySem.W.Frag} {Tb : List (Addr × Str)} {D : Ends} {σ : St} {H : Hp} {L L' : List R} {Q : VK} {d p : Addr} {kvs : List (Key × V)} {v : V} {x : Str}
theorem s_disp {trs : List (TE × TE)} (S : Sep C K Tb H L) (k : ∀ p H1, Sep C K Tb H1 (.cell p (.dK []) :: L) → tPairs trs σ H1 (DispEnd p Q)) : tDisp trs σ H Q := fun p n => k p _ (S.new n trivial)
theorem r_pcons {tk tv : TE} {r : List (TE × TE)} {QP : List (V × V) → Hp → Prop} (h : tk σ H fun x H1 => tv σ H1 fun y H2 => tPairs r σ H2 fun ps H3 => QP ((x, y) :: ps) H3) : tPairs ((tk, tv) :: r) σ H QP := h
theorem r_pnil {QP : List (V × V) → Hp → Prop} (h : QP [] H) : tPairs [] σ H QP := h
theorem s_dispEnd {ps : List (V × V)} (kvs : List (Key × V)) (S : Sep C K Tb H L) (pk : Pick (.cell p (.dK [])) L L') (e : ps = kvs.map fun kv => (kV kv.1, kv.2)) (hl : kvs.length ≤ 15) (k : ∀ H', Sep C K Tb H' (.cell p (.dK (mergeK [] kvs)) :: L') → Q (.ref p) H') : DispEnd p Q ps H := ⟨S.get pk.mem, kvs, e, hl, k _ (S.put pk trivial)⟩
theorem s_dget {R' : V → Prop} (S : Sep C K Tb H L) (h : R.cell d (.dK kvs) ∈ L) (e : valV kvs (.inr x) = some v) (k : R' v) : ∃ (a : Addr) (w : V), V.ref d = .ref a ∧ DGet H a (.str x) (some w) ∧ R' w := ⟨d, v, rfl, by
  have := DGet.k (k := .inr x) (S.get h)
  rw [e] at this; exact this, k⟩
theorem s_dput {R' : Hp → Prop} (S : Sep C K Tb H L) (pk : Pick (.cell d (.dK kvs)) L L') (hl : kvs.length ≤ 1000) (k : ∀ H', Sep C K Tb H' (.cell d (.dK (putK kvs (.inr x) v)) :: L') → R' H') : ∃ (a : Addr) (H4 : Hp), V.ref d = .ref a ∧ DPut H a (.str x) v H4 ∧ R' H4 :=
  ⟨d, _, rfl, DPut.k (k := .inr x) (S.get pk.mem) (Nat.lt_of_le_of_lt hl (by decide)), k _ (S.put pk trivial)⟩
theorem s_update {b : Addr} {ls : List (Key × V)} (S : Sep C K Tb H L) (pk : Pick (.cell d (.dK kvs)) L L') (hb : R.cell b (.dK ls) ∈ L') (hn : kvs.length + ls.length ≤ 1000) (k : ∀ H', Sep C K Tb H' (.cell d (.dK (mergeK kvs ls)) :: L') → Q .non H') : rUpdD (.ref d) [.ref b] H Q := by
  have S' := S.pick pk
  refine ⟨d, b, kvs, ls, rfl, rfl, ?_, S.get pk.mem, S'.get (List.mem_cons_of_mem _ hb), hn, k _ (S.put pk trivial)⟩
  obtain ⟨⟨Φ, _, F, f, _, h3⟩, _⟩ := S'
  obtain ⟨G, g, u⟩ := h3.at hb
  intro e
  exact (u b ((g.2.2 b).mpr rfl)).2 ((f.2.2 b).mpr e.symm)
end
theorem tyD {K : PySem.W.Frag} {H : Hp} {d : Addr} {kvs : List (Key × V)} {F : Prop} (h : H d = some (.dK kvs)) (k : F) : tyV K "dict" (.ref d) H ∧ F := ⟨.inr (.inr (.inl ⟨rfl, .inl ⟨_, h⟩⟩)), k⟩
local macro_rules | `(tactic| walk_at "dk") => `(tactic| first | assumption | exact valV_pos rfl | (refine (valV_neg (by rintro ⟨⟩)).trans ?_; walk_at "dk"))
local macro_rules | `(tactic| walk_at "sd1") => `(tactic| first
  | ((with_reducible refine s_disp (by assumption) (fun _ _ _ => ?_)))
  | (with_reducible refine r_pcons ?_) | (with_reducible refine r_pnil ?_)
  | ((with_reducible show tyV _ "dict" _ _ ∧ _); refine tyD (by walk_at "hp") ?_)
  | ((with_reducible show ∃ (a : Addr) (w : V), V.ref _ = V.ref a ∧ DGet _ _ _ _ ∧ _); refine s_dget (by assumption) (by walk_at "mm") (by walk_at "dk") ?_)
  | ((with_reducible show ∃ (a : Addr) (H4 : Hp), V.ref _ = V.ref a ∧ DPut _ _ _ _ _ ∧ _); refine s_dput (by assumption) (by walk_at "pk") (by walk_at "sz") (fun _ _ => ?_)))

/-! ### sorted(pairs, reverse=True), sum(d.values()) -/
section
open PySem.Spec PyProof.Rows
variable {X : Cx}
def rSortedPR (K : PySem.W.Frag) : List V → List V → Hp → VK → Prop := fun vs zs H Q => ∃ (a : Addr) (xs : List V) (k : V → Int × Int), vs = [V.ref a] ∧ zs = [.bl true] ∧ SqL K H a xs ∧ (∀ x ∈ xs, ∃ t, x = V.ref t ∧ H t = some (.tup [.int (k x).1, .int (k x).2])) ∧
  ∀ ys p, SrtO.Srtd (ltP k) ys → ys.Perm xs → H p = none → Q (.ref p) (upd H p (.lst ys.reverse))
theorem cr_sortedPR : CallRK X (.builtin "sorted") [Str.ofString "reverse"] (rSortedPR X.K) := by
  intro pins s σ H vs zs us ws Q I r rz h
  obtain ⟨a, xs, k, rfl, rfl, hs, hx, q⟩ := h
  obtain rfl := Vals.ref1 r
  obtain ⟨w1, rfl, e1⟩ := vals1 rz
  obtain rfl : w1 = Value.bool true := e1
  obtain ⟨its, rv, hl, hz⟩ := I.list hs
  obtain ⟨e1, e2⟩ := refs_back rv fun x m => by
    obtain ⟨t, e, _⟩ := hx x m
    exact ⟨t, e⟩
  have hp : ∀ v ∈ its, Srt.IsPair s.heap v (k (backV v)).1 (k (backV v)).2 := fun v hv => by
    obtain ⟨t, rfl⟩ := e2 v hv
    have hm : V.ref t ∈ xs := by rw [e1]; exact List.mem_map.mpr ⟨_, hv, rfl⟩
    obtain ⟨t', e, ht⟩ := hx _ hm
    cases e
    obtain ⟨_, its2, r2, o, ho, hc, n, hd⟩ := I.hok _ _ ht
    obtain ⟨u1, u2, rfl, ri, rj⟩ := vals2 r2
    obtain ⟨t1, rfl⟩ := ri
    obtain ⟨t2, rfl⟩ := rj
    exact ⟨t, o, t1, t2, n, rfl, ho, hc, hd⟩
  refine SrtR.sorted_ordK (b := true) (fun _ => rfl) (PyProof.Rows.args_sorted_rev _ _) (fun _ => PyProof.Rows.args_list_sort_rev _ _) (SrtO.swo_lex fun u => k (backV u)) hl.isList (by rw [← rv.length]; exact hz) (fun h2 h₁ a' ha kk => ?_) fun out h1 h2 => ?_
  · refine SrtO.pairs_sortableO (s := { s with heap := h₁ }) (by omega) (fun v hm => (hp v hm).keeps fun b o e _ => (kk b o e).2) fun o e => ?_
    have e' := e.symm.trans ha
    cases e'
    intro c
    exact absurd (Value.type.inj c) (by decide)
  · have h2p : out.Perm its := h2.perm.trans (List.reverse_perm _)
    have h3 : ∀ u ∈ out, ∃ a, u = Value.ref a := fun u hu => e2 u (h2p.mem_iff.mp hu)
    have hb : (out.map backV).Perm xs := by
      rw [e1]
      exact h2p.map backV
    obtain ⟨ep, he'⟩ := PyProof.Rows.sortedAll_at s.heap its out.toArray.reverse
    have hlen : (out.map backV).reverse.length ≤ sizeLine := by
      rw [List.length_reverse, hb.length_eq]
      exact hz
    have er : (out.map backV).reverse = out.reverse.map backV := by rw [List.map_reverse]
    have h4 : ∀ u ∈ out.reverse, ∃ a, u = Value.ref a := fun u hu => h3 u (List.mem_reverse.mp hu)
    have ea : out.reverse.toArray = out.toArray.reverse := by
      apply Array.ext'
      rw [Array.toList_reverse]
    exact ⟨.ref _, upd H (s.heap.objs.size + 1) (.lst (out.map backV).reverse), I.laid (t' := s.toks) (fun _ _ => PyProof.Rows.sortedAll_old) (Nat.le_succ _) ⟨hlen, out.reverse, ep, by rw [er]; exact vals_back h4, by rw [ea]; exact he'⟩, rfl, q _ _ (SrtO.srtd_map h1) hb (I.hok.fresh (Nat.le_succ _))⟩
theorem maxL {X : Cx} {K : PySem.W.Frag} (hc : X.calm = true) (h : X.K = K := by rfl) : CallR X (.builtin "max") (rMax K) := h ▸ cr_max hc
theorem minL {X : Cx} {K : PySem.W.Frag} (hc : X.calm = true) (h : X.K = K := by rfl) : CallR X (.builtin "min") (rMin K) := h ▸ cr_min hc
theorem sortedPR {X : Cx} {K : PySem.W.Frag} (h : X.K = K := by rfl) : CallRK X (.builtin "sorted") [Str.ofString "reverse"] (rSortedPR K) := h ▸ cr_sortedPR
/-- sum(o.values()), a dict with int values -/
def tSumVals (td : TE) : TE := fun σ H Q => td σ H fun x H1 => ∃ (a : Addr) (kvs : List (Key × V)) (is : List Int), x = V.ref a ∧ H1 a = some (.dK kvs) ∧ kvs.map (·.2) = is.map V.int ∧ Q (.int is.sum) H1
variable {o : Expr} {p pos apos mpos : Pos} {td : TE}
theorem preSum_ints (is : List Int) : ∀ n, n ≤ is.length → preSum (fun i => is.getD i 0) n = (is.take n).sum
  | 0, _ => by simp [preSum]
  | n + 1, h => by
    show preSum (fun i => is.getD i 0) n + is.getD n 0 = _
    rw [preSum_ints is n (by omega), List.take_add_one, List.sum_append, List.getD_eq_getElem?_getD, List.getElem?_eq_getElem (by omega)]
    simp
theorem pe_sumVals (hc : X.calm = true) (hg : Gl X "sum") (hm : X.mg "sum" = none) (hd : PE X o td) (hbase : attributeBase o "values" X.env (eval o X.env) = eval o X.env := by rfl) (hline : (apos.endLine == mpos.line) = true := by rfl)
    (hse : starEach [Expr.Call (.Attribute o "values" apos) [] [] mpos] X.env = [(false, eval (Expr.Call (.Attribute o "values" apos) [] [] mpos) X.env)] := by rfl) :
    PE X (.Call (.Name "sum" p) [.Call (.Attribute o "values" apos) [] [] mpos] [] pos) (tSumVals td) := by
  refine ⟨fun pins s σ H Q I h => ?_⟩
  refine wpAny_Call_Name_kw (ld_blt I hg hm (u := .builtin "sum") (by first | rfl | decide +kernel) ?_ (by first | decide +kernel | decide) (by first | decide +kernel | decide))
  rw [hse]
  refine PySem.callWith_builtin1 (wpAny_Call_method0_late hbase hline (thn (hd.run pins s σ H _ I h) fun v s1 ⟨x, H1, I1, r1, a, kvs, is, ex, ha, hv, q⟩ => ?_))
  subst ex
  obtain rfl : v = Value.ref a := r1
  obtain ⟨_, hsys, vs, rel, dof⟩ := dk_of I1.hok ha
  obtain ⟨ep, dat⟩ := dof.dictAt
  have dat' := dat
  obtain ⟨ob, es, ho, ex, hdat, hko, hpr, hnd⟩ := dat'
  refine ⟨"dict", "dict.values", PySem.F.plainAttrs_dict, PySem.F.slot_dict_values, PySem.F.type_dict_values, ⟨ob, ho, ex.1⟩, fun b e => ?_, PySem.Calls.callWith_builtin rfl (PySem.evalArgs_none ?_)⟩
  · cases e
    exact ⟨ob, ho, ex.2.1⟩
  refine call_meetsIn PySem.F.slot_dict_values ⟨ob, ho, ex.1⟩ PySem.F.entry_dict_values (PySem.F.args_dict_values_1 _) (meets_dict_values (mixKind X.prog X.w) a hsys) ⟨⟨vs, dof⟩, ?_⟩
  have k1 : ∀ b u, s1.heap.get? b = some u → (s1.heap.push { cls := .type "dict_values", data := .fields #[.ref a] }).get? b = some u := fun b u e => Heap.get?_push_of_some _ e
  have dat1 : (s1.heap.push { cls := .type "dict_values", data := .fields #[.ref a] }).DictAt (mixKind X.prog X.w) a vs ep := dat.keep k1
  have hlv : vs.length = is.length := by
    have e1 := congrArg List.length hv
    rw [List.length_map, List.length_map] at e1
    rw [← e1]
    exact (KV.length rel).symm
  have hval : ∀ (i : Nat) (v : Value), (∃ k, vs[i]? = some (k, v)) → ∃ t, v = Value.int (is.getD i 0) t := fun i v ⟨k, hk⟩ => by
    obtain ⟨x, h1, h2⟩ := KV.at' rel hk
    have e1 : (kvs.map (·.2))[i]? = some x := by rw [List.getElem?_map, h1] <;> rfl
    rw [hv, List.getElem?_map] at e1
    obtain ⟨j, hj, e2⟩ := Option.map_eq_some_iff.mp e1
    subst e2
    obtain ⟨t, e3⟩ := h2
    refine ⟨t, ?_⟩
    rw [e3, List.getD_eq_getElem?_getD, hj] <;> rfl
  refine call_sum_walkAnyS (wpAny_pyIter_values (v := s1.heap.objs.size) (d := a) ⟨_, Heap.get?_push_size _ rfl, rfl, rfl⟩ dat1 ?_)
  have hlt : a < s1.heap.objs.size := Heap.lt_size ho
  have hsz : (s1.heap.push { cls := .type "dict_values", data := .fields #[.ref a] }).objs.size = s1.heap.objs.size + 1 := Heap.size_push _ _
  refine ⟨_, _, _, _, _, _, _, fun i => is.getD i 0, rfl, (Walks.dictValues (knd := mixKind X.prog X.w) (A := X.A.in1) (I.ok.hd hc) (s1.heap.push { cls := .type "dict_values", data := .fields #[.ref a] }).objs.size a (by rw [hsz]; exact Nat.ne_of_lt (Nat.lt_succ_of_lt hlt)) vs ep).toS,
    ⟨⟨_, Heap.get?_push_size _ rfl, rfl, rfl⟩, dat1.keep fun b u e => Heap.get?_push_of_some _ e⟩, fun b hb => ?_, hval, fun s' t' hm => ?_⟩
  · show b < ((s1.heap.push _).push _).objs.size
    rw [Heap.size_push, Heap.size_push]
    rw [hsz] at hb
    rcases List.mem_cons.mp hb with e | hb
    · rw [e]
      exact Nat.lt_succ_self _
    · have e : b = a := List.mem_singleton.mp hb
      rw [e]
      exact Nat.lt_succ_of_lt (Nat.lt_succ_of_lt hlt)
  · rw [Moved.eq_with hm]
    have esum : preSum (fun i => is.getD i 0) vs.length = is.sum := by rw [hlv, preSum_ints is _ (Nat.le_refl _), List.take_length]
    rw [esum]
    refine ⟨.int _, H1, I1.kept (t' := s'.toks) fun b u e => hm.heap b u (fun hmem => ?_) (Heap.get?_push_of_some _ (k1 b u e)), ⟨t', rfl⟩, q⟩
    have e1 : b = (s1.heap.push { cls := .type "dict_values", data := .fields #[.ref a] }).objs.size := List.mem_singleton.mp hmem
    have e2 := Heap.lt_size e
    rw [hsz] at e1
    rw [e1] at e2
    exact absurd e2 (Nat.not_lt.mpr (Nat.le_succ _))
end
/-! ### a dict of our own is walked: it stays as it is from there on -/
section
open PySem.Spec PyProof.Rows
def tLockR (td : TE) : TE := fun σ H Q => td σ H fun x H1 => ∃ d u, x = V.ref d ∧ H1 d = some u ∧ Mut (some u) ∧ ∀ od, Q (.ref d) (upd H1 d (.frz od u))
theorem pe_lockR {X : Cx} {e : Expr} {td : TE} (h : PE X e td) : PE X e (tLockR td) := by
  refine ⟨fun pins s σ H Q I hh => thn (h.run pins s σ H _ I hh) fun v s1 ⟨x, H1, I1, r1, d, u, ex, hu, mu, q⟩ => ?_⟩
  obtain ⟨od, I2⟩ := I1.lock hu mu
  subst ex
  exact ⟨.ref d, _, I2, r1, q od⟩
end
section
variable {C : Addr} {K : PySem.W.Frag} {Tb : List (Addr × Str)} {D : Ends} {σ : St} {H : Hp} {L L' : List R} {Q : VK} {d q : Addr} {kvs : List (Key × V)} {v : V} {xs : List V} {g : TG} {tt : TT} {te : TE} {vs : List Nat}
theorem r_sumVals {td : TE} (h : td σ H fun x H1 => ∃ (a : Addr) (kvs : List (Key × V)) (is : List Int), x = V.ref a ∧ H1 a = some (.dK kvs) ∧ kvs.map (·.2) = is.map V.int ∧ Q (.int is.sum) H1) : tSumVals td σ H Q := h
theorem r_ckw {r : List V → List V → Hp → VK → Prop} {t tk : TA} (h : t σ H fun vs H1 => tk σ H1 fun zs H2 => r vs zs H2 Q) : tCKw r t tk σ H Q := h
theorem r_lockR {td : TE} (h : td σ H fun x H1 => ∃ d u, x = V.ref d ∧ H1 d = some u ∧ Mut (some u) ∧ ∀ od, Q (.ref d) (upd H1 d (.frz od u))) : tLockR td σ H Q := h
theorem s_lockR (S : Sep C K Tb H L) (pk : Pick (.cell d (.dK kvs)) L L') (k : ∀ o H', Sep C K Tb H' (.cell d (.frz o (.dK kvs)) :: L') → Q (.ref d) H') : ∃ a u, V.ref d = V.ref a ∧ H a = some u ∧ Mut (some u) ∧ ∀ od, Q (.ref a) (upd H a (.frz od u)) :=
  ⟨d, _, rfl, S.get pk.mem, trivial, fun od => k od _ (S.put pk trivial)⟩
theorem r_iItems {td : TE} {R' : It → Hp → Prop} (h : td σ H fun x H1 => ∃ d o kvs, x = V.ref d ∧ H1 d = some (.frz o (.dK kvs)) ∧ R' (Iti d o kvs) H1) : iItems td σ H R' := h
theorem s_dputI {R' : Hp → Prop} {i : Int} (S : Sep C K Tb H L) (pk : Pick (.cell d (.dK kvs)) L L') (hl : kvs.length ≤ 1000) (k : ∀ H', Sep C K Tb H' (.cell d (.dK (putK kvs (.inl i) v)) :: L') → R' H') : ∃ (a : Addr) (H4 : Hp), V.ref d = .ref a ∧ DPut H a (.int i) v H4 ∧ R' H4 :=
  ⟨d, _, rfl, DPut.k (k := .inl i) (S.get pk.mem) (Nat.lt_of_le_of_lt hl (by decide)), k _ (S.put pk trivial)⟩
def itK (f : Nat → Int) (os : List Nat) : List (Key × V) := os.map fun (x : Nat) => ((.inl (x : Int) : Key), V.int (f x))
theorem itK_put {f : Nat → Int} {os : List Nat} {x : Nat} (h : x ∉ os) : putK (itK f os) (.inl (x : Int)) (V.int (f x)) = itK f (os ++ [x]) := by
  unfold putK
  rw [if_neg ?_]
  · simp [itK]
  · intro z
    obtain ⟨q, h1, h2⟩ := List.any_eq_true.mp z
    obtain ⟨y, h3, h4⟩ := List.mem_map.mp h1
    subst h4
    have : (y : Int) = x := Sum.inl.inj (of_decide_eq_true h2)
    exact h (by rw [← Int.ofNat_inj.mp this]; exact h3)
/-- a comprehension over the items of such a dict -/
theorem s_lcItems {o : Obj} {f : Nat → Int} (os : List Nat) (S : Sep C K Tb H L) (hx : R.cell d (.frz o (.dK (itK f os))) ∈ L) (hn : os.length ≤ 1000) (w : Nat → PyData)
    (hs : ∀ D H' T (x : Nat) acc ads (N : Hp → Prop), x ∈ os → acc.length ≤ 1000 → Sep C K Tb H' (.tup T [.int (x : Int), .int (f x)] :: .cell D (.lst acc) :: .dats acc ads :: L) → (∀ H'' y, Sep C K Tb H'' (.cell D (.lst (acc ++ [y])) :: .dats (acc ++ [y]) (ads ++ [w x]) :: L) → N H'') →
      g (.ref T) (wipe σ vs) H' fun σ2 H2 => wipe σ2 vs = wipe σ vs ∧ tt σ2 H2 fun b H3 => if b = true then te σ2 H3 fun y H4 => ∃ a, H4 D = some (.lst a) ∧ a.length < sizeLine ∧ N (upd H4 D (.lst (a ++ [y]))) else N H3)
    (hd : ∀ D H' ys, Sep C K Tb H' (.cell D (.lst ys) :: .dats ys (os.map w) :: L) → Q (.ref D) H') : LcLoop (Iti d o (itK f os)) g tt te vs σ H Q := by
  intro Dd hD
  have lk : (itK f os).length = os.length := by simp [itK]
  refine lc_it walk_items (fun i H' => ∃ acc, i ≤ os.length ∧ Sep C K Tb H' (.cell Dd (.lst acc) :: .dats acc ((os.take i).map w) :: L)) ⟨[], Nat.zero_le _, ((S.new (o := .lst []) hD trivial).dats (v := []) (d := []) .nil).fit (.pick (.there .here) (.pick .here .refl))⟩ (fun i H' _ ⟨_, _, S'⟩ => (S'.fit (.drop (.drop .refl))).get hx) (fun i x H1 H' hi ⟨acc, hle, S'⟩ y => ?_) (fun H' ⟨acc, hle, S'⟩ => ?_)
  · obtain ⟨T, a, b, rfl, hT, rfl, e1, e2⟩ := y
    rw [lk] at hi
    obtain ⟨x, hx⟩ : ∃ x, os[i]? = some x := ⟨_, List.getElem?_eq_getElem hi⟩
    have ex : (itK f os)[i]? = some ((.inl (x : Int) : Key), V.int (f x)) := by rw [itK, List.getElem?_map, hx]; rfl
    have e1' : some (kV (.inl (x : Int))) = some a := by rw [← e1]; show _ = Option.map _ (itK f os)[i]?; rw [ex]; rfl
    have e2' : some (V.int (f x)) = some b := by rw [← e2]; show _ = Option.map _ (itK f os)[i]?; rw [ex]; rfl
    obtain rfl := Option.some.inj e1'
    obtain rfl := Option.some.inj e2'
    have hl := S'.len (.dats (List.mem_cons_of_mem _ List.mem_cons_self))
    rw [List.length_map, List.length_take] at hl
    have ht : os.take (i + 1) = os.take i ++ [x] := by rw [List.take_succ, hx]; rfl
    exact hs Dd _ T x acc _ _ (List.mem_of_getElem? hx) (by omega) (S'.newT hT) fun H'' y S'' => ⟨acc ++ [y], hi, by rw [ht, List.map_append]; exact S''⟩
  · rw [lk, List.take_length] at S'
    exact hd Dd H' acc S'
/-- the pair that stands there -/
def pairAt (H : Hp) : V → Int × Int
  | .ref t => match H t with
    | some (.tup [.int i, .int j]) => (i, j)
    | _ => (0, 0)
  | _ => (0, 0)
theorem hasAll_of {L : List R} {w : V → PyData} : ∀ {ys : List V}, (∀ v ∈ ys, Has true L v (w v)) → HasAll true L ys (ys.map w)
  | [], _ => .nil
  | v :: r, h => .cons (h v List.mem_cons_self) (hasAll_of fun u hu => h u (List.mem_cons_of_mem _ hu))
/-- sorted(pairs, reverse=True) -/
theorem s_sortedPR {ps : List (Int × Int)} (S : Sep C K Tb H L) (hm : R.cell q (.lst xs) ∈ L) (hd : R.dats xs (ps.map pd) ∈ L)
    (k : ∀ (p : Addr) (ys : List V) (qs : List (Int × Int)) (H' : Hp), qs.Perm ps → qs.Pairwise (fun a b => b.1 ≤ a.1) → Sep C K Tb H' (.cell p (.lst ys) :: .dats ys (qs.map pd) :: L) → Q (.ref p) H') : rSortedPR K [.ref q] [.bl true] H Q := by
  have hl := S.len (.dats hd)
  rw [List.length_map] at hl
  have at_ : ∀ (i : Nat) x, xs[i]? = some x → ∃ t z, x = V.ref t ∧ ps[i]? = some z ∧ H t = some (.tup [.int z.1, .int z.2]) := fun i x hx => by
    have hi : i < ps.length := by rw [← hl]; exact (List.getElem?_eq_some_iff.mp hx).1
    obtain ⟨z, hz⟩ : ∃ z, ps[i]? = some z := ⟨_, List.getElem?_eq_getElem hi⟩
    obtain ⟨t, e, S1⟩ := S.pair (v := x) (a := z.1) (b := z.2) (.item (vs := xs) (ds := ps.map pd) (i := i) hd hx (by rw [List.getElem?_map, hz]; rfl))
    exact ⟨t, z, e, hz, S1.getT List.mem_cons_self⟩
  have hk : ∀ (i : Nat) x, xs[i]? = some x → ps[i]? = some (pairAt H x) := fun i x hx => by
    obtain ⟨t, z, rfl, hz, ht⟩ := at_ i x hx
    rw [hz]
    simp [pairAt, ht]
  have emap : xs.map (pairAt H) = ps := by
    apply List.ext_getElem?
    intro i
    rw [List.getElem?_map]
    cases e : xs[i]? with
    | none =>
      have : ps.length ≤ i := by rw [← hl]; exact List.getElem?_eq_none_iff.mp e
      rw [List.getElem?_eq_none this]; rfl
    | some x => rw [hk i x e]; rfl
  refine ⟨q, xs, pairAt H, rfl, rfl, SqL.of (S.get hm), fun x hx => ?_, fun ys p hs hp hn => ?_⟩
  · obtain ⟨i, hi⟩ := List.getElem?_of_mem hx
    obtain ⟨t, z, rfl, hz, ht⟩ := at_ i x hi
    exact ⟨t, rfl, by rw [ht]; simp [pairAt, ht]⟩
  · have hper : (ys.reverse.map (pairAt H)).Perm ps := by
      rw [← emap]
      exact ((List.reverse_perm ys).trans hp).map _
    have hall : HasAll true L ys.reverse (ys.reverse.map fun v => pd (pairAt H v)) := hasAll_of fun v hv => by
      have hv' : v ∈ xs := hp.mem_iff.mp (List.mem_reverse.mp hv)
      obtain ⟨i, hi⟩ := List.getElem?_of_mem hv'
      exact .item (vs := xs) (ds := ps.map pd) (i := i) hd hi (by rw [List.getElem?_map, hk i v hi]; rfl)
    have S1 := (S.dats hall).new (o := .lst ys.reverse) hn trivial
    refine k p ys.reverse (ys.reverse.map (pairAt H)) _ hper ?_ (by rw [List.map_map]; exact S1.fit (.pick .here (.pick .here .refl)))
    rw [List.map_reverse, List.pairwise_reverse, List.pairwise_map]
    refine hs.imp fun {a b} h => ?_
    have h' : SrtO.lexB (pairAt H b) (pairAt H a) = false := h
    rcases Int.lt_or_le (pairAt H b).1 (pairAt H a).1 with z | z
    · have := SrtO.lexB_iff.mpr (Or.inl z : (pairAt H b).1 < (pairAt H a).1 ∨ _)
      rw [this] at h'; cases h'
    · exact z
theorem cut_top (xs : List V) (k : Nat) : cutV xs none (some (k : Int)) = xs.take k := by
  unfold cutV
  rw [HT.sIx_none, HT.sIx_nat, List.drop_zero, Nat.sub_zero]
  rcases Nat.le_total k xs.length with h | h
  · rw [Nat.min_eq_left h]
  · rw [Nat.min_eq_right h, List.take_length, List.take_of_length_le h]
end

/-! ### the greatest sum of some items -/
/-- the greatest sum of at most k items -/
def bestS : Nat → List Int → Int
  | 0, _ => 0
  | _ + 1, [] => 0
  | k + 1, x :: l => max (bestS (k + 1) l) (x + bestS k l)
theorem bestS_zero (l : List Int) : bestS 0 l = 0 := by cases l <;> rfl
theorem bestS_nil (k : Nat) : bestS k [] = 0 := by cases k <;> rfl
theorem bestS_cons (k : Nat) (x : Int) (l : List Int) : bestS (k + 1) (x :: l) = max (bestS (k + 1) l) (x + bestS k l) := rfl
theorem bestS_nonneg : ∀ (k : Nat) (l : List Int), 0 ≤ bestS k l
  | 0, l => by rw [bestS_zero]; omega
  | k + 1, [] => by rw [bestS_nil]; omega
  | k + 1, x :: l => by
    have := bestS_nonneg (k + 1) l
    rw [bestS_cons]; omega
theorem bestS_mono : ∀ (l : List Int) (k : Nat), bestS k l ≤ bestS (k + 1) l
  | [], k => by rw [bestS_nil, bestS_nil]; omega
  | x :: l, 0 => by rw [bestS_zero]; exact bestS_nonneg _ _
  | x :: l, k + 1 => by
    have h1 := bestS_mono l (k + 1)
    have h2 := bestS_mono l k
    rw [bestS_cons, bestS_cons]; omega
theorem bestS_neg {x : Int} (h : x ≤ 0) (l : List Int) : ∀ k, bestS k (x :: l) = bestS k l
  | 0 => by rw [bestS_zero, bestS_zero]
  | k + 1 => by
    have h1 := bestS_mono l k
    rw [bestS_cons]; omega
theorem bestS_swap (x y : Int) (l : List Int) : ∀ k, bestS k (x :: y :: l) = bestS k (y :: x :: l)
  | 0 => by rw [bestS_zero, bestS_zero]
  | 1 => by
    rw [bestS_cons, bestS_cons, bestS_cons, bestS_cons, bestS_zero, bestS_zero, bestS_zero]; omega
  | k + 2 => by
    rw [bestS_cons, bestS_cons, bestS_cons, bestS_cons, bestS_cons, bestS_cons]; omega
theorem bestS_perm {l l' : List Int} (h : l.Perm l') : ∀ k, bestS k l = bestS k l' := by
  induction h with
  | nil => intro k; rfl
  | cons x _ ih =>
    intro k
    cases k with
    | zero => rw [bestS_zero, bestS_zero]
    | succ k => rw [bestS_cons, bestS_cons, ih, ih]
  | swap x y l => intro k; exact bestS_swap _ _ _ _
  | trans _ _ ih1 ih2 => intro k; rw [ih1, ih2]
theorem bestS_filter (l : List Int) (k : Nat) : bestS k (l.filter fun x => decide (0 < x)) = bestS k l := by
  induction l generalizing k with
  | nil => rfl
  | cons x l ih =>
    by_cases h : 0 < x
    · rw [List.filter_cons_of_pos (by simpa using h)]
      cases k with
      | zero => rw [bestS_zero, bestS_zero]
      | succ k => rw [bestS_cons, bestS_cons, ih, ih]
    · rw [List.filter_cons_of_neg (by simpa using h), ih, bestS_neg (by omega)]
theorem bestS_sorted : ∀ (l : List Int) (k : Nat), l.Pairwise (· ≥ ·) → (∀ x ∈ l, 0 ≤ x) → bestS k l = (l.take k).sum
  | [], k, _, _ => by rw [bestS_nil]; simp
  | x :: l, 0, _, _ => by rw [bestS_zero]; simp
  | x :: l, k + 1, hs, hp => by
    obtain ⟨h1, h2⟩ := List.pairwise_cons.mp hs
    have p2 : ∀ y ∈ l, 0 ≤ y := fun y hy => hp y (List.mem_cons_of_mem _ hy)
    have hx := hp x List.mem_cons_self
    have i1 := bestS_sorted l (k + 1) h2 p2
    have i2 := bestS_sorted l k h2 p2
    rw [bestS_cons, i1, i2, List.take_succ_cons, List.sum_cons]
    have h3 : (l.take (k + 1)).sum ≤ x + (l.take k).sum := by
      rw [List.take_add_one, List.sum_append]
      cases e : l[k]? with
      | none => simp; omega
      | some y =>
        have := h1 y (List.mem_of_getElem? e)
        simp; omega
    omega
theorem bestS_full : ∀ (l : List Int) (k : Nat), l.length ≤ k → bestS (k + 1) l = bestS k l
  | [], k, _ => by rw [bestS_nil, bestS_nil]
  | x :: l, 0, h => by simp at h
  | x :: l, k + 1, h => by
    have h' : l.length ≤ k := by simpa using h
    rw [bestS_cons, bestS_cons, bestS_full l (k + 1) (by omega), bestS_full l k h']
theorem bestS_shift {c : Int} (hc : 0 ≤ c) : ∀ (l : List Int) (k : Nat), k ≤ l.length → (∀ x ∈ l, 0 ≤ x) → bestS k (l.map (· + c)) = bestS k l + (k : Int) * c
  | l, 0, _, _ => by rw [bestS_zero, bestS_zero]; simp
  | [], k + 1, h, _ => by simp at h
  | x :: l, k + 1, h, hp => by
    have hx := hp x List.mem_cons_self
    have p2 : ∀ y ∈ l, 0 ≤ y := fun y hy => hp y (List.mem_cons_of_mem _ hy)
    have h' : k ≤ l.length := by simpa using h
    have i2 := bestS_shift hc l k h' p2
    have e : ((k + 1 : Nat) : Int) * c = (k : Int) * c + c := by rw [Int.natCast_add, Int.add_mul]; simp
    rw [List.map_cons, bestS_cons, bestS_cons, i2, e]
    generalize (k : Int) * c = kc at *
    by_cases hk : k + 1 ≤ l.length
    · have i1 := bestS_shift hc l (k + 1) hk p2
      rw [e] at i1
      rw [i1]; omega
    · have f1 := bestS_full (l.map (· + c)) k (by rw [List.length_map]; omega)
      have f2 := bestS_full l k (by omega)
      rw [f1, f2, i2]; omega
theorem bestS_less {f f' g : Nat → Int} : ∀ (os : List Nat) (k : Nat), (∀ o ∈ os, f o ≤ f' o) → (os.map f).sum - bestS k (os.map fun o => f o - g o) ≤ (os.map f').sum - bestS k (os.map fun o => f' o - g o)
  | [], k, _ => by simp [bestS_nil]
  | o :: os, 0, h => by
    have h1 := bestS_less (f := f) (f' := f') (g := g) os 0 fun x hx => h x (List.mem_cons_of_mem _ hx)
    have h2 := h o List.mem_cons_self
    rw [bestS_zero, bestS_zero] at *
    simp only [List.map_cons, List.sum_cons]; omega
  | o :: os, k + 1, h => by
    have h1 := bestS_less (f := f) (f' := f') (g := g) os (k + 1) fun x hx => h x (List.mem_cons_of_mem _ hx)
    have h2 := bestS_less (f := f) (f' := f') (g := g) os k fun x hx => h x (List.mem_cons_of_mem _ hx)
    have h3 := h o List.mem_cons_self
    simp only [List.map_cons, List.sum_cons, bestS_cons]
    omega
theorem sum_shift {c : Int} (l : List Int) : (l.map (· + c)).sum = l.sum + (l.length : Int) * c := by
  induction l with
  | nil => simp
  | cons x l ih =>
    rw [List.map_cons, List.sum_cons, ih, List.sum_cons, List.length_cons, Int.natCast_add, Int.add_mul]
    simp; omega

/-! ### values of any kind: contains and == -/
theorem sub_none (K : PySem.W.Frag) (C : Addr) : PySem.W.subIn K (.type "NoneType") (.ref C) = some false := by rfl
theorem sub_bool (K : PySem.W.Frag) (C : Addr) : PySem.W.subIn K (.type "bool") (.ref C) = some false := by rfl
theorem sub_int (K : PySem.W.Frag) (C : Addr) : PySem.W.subIn K (.type "int") (.ref C) = some false := by rfl
theorem sub_str (K : PySem.W.Frag) (C : Addr) : PySem.W.subIn K (.type "str") (.ref C) = some false := by rfl
theorem sub_list (K : PySem.W.Frag) (C : Addr) : PySem.W.subIn K (.type "list") (.ref C) = some false := by rfl
theorem sub_tuple (K : PySem.W.Frag) (C : Addr) : PySem.W.subIn K (.type "tuple") (.ref C) = some false := by rfl
theorem sub_dict (K : PySem.W.Frag) (C : Addr) : PySem.W.subIn K (.type "dict") (.ref C) = some false := by rfl
theorem Kn.sub {K : PySem.W.Frag} {H : Hp} {v : V} {n : String} (k : Kn K H v n) (C : Addr) : PySem.W.subIn K (.type n) (.ref C) = some false := by
  cases k with
  | non => exact sub_none K C
  | bl b => exact sub_bool K C
  | int i => exact sub_int K C
  | str x => exact sub_str K C
  | lst e => exact sub_list K C
  | tup e => exact sub_tuple K C
  | dK e => exact sub_dict K C
theorem Kn.first {K : PySem.W.Frag} {H : Hp} {v : V} {n : String} (k : Kn K H v n) (C : Addr) : PySem.W.notFirst K C (.type n) = true := by
  unfold PySem.W.notFirst
  rw [k.sub C]; simp
/-- what kind of value v is -/
inductive Kd (L : List R) : V → String → Prop
  | non : Kd L .non "NoneType"
  | bl (b : Bool) : Kd L (.bl b) "bool"
  | int (i : Int) : Kd L (.int i) "int"
  | str (x : Str) : Kd L (.str x) "str"
  | lst {a : Addr} {xs : List V} (e : R.cell a (.lst xs) ∈ L) : Kd L (.ref a) "list"
  | tup {a : Addr} {xs : List V} (e : R.tup a xs ∈ L) : Kd L (.ref a) "tuple"
  | dK {a : Addr} {kvs : List (Key × V)} (e : R.cell a (.dK kvs) ∈ L) : Kd L (.ref a) "dict"
theorem Kd.mono {L L' : List R} {v : V} {n : String} (h : Kd L v n) (s : ∀ r ∈ L, r ∈ L') : Kd L' v n := by
  cases h with
  | non => exact .non
  | bl b => exact .bl b
  | int i => exact .int i
  | str x => exact .str x
  | lst e => exact .lst (s _ e)
  | tup e => exact .tup (s _ e)
  | dK e => exact .dK (s _ e)
section
variable {C : Addr} {K : PySem.W.Frag} {Tb : List (Addr × Str)} {H : Hp} {L L' : List R}
theorem Sep.kn {v : V} {n : String} (S : Sep C K Tb H L) (k : Kd L v n) : Kn K H v n := by
  cases k with
  | non => exact .non
  | bl b => exact .bl b
  | int i => exact .int i
  | str x => exact .str x
  | lst e => exact .lst (S.get e)
  | tup e => exact .tup (S.getT e)
  | dK e => exact .dK (S.get e)
end
/-- a value that is asked of a map: a tuple with its items, or none -/
inductive Odd (L : List R) : V → Option (List V) → Prop
  | no {v : V} {n : String} (h : Kd L v n) (e : n ≠ "tuple") : Odd L v none
  | tup {t : Addr} {xs : List V} (h : R.tup t xs ∈ L) (e : ∀ x ∈ xs, ∃ n, Kd L x n) : Odd L (.ref t) (some xs)
theorem Odd.mono {L L' : List R} {v : V} {r : Option (List V)} (h : Odd L v r) (s : ∀ r ∈ L, r ∈ L') : Odd L' v r := by
  cases h with
  | no h e => exact .no (h.mono s) e
  | tup h e => exact .tup (s _ h) fun x hx => (e x hx).imp fun _ k => k.mono s
def SM.hasV (m : SM) : Option (List V) → Bool
  | some [.int a, .int b] => m.has a b
  | _ => false
theorem SM.hasV_len {m : SM} {xs : List V} (h : xs.length ≠ 2) : m.hasV (some xs) = false := by
  match xs, h with
  | [], _ => rfl
  | [_], _ => simp [SM.hasV]
  | [_, _], h => exact absurd rfl h
  | _ :: _ :: _ :: _, _ => simp [SM.hasV]
theorem SM.hasV_odd {m : SM} {x y : V} (h : (isInt x && isInt y) = false) : m.hasV (some [x, y]) = false := by
  cases x with
  | int i =>
    cases y with
    | int j => exact absurd h (by simp [isInt])
    | _ => rfl
  | _ => rfl
theorem isInt_int {x : V} (h : isInt x = true) : ∃ i, x = .int i := by
  cases x with
  | int i => exact ⟨i, rfl⟩
  | _ => cases h
def spHasV (C : Addr) (Tb : List (Addr × Str)) (K : PySem.W.Frag) : Sp := fun vs H Q _ => ∃ (L : List R) (p : Addr) (v : V) (m : SM) (r : Option (List V)), vs = [.ref p, v] ∧ Sep C K Tb H L ∧ R.sl p m ∈ L ∧ Odd L v r ∧ (∀ xs, r = some xs → xs.length ≤ 1000) ∧ ∀ H' : Hp, Sep C K Tb H' L → Q (.bl (m.hasV r)) H'
theorem u_hasV {C : Addr} {Tb : List (Addr × Str)} {K : PySem.W.Frag} {H : Hp} {L : List R} {Q : VK} {E : XK} {p : Addr} {v : V} {m : SM} {r : Option (List V)} (neg : Bool) (S : Sep C K Tb H L) (h : R.sl p m ∈ L) (o : Odd L v r) (hl : ∀ xs, r = some xs → xs.length ≤ 1000) (k : ∀ H', Sep C K Tb H' L → Q (.bl (if neg then !m.hasV r else m.hasV r)) H') : rInOwn C (spHasV C Tb K) E neg v (.ref p) H Q := by
  obtain ⟨F, f⟩ := S.slot h
  obtain ⟨dx, lo, la, lt, lh, x, g⟩ := id f
  exact ⟨p, dx, _, rfl, x.ins, L, p, v, m, r, rfl, S, h, o, hl, fun H' S' => ⟨_, rfl, k H' S'⟩⟩
/-! ### == of an own object and any value -/
def rEqOwnV (C : Addr) (sp : Sp) (E : XK) (neg : Bool) (K : PySem.W.Frag) : R2 := fun x y H Q => ∃ a dx fs, x = .ref a ∧ H a = some (.ins C dx fs) ∧ ((∃ n, Kn K H y n) ∨ ∃ b dy gs, y = .ref b ∧ H b = some (.ins C dy gs)) ∧ sp [.ref a, y] H (fun v H' => ∃ r, v = .bl r ∧ Q (.bl (if neg then !r else r)) H') E
section
open PySem PySem.W PyProof.Rows
variable {X : Cx} {CX : CXT} {n : Nat} {C f : Addr} {fd : FuncData} {ps : List Str} {sp : Sp} {E : XK} {K : PySem.W.Frag}
theorem first_of {pins : List (Addr × Obj)} {σ : L2.St} {H : Hp} {s : Shared} {y : V} {u : Value} (I : Inv X pins σ H s) (ry : RelV y u) (hy : (∃ n, Kn X.K H y n) ∨ ∃ b dy gs, y = .ref b ∧ H b = some (.ins C dy gs)) : ∃ tb, Looks (model X.prog X.w) s.heap (typeOf u) tb ∧ PySem.W.notFirst X.K C tb = true := by
  rcases hy with ⟨n, kn⟩ | ⟨b, dy, gs, rfl, hb⟩
  · obtain ⟨P, Z, hP, _⟩ := kit_of I ry kn.ty
    exact ⟨.type n, Z.ty _ _ I.kIn hP, kn.first C⟩
  · cases ry
    obtain ⟨mB, J', _⟩ := ins_get I.hok hb
    obtain ⟨od', J', _⟩ := J'.look
    exact ⟨.ref C, J'.type, by simp [PySem.W.notFirst]⟩
theorem op_eqOwnV (F : FnOk X.prog X.w X.K X.mg X.base CX n f fd ps sp) (hr : Room n X.A) (mt : Meth X.K C "__eq__" f) (hb : Binds X.K fd ps []) (hx : Passes CX X E) (hK : X.K = K := by rfl) : OpR X (compareOp .Eq) (rEqOwnV C sp E false K) := by
  subst hK
  intro pins s σ H x y v u Q I rx ry h
  obtain ⟨a, dx, fs, rfl, ha, hy, hsp⟩ := h
  cases rx
  obtain ⟨mA, J, _⟩ := ins_get I.hok ha
  obtain ⟨od, J, _⟩ := J.look
  obtain ⟨m, hF⟩ := I.fr
  obtain ⟨tb, l1, l2⟩ := first_of (C := C) I ry hy
  refine PySem.W.cmp_K (op := .Eq) (tb := tb) hr.units0 hF I.ok.mod.kin J l1 l2 mt.at_ mt.fn ?_
  refine wpAny_mono (run_at F hr rfl hb hx I (.cons (show RelV (.ref a) (.ref a) from rfl) (.cons ry .nil)) hsp) (fun r s' hq => ?_) fun _ _ e => e
  obtain ⟨z, H', I', rz, k, rfl, q⟩ := hq
  obtain rfl : r = Value.bool k := rz
  exact ⟨.bl k, H', I', rfl, q⟩
theorem op_neOwnV (F : FnOk X.prog X.w X.K X.mg X.base CX n f fd ps sp) (hr : Room (n + 1) X.A) (cl : Cls X.K C) (hne : PySem.W.findIn X.K (.ref C) "__ne__" = some (some (.builtin "object.__ne__"))) (mt : Meth X.K C "__eq__" f) (hb : Binds X.K fd ps []) (hx : Passes CX X E) (hK : X.K = K := by rfl) : OpR X (compareOp .NotEq) (rEqOwnV C sp E true K) := by
  subst hK
  intro pins s σ H x y v u Q I rx ry h
  obtain ⟨a, dx, fs, rfl, ha, hy, hsp⟩ := h
  cases rx
  obtain ⟨mA, J, _⟩ := ins_get I.hok ha
  obtain ⟨od, J, _⟩ := J.look
  obtain ⟨m, hF⟩ := I.fr
  obtain ⟨tb, l1, l2⟩ := first_of (C := C) I ry hy
  refine ne_K (tb := tb) (by have := hr.un; omega) hF I.ok.mod.kin J l1 l2 cl.po hne mt.at_ mt.fn ?_
  refine wpAny_mono (run_at F hr.in1 rfl hb hx I (.cons (show RelV (.ref a) (.ref a) from rfl) (.cons ry .nil)) hsp) (fun r s' hq => ?_) fun _ _ e => e
  obtain ⟨z, H', I', rz, k, rfl, q⟩ := hq
  obtain rfl : r = Value.bool k := rz
  exact ⟨k, rfl, .bl (!k), H', I', rfl, q⟩
end
def IsCls (K : PySem.W.Frag) (C : Addr) : Prop := PySem.W.hasDictIn K C = true ∧ PySem.W.typeIn K (.ref C) = some (.type "type")
theorem IsCls.both {K : PySem.W.Frag} {C : Addr} (c : IsCls K C) : ((PySem.W.clsIn K C).isSome && PySem.W.typeIn K (.ref C) == some (.type "type")) = true := by
  obtain ⟨cd, hc, _⟩ := PySem.W.any_some c.1
  rw [hc, c.2] <;> rfl
theorem r_isiNot {K : PySem.W.Frag} {C : Addr} {H : Hp} {Q : VK} {v : V} {n : String} (kn : Kn K H v n) (c : IsCls K C) (h : Q (.bl false) H) : rIsi K [v, .ref C] H Q :=
  ⟨_, _, .type n, .ref C, false, rfl, .own C, kn.ty, by
    unfold PySem.W.kitOne
    rw [if_neg (by simp)]
    unfold PySem.W.kitCls
    exact (if_pos c.both).trans (kn.sub C), h⟩

/-- l.count(x): how many are equal -/
def rCntD (K : PySem.W.Frag) : V → List V → Hp → VK → Prop := fun x xs H Q => ∃ (a : Addr) (y : V) (d : PyData) (ds : List PyData), x = V.ref a ∧ xs = [y] ∧ Dp K H (V.ref a) (.list ds) ∧ Dp K H y d ∧
  SeqAt.shaped (.list ds) = true ∧ SeqAt.shaped d = true ∧ Q (.int ((ds.countP fun z => PyData.eqv z d : Nat) : Int)) H
theorem mt_countD {X : Cx} (hu : X.A.units + 65 < cLine) : MtR X "list.count" (rCntD X.K) := by
  intro pins s σ H x xs v us Q I rx rxs h
  obtain ⟨a, y, d, ds, rfl, rfl, hl, hy, sl, sd, q⟩ := h
  cases rx
  cases rxs with
  | cons ry rt =>
    rename_i uy ut
    cases rt
    obtain ⟨bs, r1⟩ := Dp.reads I d y uy hy ry
    have hxs : PyData.canLayAll0 ds = true := SeqAt.canLay_of_shaped sl
    have hroom : X.A.units + 1 + min (PyData.depthAll ds) d.depth < cLine := PyProof.Rows.room_in_shaped sd hu
    cases hl with
    | lst hs ha =>
      obtain ⟨its, rv, ⟨⟨cls, dd, data, sls⟩, n, ho, hc, hdn, hdt⟩, hlen⟩ := I.list hs
      simp only at hc hdt
      subst hc hdt
      obtain ⟨as, h4⟩ := Dp.readsAll I ds _ its ha rv
      have hmap : its.map (SeqAt.readOf s.heap) = ds := SeqAt.readsAll_map ds its as hxs h4
      refine call_meets PySem.F.slot_list_count ⟨_, ho, rfl⟩ PySem.F.entry_list_count (PySem.F.args_list_count_2 _ _)
        (SeqAt.list_countAt a its.toArray n dd sls uy (fun u => PyData.eqv (SeqAt.readOf s.heap u) d)) ⟨ho, SeqAt.items_eqAt (vs := its.toArray) (show ReadsAll s.heap its.toArray.toList ds as from h4) r1 hxs (SeqAt.canLay_of_shaped sd) hroom, ?_⟩
      have ec : its.toArray.toList.countP (fun u => PyData.eqv (SeqAt.readOf s.heap u) d) = ds.countP fun z => PyData.eqv z d := by
        rw [← hmap, List.countP_map]; rfl
      refine ⟨.int ((ds.countP fun z => PyData.eqv z d : Nat) : Int), H, I.tok _, ⟨s.toks, ?_⟩, q⟩
      rw [ec]
theorem cntD {X : Cx} {K : PySem.W.Frag} (hu : X.A.units + 65 < cLine) (h : X.K = K := by rfl) : MtR X "list.count" (rCntD K) := h ▸ mt_countD hu

/-! ### rows: a list or a tuple -/
def iSeq (K : PySem.W.Frag) (te : TE) : TI := fun σ H R => iList K te σ H R ∨ iTup K te σ H R
theorem pi_seq {X : Cx} {tg e : Expr} {te : TE} (he : PE X e te) : PI X tg e (iSeq X.K te) := ⟨fun pins s σ H R I h => h.elim ((pi_list he).run pins s σ H R I) ((pi_tup he).run pins s σ H R I)⟩
def Row (L : List R) (a : Addr) (xs : List V) : Prop := R.cell a (.lst xs) ∈ L ∨ R.tup a xs ∈ L
theorem Row.mono {L L' : List R} {a : Addr} {xs : List V} (h : Row L a xs) (s : ∀ r ∈ L, r ∈ L') : Row L' a xs := h.elim (fun h => .inl (s _ h)) fun h => .inr (s _ h)
theorem Row.cons {L : List R} {a : Addr} {xs : List V} {r : R} (h : Row L a xs) : Row (r :: L) a xs := h.mono fun _ => List.mem_cons_of_mem _
def RowK (K : PySem.W.Frag) (H : Hp) (a : Addr) (xs : List V) : Bool → Prop
  | true => SqL K H a xs
  | false => SqT K H a xs
def rIxS (K : PySem.W.Frag) : R2 := fun o i H Q => rIxL K o i H Q ∨ rIxT K o i H Q
theorem ixS {X : Cx} {K : PySem.W.Frag} (h : X.K = K := by rfl) : IxR X (rIxS K) := by
  subst h
  intro e1 e2 pins s σ H x y v u Q I rx ry q hs
  exact q.elim (fun q => (ixL (X := X) (K := X.K) rfl) e1 e2 pins s σ H x y v u Q I rx ry q hs) (fun q => (ixT (X := X) (K := X.K) rfl) e1 e2 pins s σ H x y v u Q I rx ry q hs)
theorem isiTK {X : Cx} {K : PySem.W.Frag} (h : X.K = K := by rfl) : CallR X (.builtin "isinstance") (rIsiT K) := h ▸ call_isiT
section
variable {C : Addr} {K : PySem.W.Frag} {Tb : List (Addr × Str)} {H : Hp} {L : List R} {Q : VK} {σ : St} {g : TG} {tb : TS} {tt : TT} {te : TE} {vs : List Nat} {D : Ends} {a : Addr} {xs : List V} {j : Nat}
theorem Sep.rowk (S : Sep C K Tb H L) {b : Bool} (h : if b = true then R.cell a (.lst xs) ∈ L else R.tup a xs ∈ L) : RowK K H a xs b := by
  cases b
  · exact SqT.of (S.getT h)
  · exact SqL.of (S.get h)
theorem Row.b (h : Row L a xs) : ∃ b : Bool, if b = true then R.cell a (.lst xs) ∈ L else R.tup a xs ∈ L := h.elim (fun h => ⟨true, h⟩) fun h => ⟨false, h⟩
/-- for x in row -/
theorem s_forS (hv : σ[j]? = some (some (.ref a))) (b : Bool) (Pv : Nat → St → Hp → Prop) (h0 : Pv 0 σ H) (hl : ∀ i σ H, i ≤ xs.length → Pv i σ H → RowK K H a xs b)
    (hs : ∀ (i : Nat) x σ H, xs[i]? = some x → Pv i σ H → g x σ H fun σ2 H2 => tb { D with nx := Pv (i + 1), ct := Pv (i + 1), bk := D.nx } σ2 H2) (hd : ∀ σ H, Pv xs.length σ H → D.nx σ H) :
    iSeq K (tVar j) σ H fun J H1 => Loop J g tb D σ H1 := by
  cases b
  · exact .inr ⟨.ref a, hv, a, rfl, ⟨xs, hl 0 σ H (Nat.zero_le _) h0⟩, loop_tup (xs := xs) Pv h0 hl hs hd⟩
  · exact .inl ⟨.ref a, hv, a, rfl, ⟨xs, hl 0 σ H (Nat.zero_le _) h0⟩, loop_list (xs := xs) Pv h0 hl hs hd⟩
/-- [.. for x in row ..], its items plain values -/
theorem s_lcS {α : Type} (hv : σ[j]? = some (some (.ref a))) (zs : List α) (S : Sep C K Tb H L) (hx : Row L a xs) (hlen : xs.length = zs.length) (hn : zs.length ≤ 1000000) (f : α → Bool) (w : α → V)
    (hs : ∀ D H' (i : Nat) x z acc (N : Hp → Prop), xs[i]? = some x → zs[i]? = some z → acc.length ≤ 1000000 → Sep C K Tb H' (.cell D (.lst acc) :: L) → (f z = true → ∀ H'', Sep C K Tb H'' (.cell D (.lst (acc ++ [w z])) :: L) → N H'') → (f z = false → ∀ H'', Sep C K Tb H'' (.cell D (.lst acc) :: L) → N H'') →
      g x (wipe σ vs) H' fun σ2 H2 => wipe σ2 vs = wipe σ vs ∧ tt σ2 H2 fun b H3 => if b = true then te σ2 H3 fun y H4 => ∃ a, H4 D = some (.lst a) ∧ a.length < sizeLine ∧ N (upd H4 D (.lst (a ++ [y]))) else N H3)
    (hd : ∀ D H', Sep C K Tb H' (.cell D (.lst ((zs.filter f).map w)) :: L) → Q (.ref D) H') : iSeq K (tVar j) σ H fun J H1 => LcLoop J g tt te vs σ H1 Q := by
  rcases hx with hx | hx
  · exact .inl ⟨.ref a, hv, a, rfl, ⟨xs, SqL.of (S.get hx)⟩, s_lcL zs S (.inl hx) hlen hn f w hs hd⟩
  · refine .inr ⟨.ref a, hv, a, rfl, ⟨xs, SqT.of (S.getT hx)⟩, ?_⟩
    intro Dd hD
    refine lc_tup (K := K) (a := a) (xs := xs) (fun i H' => Sep C K Tb H' (.cell Dd (.lst (((zs.take i).filter f).map w)) :: L)) (S.new hD trivial) (fun i H' _ S' => SqT.of (S'.getT (List.mem_cons_of_mem _ hx))) (fun i x H' hi S' => ?_) (fun H' S' => ?_)
    · have hi2 : i < zs.length := by rw [← hlen]; exact (List.getElem?_eq_some_iff.mp hi).1
      have hz := List.getElem?_eq_getElem hi2
      refine hs Dd H' i x _ _ _ hi hz (Nat.le_trans (filtZ_len _ _ _ _) hn) S' (fun c H'' S'' => ?_) (fun c H'' S'' => ?_)
      · show Sep C K Tb H'' (.cell Dd (.lst (((zs.take (i + 1)).filter f).map w)) :: L)
        rw [filtZ f w hz, if_pos c]; exact S''
      · show Sep C K Tb H'' (.cell Dd (.lst (((zs.take (i + 1)).filter f).map w)) :: L)
        rw [filtZ f w hz, if_neg (by rw [c]; exact Bool.false_ne_true)]; exact S''
    · refine hd Dd H' ?_
      rw [hlen, List.take_length] at S'; exact S'
/-- isinstance(x, (list, tuple)) -/
theorem r_isiLT {tp : Addr} {v : V} {n : String} (ht : H tp = some (.tup [.ty "list", .ty "tuple"])) (kn : Kn K H v n) (k : Q (.bl (n == "list" || n == "tuple")) H) : rIsiT K [v, .ref tp] H Q := by
  refine ⟨v, tp, [.ty "list", .ty "tuple"], .type n, [.type "list", .type "tuple"], n == "list" || n == "tuple", rfl, ht, .cons (.ty _) (.cons (.ty _) .nil), kn.ty, ?_, k⟩
  have one : ∀ m b, kitB n m = some b → PySem.W.kitOne K (.type n) (.type m) = some b := fun m b e => kit_ty e
  unfold PySem.W.kitAny
  cases kn with
  | non => rw [one "list" false (by decide +kernel)]; show PySem.W.kitAny K _ _ = _; unfold PySem.W.kitAny; rw [one "tuple" false (by decide +kernel)]; rfl
  | bl b => rw [one "list" false (by decide +kernel)]; show PySem.W.kitAny K _ _ = _; unfold PySem.W.kitAny; rw [one "tuple" false (by decide +kernel)]; rfl
  | int i => rw [one "list" false (by decide +kernel)]; show PySem.W.kitAny K _ _ = _; unfold PySem.W.kitAny; rw [one "tuple" false (by decide +kernel)]; rfl
  | str x => rw [one "list" false (by decide +kernel)]; show PySem.W.kitAny K _ _ = _; unfold PySem.W.kitAny; rw [one "tuple" false (by decide +kernel)]; rfl
  | lst e => rw [one "list" true (by decide +kernel)]; rfl
  | tup e => rw [one "list" false (by decide +kernel)]; show PySem.W.kitAny K _ _ = _; unfold PySem.W.kitAny; rw [one "tuple" true (by decide +kernel)]; rfl
  | dK e => rw [one "list" false (by decide +kernel)]; show PySem.W.kitAny K _ _ = _; unfold PySem.W.kitAny; rw [one "tuple" false (by decide +kernel)]; rfl
end
theorem Sep.strD {C : Addr} {K : PySem.W.Frag} {Tb : List (Addr × Str)} {H : Hp} {L : List R} {v : V} {x : Str} (S : Sep C K Tb H L) (h : Has true L v (.str x)) : v = .str x := by
  obtain ⟨⟨Φ, h1, h2⟩, t⟩ := S
  cases Sep.dr_ h2 h
  rfl

/-! ### errors of the package: raised, caught -/
section
variable {X : Cx} {C : Addr} {bmB : List Value} {B newId initId : String}
/-- C(), an own error without an own __init__ -/
theorem pmk_own0 {x : Str} {p pos : Pos} (F : ExcBaseFacts B newId initId bmB) (q : PySem.W.excIn X.K C bmB newId = true) (gC : X.mg x = some (.ref C)) (kC : PySem.W.keepIn X.K (.ref C) = true) (r : Raises X (.ref C)) (hg : Gl X x)
    (hdb : (x == ("__debug__" : Str)) = false := by decide) : PMk X (.Call (.Name x p) [] [] pos) (fun _ H Q => Q (.ref C) none H) := by
  intro pins s σ H Q I h
  refine wpAny_Call_Name_kw (ld_glob I hg gC (PySem.W.callWith_K0 I.kIn kC ?_) hdb)
  obtain ⟨bm, N, nm, qn, bs, hdct, sn, sub, ab, col, dd, k0, k1, k2, k3, k5, mN, hC, hN, hni, T⟩ := exc_obj I.kIn q
  exact wpAny_call_exc_subT F T hC hN hni (fun h' e hm => mk_of I hm r h (I.hok.gone hm.new)) (Nat.zero_le _)
end
def veBase : List Value := [.type "ValueError", .type "Exception", .type "BaseException", .type "object"]
/-- what the text says of an own error class -/
structure XCls (K : PySem.W.Frag) (C : Addr) : Prop where
  kp : PySem.W.keepIn K (.ref C) = true
  ex : PySem.W.subIn K (.ref C) (.type "BaseException") = some true
  ty : PySem.W.typeIn K (.ref C) = some (.type "type")
  hd : PySem.W.hasDictIn K C = true
/-- an except clause that names C asks an error of the class D -/
theorem XCls.exm {K : PySem.W.Frag} {C D : Addr} {b : Bool} (x : XCls K C) (h : PySem.W.subIn K (.ref D) (.ref C) = some b) : PySem.W.exmOne K (.ref D) (.ref C) = some b := PySem.W.exm_ref x.ex x.hd x.ty h
/-- .. one without an own __init__ -/
structure XCls0 (K : PySem.W.Frag) (C : Addr) : Prop extends XCls K C where
  q : PySem.W.excIn K C veBase "ValueError.__new__" = true
/-- .. one whose __init__ at fI keeps its argument under f -/
structure XCls1 (K : PySem.W.Frag) (C fI : Addr) (f : Str) : Prop extends XCls K C where
  o : OexC K C
  no : PySem.W.findIn K (.ref C) f = some none
  iC : PySem.W.findIn K (.ref C) "__init__" = some (some (.ref fI))
  tI : PySem.W.typeIn K (.ref fI) = some (.type "function")
  ga : PySem.W.findIn K (.ref C) "__getattribute__" = some (some (.builtin "BaseException.__getattribute__"))
  gg : PySem.W.findIn K (.ref C) "__getattr__" = some none
theorem XCls1.xf {K : PySem.W.Frag} {C fI : Addr} {f : Str} (x : XCls1 K C fI f) : XfC K C := ⟨x.ga, x.gg, x.ex, x.hd⟩
/-- what such an __init__ promises -/
def spXInit (K : PySem.W.Frag) (f : Str) : Sp := fun vs H Q _ => ∃ (a C : Addr) (v : V), vs = [.ref a, v] ∧ OexC K C ∧ PySem.W.findIn K (.ref C) f = some none ∧ H a = some (exo a C none) ∧ ∀ dx, H dx = none → dx ≠ a → Q .non (upd (upd H dx (exd dx [(f, v)])) a (exo a C (some dx)))
theorem r_ost {D : Ends} {σ : St} {H : Hp} {K : PySem.W.Frag} {f : Str} {to te : TE} (h : te σ H fun y H1 => to σ H1 fun x H2 => ∃ a C : Addr, x = .ref a ∧ OexC K C ∧ PySem.W.findIn K (.ref C) f = some none ∧
  ((H2 a = some (exo a C none) ∧ ∀ dx, H2 dx = none → dx ≠ a → D.nx σ (upd (upd H2 dx (exd dx [(f, y)])) a (exo a C (some dx)))) ∨
    ∃ (dx : Addr) (fs : List (Str × V)), H2 a = some (exo a C (some dx)) ∧ H2 dx = some (exd dx fs) ∧ fs.length ≤ 900 ∧ D.nx σ (upd H2 dx (exd dx ((f, y) :: fs))))) : tOst K f to te D σ H := h
/-- C(e): the error's dict is new -/
def MkX (C : Addr) (K : PySem.W.Frag) (f : Str) (vs : List V) (H1 : Hp) (Q : XK) : Prop := vs.length ≤ 1000 ∧ ∀ a, H1 a = none → spXInit K f (.ref a :: (vs ++ [])) (upd H1 a (exo a C none)) (fun v H2 => v = .non ∧ ∃ (d : Addr) (fs : List (Str × V)), H2 a = some (exo a C (some d)) ∧ H2 d = some (exd d fs) ∧ H1 d = none ∧ Q (.ref C) (some d) (upd (del H2 a) d (.xd fs))) (fun _ _ _ => False)
theorem r_mkX {C : Addr} {K : PySem.W.Frag} {f : Str} {v : V} {H : Hp} {Q : XK} (o : OexC K C) (no : PySem.W.findIn K (.ref C) f = some none) (h : ∀ d, H d = none → Q (.ref C) (some d) (upd H d (.xd [(f, v)]))) : MkX C K f [v] H Q := by
  refine ⟨by simp, fun a na => ⟨a, C, v, rfl, o, no, upd_same, fun dx n1 n2 => ⟨rfl, dx, [(f, v)], upd_same, ?_, ?_, ?_⟩⟩⟩
  · rw [upd_ne n2, upd_same]
  · rwa [upd_ne n2] at n1
  · have n3 : H dx = none := by rwa [upd_ne n2] at n1
    have e : upd (del (upd (upd (upd H a (exo a C none)) dx (exd dx [(f, v)])) a (exo a C (some dx))) a) dx (.xd [(f, v)]) = upd H dx (.xd [(f, v)]) := by
      funext b
      by_cases h1 : b = dx
      · rw [h1, upd_same, upd_same]
      · rw [upd_ne h1, upd_ne h1]
        by_cases h2 : b = a
        · rw [h2, del_same, na]
        · rw [del_ne h2, upd_ne h2, upd_ne h1, upd_ne h2]
    rw [e]
    exact h dx n3
/-- raise C(e) -/
def tRaiseF (C : Addr) (K : PySem.W.Frag) (f : Str) (W : WX) (ta : TA) : TS := fun _ σ H => ta σ H fun vs H1 => MkX C K f vs H1 fun cls d H' => W cls d σ H'
theorem r_raiseF {C : Addr} {K : PySem.W.Frag} {f : Str} {W : WX} {ta : TA} {D : Ends} {σ : St} {H : Hp} (h : ta σ H fun vs H1 => MkX C K f vs H1 fun cls d H' => W cls d σ H') : tRaiseF C K f W ta D σ H := h
section
variable {X : Cx} {W : WX}
theorem ps_raiseF {CX : CXT} {x : Str} {C fI : Addr} {k : Nat} {fd : FuncData} {f : Str} {e : Expr} {ta : TA} {p pos pos2 : Pos} (hc : X.calm = true) (T : XCls1 X.K C fI f) (F1 : FnOk X.prog X.w X.K X.mg X.base CX k fI fd ["self", f] (spXInit X.K f)) (hr : Room (k + 1) X.A) (hb : Binds X.K fd ["self", f] [])
    (hx : Passes CX X (fun _ _ _ => False)) (hg : Gl X x) (hm : X.mg x = some (.ref C)) (tk : Takes X W) (ha : PA X [e] ta)
    (hdb : (x == ("__debug__" : Str)) = false := by decide) (he : starEach [e] X.env = (false, eval e X.env) :: starEach [] X.env := by rfl) (hpl : (backTo pos (starEach [] X.env)).any (·.1) = false := by rfl) :
    PS X (.Raise (some (.Call (.Name x p) [e] [] pos)) none pos2) (tRaiseF C X.K f W ta) :=
  ps_raise hc tk (pmk_oex (sp := spXInit X.K f) (ds := []) (dvs := []) T.o T.iC T.tI F1 hr hb .nil hx hg hm ha hdb he hpl)
/-- raise C() -/
def tRaise0 (C : Addr) (W : WX) : TS := fun _ σ H => W (.ref C) none σ H
theorem ps_raise0 {x : Str} {C : Addr} {p pos pos2 : Pos} (hc : X.calm = true) (T : XCls0 X.K C) (hg : Gl X x) (hm : X.mg x = some (.ref C)) (tk : Takes X W) (hdb : (x == ("__debug__" : Str)) = false := by decide) :
    PS X (.Raise (some (.Call (.Name x p) [] [] pos)) none pos2) (tRaise0 C W) := ps_raise hc tk (pmk_own0 PySem.F.excBase_ValueError T.q hm T.kp (raises_own T.ex T.ty) hg hdb)
end
/-! ### what a callee lets out, in the contexts of a def, of a lambda, of a try -/
section
variable {P : Program} {w : World} {K : PySem.W.Frag} {mg : Str → Option Value} {base : Heap} {N : List Str} {qual : Str} {sc : Scope} {f : Addr} {cdv : Value} {A : Around} {outer : List Env} {s : Shared} {H : Hp} {E : XK}
theorem passX : Passes (L2.CX P w) (cxOf (L2.CX P w) P w K mg base N qual sc f cdv A outer s H E) E := passes_call (takes_of rfl rfl rfl rfl) (fun _ _ _ _ h => h)
theorem passLam {X : Cx} {scope : Scope} {c' : Addr} : Passes (L2.CX X.prog X.w) (LamX.lamCx X A outer s H E scope f c') E := passes_call (X := LamX.lamCx X A outer s H E scope f c') (takes_of rfl rfl rfl rfl) (fun _ _ _ _ h => h)
/-- a promise that never raises out of one that may -/
theorem calmF {k : Nat} {fd : FuncData} {ps : List Str} {sp spX : Sp} (F : FnOk P w K mg base (L2.CX P w) k f fd ps spX) (h : ∀ vs H Q E, sp vs H Q E → spX vs H Q E0) : FnOk P w K mg base CX0 k f fd ps sp := by
  refine ⟨fun vs H Q E q => F.len vs H Q E0 (h vs H Q E q), fun A outer s H args us vs Q E hr e0 hb r q => ?_⟩
  refine codeAny_mono (F.run A outer s H args us vs Q E0 hr e0 hb r (h vs H Q E q)) fun rs s' hq => ?_
  cases rs with
  | error e =>
    obtain ⟨_, _, _, _, _, _, _, _, _, _, _, _, z⟩ := (show L2.CX P w outer H s E0 e s' from hq)
    exact z.elim
  | ok fl => cases fl <;> exact hq
end
/-- one promise or the other -/
def orSp (sp sp' : Sp) : Sp := fun vs H Q E => sp vs H Q E ∨ sp' vs H Q E
section
variable {P : Program} {w : World} {K : PySem.W.Frag} {mg : Str → Option Value} {base : Heap} {CX : CXT} {k : Nat} {f : Addr} {fd : FuncData} {ps : List Str} {sp sp' : Sp}
theorem orF (F : FnOk P w K mg base CX k f fd ps sp) (G : FnOk P w K mg base CX k f fd ps sp') : FnOk P w K mg base CX k f fd ps (orSp sp sp') :=
  ⟨fun vs H Q E q => q.elim (F.len vs H Q E) (G.len vs H Q E), fun A o s H a us vs Q E hr e0 hb r q => q.elim (F.run A o s H a us vs Q E hr e0 hb r) (G.run A o s H a us vs Q E hr e0 hb r)⟩
theorem liftF (F : FnOk P w K mg base CX0 k f fd ps sp) : FnOk P w K mg base (L2.CX P w) k f fd ps sp := by
  refine ⟨F.len, fun A outer s H args us vs Q E hr e0 hb r q => ?_⟩
  refine codeAny_mono (F.run A outer s H args us vs Q E hr e0 hb r q) fun rs s' hq => ?_
  cases rs with
  | error e => exact (show False from hq).elim
  | ok fl => cases fl <;> exact hq
end
/-- o.m(..) in a try: what flies out is the try's -/
def tMethS (C : Addr) (m : Str) (sp : Sp) (E : St → XK) (ta : TE) (t : TA) : TE := fun σ H Q => ta σ H fun x H1 => ∃ a dx fs, x = .ref a ∧ H1 a = some (.ins C dx fs) ∧ fs.lookup m = none ∧ t σ H1 fun vs H2 => sp (x :: vs) H2 Q (E σ)
theorem r_methS {σ : St} {H : Hp} {Q : VK} {C : Addr} {m : Str} {sp : Sp} {E : St → XK} {ta : TE} {t : TA} (h : ta σ H fun x H1 => ∃ a dx fs, x = .ref a ∧ H1 a = some (.ins C dx fs) ∧ fs.lookup m = none ∧ t σ H1 fun vs H2 => sp (x :: vs) H2 Q (E σ)) : tMethS C m sp E ta t σ H Q := h
theorem r_callS {σ : St} {H : Hp} {Q : VK} {sp : Sp} {E : St → XK} {t : TA} (h : t σ H fun vs H1 => sp vs H1 Q (E σ)) : tCallS sp E t σ H Q := h
section
variable {X : Cx} {CX : CXT} {k : Nat} {f C : Addr} {fd : FuncData} {ps : List Str} {sp : Sp} {E : St → XK} {m : Str} {pos apos : Pos} {e o : Expr} {es : List Expr} {ta : TE} {t : TA}
theorem pe_methS {pl : Sem Bool} (he : PE X o ta) (c : Cls X.K C) (hm : Meth X.K C m f) (F : FnOk X.prog X.w X.K X.mg X.base CX k f fd ps sp) (hr : Room k X.A) (hb : Binds X.K fd ps []) (hx : ∀ σ, PassesAt CX X σ (E σ)) (ha : PA X (e :: es) t) (hst : starEach (e :: es) X.env = (false, eval e X.env) :: starEach es X.env := by rfl) (hpl : (backTo pos (starEach es X.env)).any (·.1) = false := by rfl) (ht : eval (.Call (.Attribute o m apos) (e :: es) [] pos) X.env = (do
      let ov ← eval o X.env
      standAt apos.atName
      let (gm, gs) ← holding [ov] (getMethod ov m pl)
      callWith pos gm gs (backTo pos (starEach (e :: es) X.env)) (backToKw pos (keywordEach [] X.env))) := by rfl) : PE X (.Call (.Attribute o m apos) (e :: es) [] pos) (tMethS C m sp E ta t) := by
  constructor
  intro pins s σ H Q I h
  refine PySem.W.methodCall_KW (pl := pl) (thn (he.run pins s σ H _ I h) ?_) ht
  rintro u s1 ⟨x, H1, I1, rx, a, dx, fs, rfl, ea, l, q⟩
  obtain rfl : u = Value.ref a := rx
  refine getmeth_ok I1 ea c hm l (PySem.W.callWith_K (first := [.ref a]) (h₀ := X.base) I.ok.mod.kin hm.kp (thn (ha.run pos pins s1 σ H1 _ I1 q) ?_) hst hpl)
  rintro us s2 ⟨vs, H2, I2, r, q2⟩
  exact ⟨I2.kIn, run_fnS (us := .ref a :: us) (vs := .ref a :: vs) F hr hb (hx σ) I2 (.cons rfl r) q2⟩
end
/-! ### the reading of try, of e.f -/
section
variable {K : PySem.W.Frag} {c : Value} {i : Nat} {ts : Addr → Value → Option Addr → TS} {Wout : WX} {D : Ends} {cls : Value} {d : Option Addr} {σ : St} {H : Hp}
theorem w_as (e : PySem.W.exmOne K cls c = some true) (h : ∀ a, H a = none → ts a cls d { nx := fun σ' H' => D.nx (σ'.set i none) H', rt := D.rt, bk := fun σ' H' => D.bk (σ'.set i none) H', ct := fun σ' H' => D.ct (σ'.set i none) H' } (σ.set i (some (.ref a))) H) : wAs K c i ts Wout D cls d σ H :=
  ⟨true, e, fun _ => h, fun z => nomatch z⟩
theorem w_only (e : PySem.W.exmOne K cls c = some true) (h : ∀ a, H a = none → ts a cls d D σ H) : wOnly K c ts Wout D cls d σ H := ⟨true, e, fun _ => h, fun z => nomatch z⟩
theorem r_xf {a C dd : Addr} {fs : List (Str × V)} {f : Str} {v : V} {te : TE} {Q : VK} (h : te σ H fun x H1 => x = .ref a ∧ Value.ref C = .ref C ∧ ∃ (dd' : Addr) (fs : List (Str × V)) (v : V), some dd = some dd' ∧ H1 dd' = some (.xd fs) ∧ fs.lookup f = some v ∧ Q v H1) : tXf a (.ref C) (some dd) C f te σ H Q := h
end
/-! ### o[i] by an own __getitem__, in a try -/
def tIxS (C : Addr) (sp : Sp) (E : St → XK) (ta tb : TE) : TE := fun σ H Q => ta σ H fun x H1 => tb σ H1 fun y H2 => rIxOwn C sp (E σ) x y H2 Q
theorem r_ixS {C : Addr} {sp : Sp} {E : St → XK} {ta tb : TE} {σ : St} {H : Hp} {Q : VK} (h : ta σ H fun x H1 => tb σ H1 fun y H2 => rIxOwn C sp (E σ) x y H2 Q) : tIxS C sp E ta tb σ H Q := h
section
variable {X : Cx} {CX : CXT} {n : Nat} {C f : Addr} {fd : FuncData} {ps : List Str} {sp : Sp} {E : St → XK}
theorem run_atS {A : Around} {pins : List (Addr × Obj)} {σ : St} {H : Hp} {s : Shared} {Q : VK} {us : List Value} {vs : List V} (F : FnOk X.prog X.w X.K X.mg X.base CX n f fd ps sp) (hr : Room n A) (hA : A.frames = X.A.frames) (hb : Binds X.K fd ps []) (hx : PassesAt CX X σ (E σ))
    (I : Inv X pins σ H s) (r : Vals vs us) (h : sp vs H Q (E σ)) : wpAny (model X.prog X.w) A (call (.ref f) us) (EP X pins σ Q) X.xe s := by
  have hl : us.length = ps.length := r.length.symm.trans (F.len _ _ _ _ h)
  have e := I.env0
  have hbd := hb s us I.kIn (by simpa using hl)
  rw [List.append_nil] at hbd
  refine wpAny_call (codeAny_mono (F.run A X.stack s H ⟨us, []⟩ us vs Q (E σ) hr ⟨hA.trans e.frames, e.mod, e.bs, e.bsz, e.funs, e.frf, e.hok, e.bare⟩ hbd r h) fun out s' hq => ?_)
  match out, hq with
  | .error e, hq => exact hx pins H s e s' I hq
  | .ok (.ret _), hq => exact I.after hq
theorem pe_ixOwnS {a b : Expr} {ta tb : TE} {pos : Pos} (F : FnOk X.prog X.w X.K X.mg X.base CX n f fd ps sp) (hr : Room (n + 1) X.A) (mt : Meth X.K C "__getitem__" f) (hfn : PySem.W.fnIn X.K f = true) (hbd : Binds X.K fd ps []) (hx : ∀ σ, PassesAt CX X σ (E σ)) (ha : PE X a ta) (hb : PE X b tb)
    (hs : ∀ o i, subscripted b true o i = runValue (.builtin "lifetime.subscript" ⟨[o, i], []⟩) := by intro _ _; rfl) : PE X (.Subscript a b pos) (tIxS C sp E ta tb) := by
  refine ⟨fun pins s σ H Q I h => ?_⟩
  refine PyProof.Rows.Subscript_ (thn (ha.run pins s σ H _ I h) fun v s1 ⟨x, H1, I1, r1, q1⟩ => thn (hb.run pins s1 σ H1 _ I1 q1) fun u s2 ⟨y, H2, I2, r2, q2⟩ => ?_)
  obtain ⟨o, dx, fs, rfl, ho, hsp⟩ := q2
  obtain rfl : v = Value.ref o := r1
  obtain ⟨mA, J, _⟩ := ins_get I2.hok ho
  obtain ⟨od, J, _⟩ := J.look
  obtain ⟨m, hF⟩ := I2.fr
  exact PySem.W.sub_K hF I2.ok.mod.kin J mt.at_ hfn mt.fn (run_atS F hr.in1 rfl hbd (hx σ) I2 (.cons (show RelV (.ref o) (.ref o) from rfl) (.cons r2 .nil)) hsp) (hs _ _)
end

/-! ### several except clauses, some of which keep the error under a name -/
section
open PySem.Spec PyProof.Rows
/-- an error that has come down to the clauses: raised where sI stood, B what it must leave alone -/
structure Down (X : Cx) (pins : List (Addr × Obj)) (σ : L2.St) (H : Hp) (a : Addr) (cls : Value) (d : Option Addr) (B : Heap) (sI s : Shared) : Prop where
  hs : X.stack = X.env :: X.outer
  hf : X.env.frame = some X.env.locals
  na : H a = none
  inv : Inv X pins σ H sI
  nb : ∀ b o, sI.heap.get? b = some o → b ∉ frs X.stack → B.get? b = some o
  up : sI.heap.UpToSlots s.heap
  os : s.os = sI.os
  ag : AllBare s.gens
  fly : HandSPX.FlyingZ B (X.env :: X.outer) a (Zc cls d) s.heap
variable {X : Cx} {pins : List (Addr × Obj)} {σ : L2.St} {H : Hp} {a : Addr} {cls : Value} {d : Option Addr} {B : Heap} {sI s : Shared} {D : Ends} {Wout : WX}
theorem Down.moved (z : Down X pins σ H a cls d B sI s) {h' : Heap} (fl : HandSPX.FlyingZ B (X.env :: X.outer) a (Zc cls d) h') (u : s.heap.UpToSlots h') : Down X pins σ H a cls d B sI { s with heap := h' } :=
  { z with up := z.up.trans u, fly := fl }
theorem Down.here (z : Down X pins σ H a cls d B sI s) : Inv X pins σ H s := z.inv.landed z.nb z.fly.1 z.up z.os z.ag
/-- within the suite -/
theorem Down.within (z : Down X pins σ H a cls d B sI s) : ∃ oe, s.heap.get? a = some oe ∧ Zc cls d oe ∧ (∃ vs, oe.data = .fields vs) ∧ Inv (X.suite a ((a, oe) :: (X.pn ++ pins))) [] σ H s := by
  obtain ⟨oe, vs, e, zc, dd⟩ := z.fly.there
  have nfr : a ∉ frs (X.env :: X.outer) := fun hm => by
    obtain ⟨_, o', e', k⟩ := z.fly.2.2.1.mem hm
    rw [e] at e'
    cases e'
    exact k _ dd
  have mem : ∀ {v : Env}, v ∈ X.env :: X.outer → v.frame = some a → False := fun hv h => nfr (List.mem_filterMap.mpr ⟨_, hv, h⟩)
  refine ⟨oe, e, zc, ⟨vs, dd⟩, z.here.suite e dd z.na (fun h => mem List.mem_cons_self (by rw [z.hf, h])) fun h => ?_⟩
  obtain ⟨v, hv, q⟩ := List.mem_filterMap.mp h
  exact mem (List.mem_cons_of_mem _ hv) q
/-- no clause is for it -/
theorem Down.on (z : Down X pins σ H a cls d B sI s) (tk : Takes X Wout) (w : Wout cls d σ H) : wpAny (model X.prog X.w) X.A (handleBy (.ref a) X.env []) (SP X pins D) X.xe s := by
  obtain ⟨_, _, _, oe, vs, T, _, _, e, _, dd, h1, _⟩ := id z.fly
  have fin : wpAny (model X.prog X.w) X.A (setFlight (.ref a) X.env.frame) (fun _ s1 => wpAny (model X.prog X.w) X.A (throw (.ref a) : Sem Flow) (SP X pins D) X.xe s1) X.xe s := by
    rw [z.hf]
    exact HandSPX.setFlight_upZ z.fly fun h' held u => wpAny_throw (tk _ _ ⟨a, B, sI, pins, σ, H, cls, d, rfl, z.inv, z.nb, z.up.trans u, .inr (.inr (by rw [z.hs]; exact held)), z.na, z.os, z.ag, w⟩)
  refine wpAny_handleBy_nil ?_
  unfold PySem.passOn
  refine wpAny_bind (wpAny_field e dd h1 ?_)
  rw [if_neg (show ¬ ((Value.ref T == Value.none) = true) from by simp)]
  first
    | exact wpAny_bind (wpAny_pure (wpAny_bind fin))
    | exact wpAny_bind fin
/-- a clause asks whether the error is for it -/
theorem Down.asked (z : Down X pins σ H a cls d B sI s) {x : Str} {c : Value} {np pos : Pos} {b : Bool} (hc : Names X x c) (hb : PySem.W.exmOne X.K cls c = some b) {R : Result → Shared → Prop} (q : R (.ok (if b then .brk else .next)) s) :
    codeAny (model X.prog X.w) (X.A.mark (some (.ref a))) (.handlers (.ref a) [.ExceptHandler (some (.Name x np)) none [] pos] X.env) R s := by
  obtain ⟨oe, e, zc, dd, S⟩ := z.within
  have LT : PySem.W.Looks (model X.prog X.w) s.heap (typeOf (.ref a)) cls := fun A Q E s' k h => wpAny_typeOf_ref (k _ _ e) (by rw [zc.1]; exact h)
  have LM := PySem.W.exm_one (M := model X.prog X.w) z.here.kIn LT hb
  refine codeAny_handlers_test ?_
  obtain ⟨hg, hdbg, hm | ⟨hm, hv, hnn⟩⟩ := hc
  · exact ld_glob (X := X.suite a ((a, oe) :: (X.pn ++ pins))) S hg hm (LM.here q) hdbg
  · exact ld_blt (X := X.suite a ((a, oe) :: (X.pn ++ pins))) S hg hm hv (LM.here q) hnn hdbg
abbrev Suite := Addr → Value → Option Addr → TS
/-- what the clauses wish of an error of the body, one after the other -/
def wManyA (K : PySem.W.Frag) (Wout : WX) (D : Ends) : List (Option Nat × Value × Suite) → WX
  | [] => Wout
  | (none, c, ts) :: r => wOnly K c ts (wManyA K Wout D r) D
  | (some i, c, ts) :: r => wAs K c i ts (wManyA K Wout D r) D
/-- a suite, whatever error came -/
def SuiteOk (X : Cx) (b₀ : Stmt) (suite : List Stmt) (ts : Suite) : Prop := ∀ (a : Addr) (oe : Obj) (cls : Value) (d : Option Addr) (pn : List (Addr × Obj)), Zc cls d oe → (∃ vs, oe.data = .fields vs) → PSs (X.suite a ((a, oe) :: pn)) (b₀ :: suite) (ts a cls d)
inductive HdsA (X : Cx) : List ExceptHandler → List (Option Nat × Value × Suite) → Prop
  | nil : HdsA X [] []
  | cons {x : Str} {c : Value} {ts : Suite} {b₀ : Stmt} {suite : List Stmt} {np pos : Pos} {hds : List ExceptHandler} {l : List (Option Nat × Value × Suite)} (hc : Names X x c) (su : SuiteOk X b₀ suite ts) (r : HdsA X hds l) : HdsA X (.ExceptHandler (some (.Name x np)) none (b₀ :: suite) pos :: hds) ((none, c, ts) :: l)
  | consN {x n : Str} {i : Nat} {c : Value} {ts : Suite} {b₀ : Stmt} {suite : List Stmt} {np pos : Pos} {hds : List ExceptHandler} {l : List (Option Nat × Value × Suite)} (hN : X.N.Nodup) (hi : X.N[i]? = some n) (hl : X.env.kindOf n = some .local) (hc : Names X x c) (su : SuiteOk X b₀ suite ts) (r : HdsA X hds l) :
      HdsA X (.ExceptHandler (some (.Name x np)) (some n) (b₀ :: suite) pos :: hds) ((some i, c, ts) :: l)
theorem Down.clauses (z : Down X pins σ H a cls d B sI s) (tk : Takes X Wout) {hds : List ExceptHandler} {l : List (Option Nat × Value × Suite)} (k : HdsA X hds l) (w : wManyA X.K Wout D l cls d σ H) :
    wpAny (model X.prog X.w) X.A (handleBy (.ref a) X.env hds) (SP X pins D) X.xe s := by
  have ok := z.inv.ok
  induction k with
  | nil => exact z.on tk w
  | cons hc su r ih =>
    obtain ⟨b, hb, yes, no⟩ := w
    refine wpAny_handleBy_cons (z.asked hc hb ?_) (by intro q; cases q)
    cases b with
    | false => exact ih (no rfl)
    | true =>
      refine codeAny_handlers_suite (HandSPX.lands_againZ z.fly fun h' fl u => ?_)
      obtain ⟨oe, _, zc, dd, S⟩ := (z.moved fl u).within
      refine wpAny_mono ((su a oe cls d (X.pn ++ pins) zc dd).run [] _ σ H _ S (yes rfl a z.na)) (fun f s1 q => ?_) (fun _ _ f => False.elim f)
      cases f with
      | next => obtain ⟨_, _, J, q⟩ := q; exact ⟨_, _, J.unsuite ok, q⟩
      | brk => obtain ⟨_, _, J, q⟩ := q; exact ⟨_, _, J.unsuite ok, q⟩
      | cont => obtain ⟨_, _, J, q⟩ := q; exact ⟨_, _, J.unsuite ok, q⟩
      | ret u => obtain ⟨_, _, _, J, r, q⟩ := q; exact ⟨_, _, _, J.unsuite ok, r, q⟩
  | @consN x n i c ts b₀ suite np pos hds2 l2 hN hi hl hc su r ih =>
    obtain ⟨b, hb, yes, no⟩ := w
    refine wpAny_handleBy_cons (z.asked hc hb ?_) (by intro q; cases q)
    cases b with
    | false => exact ih (no rfl)
    | true =>
      refine codeAny_handlers_suite_as (HandSPX.lands_againZ z.fly fun h' fl u => ?_)
      obtain ⟨oe, _, zc, dd, S⟩ := (z.moved fl u).within
      refine store_ok (X := X.suite a ((a, oe) :: (X.pn ++ pins))) (v := .ref a) S hN hi (.inl hl) rfl (fun s1 S1 => ?_) (.inr hl)
      refine wpAny_mono ((su a oe cls d (X.pn ++ pins) zc dd).run [] s1 _ H _ S1 (yes rfl a z.na)) (fun f s2 q => ?_) (fun _ _ f => False.elim f)
      have gone : ∀ {σ2 : L2.St} {H2 : Hp} {Q : Shared → Prop}, Inv (X.suite a ((a, oe) :: (X.pn ++ pins))) [] σ2 H2 s2 → (∀ s3, Inv X pins (σ2.set i none) H2 s3 → Q s3) → wpAny (model X.prog X.w) X.A (do bindName X.env n .none; unbindBehindTheSuite X.env n pos) (fun _ s3 => Q s3) X.xe s2 :=
        fun J hq => gone_ok (J.unsuite ok) hN hi hl hq
      cases f with
      | next => obtain ⟨_, _, J, q⟩ := q; exact gone J fun _ J' => ⟨_, _, J', q⟩
      | brk => obtain ⟨_, _, J, q⟩ := q; exact gone J fun _ J' => ⟨_, _, J', q⟩
      | cont => obtain ⟨_, _, J, q⟩ := q; exact gone J fun _ J' => ⟨_, _, J', q⟩
      | ret u => obtain ⟨_, _, _, J, r, q⟩ := q; exact gone J fun _ J' => ⟨_, _, _, J', r, q⟩
variable {body : List Stmt} {h₀ : ExceptHandler} {hds : List ExceptHandler} {l : List (Option Nat × Value × Suite)} {pos : Pos} {tb : WX → TS}
theorem ps_try_manyA (hs : X.stack = X.env :: X.outer) (hf : X.env.frame = some X.env.locals) (tk : Takes X Wout)
    (hb : ∀ (W : WX) (pn : List (Addr × Obj)) (xe : Value → Shared → Prop), Takes (X.tr pn xe) W → PassesOwn (model X.prog X.w) X.A X.env xe → PSs (X.tr pn xe) body (tb W)) (hh : HdsA X (h₀ :: hds) l) :
    PS X (.Try body (h₀ :: hds) [] [] pos) (fun D σ H => tb (wManyA X.K Wout D l) D σ H) := by
  refine ⟨fun pins s σ H D I h => ?_⟩
  have ok := I.ok
  refine wpAny_Try_except (wpAny_mono ((hb (wManyA X.K Wout D l) (X.pn ++ pins) _ (fun u s1 x => ?_) PassesOwn.looking).run [] s σ H D (I.toTry _) h) (fun f s1 q => ?_) (fun e s1 x => x))
  · obtain ⟨a, B, sI, pins1, σ1, H1, cls, d, rfl, J, nb, up, sky, na, os, ag, w⟩ := x
    have sky1 : Sky B (X.env :: X.outer) a (Zc cls d) X.env.locals s1.heap := by rw [← hs]; exact sky
    exact Sky.land Zc.steady (by rw [ok.frames, hs]) hf sky1 fun h3 fl up3 => Down.clauses (s := { s1 with heap := h3 }) ⟨hs, hf, na, J.ofTry ok, nb, up.trans up3, os, ag, fl⟩ tk hh w
  · cases f with
    | next => obtain ⟨_, _, J, q⟩ := q; exact wpAny_execs_nil ⟨_, _, J.ofTry ok, q⟩
    | brk => obtain ⟨_, _, J, q⟩ := q; exact ⟨_, _, J.ofTry ok, q⟩
    | cont => obtain ⟨_, _, J, q⟩ := q; exact ⟨_, _, J.ofTry ok, q⟩
    | ret u => obtain ⟨_, _, _, J, r, q⟩ := q; exact ⟨_, _, _, J.ofTry ok, r, q⟩
end

/-! ### data in which empty dicts stand: repr -/
mutual
inductive DpE (K : PySem.W.Frag) (H : Hp) : V → PyData → Prop
  | base {v : V} {d : PyData} (h : Dp K H v d) : DpE K H v d
  | emp {a : Addr} (e : H a = some (.dK [])) : DpE K H (.ref a) (.dict [])
  | lst {a : Addr} {xs : List V} {ds : List PyData} (q : SqL K H a xs) (z : DpEs K H xs ds) : DpE K H (.ref a) (.list ds)
  | tup {a : Addr} {xs : List V} {ds : List PyData} (q : SqT K H a xs) (z : DpEs K H xs ds) : DpE K H (.ref a) (.tuple ds)
inductive DpEs (K : PySem.W.Frag) (H : Hp) : List V → List PyData → Prop
  | nil : DpEs K H [] []
  | cons {v : V} {vs : List V} {d : PyData} {ds : List PyData} (h : DpE K H v d) (r : DpEs K H vs ds) : DpEs K H (v :: vs) (d :: ds)
end
mutual
theorem Dp.nd {K : PySem.W.Frag} {H : Hp} : ∀ (d : PyData) (v : V), Dp K H v d → d.hasDict = false
  | .none, _, _ => rfl
  | .bool _, _, _ => rfl
  | .int _, _, _ => rfl
  | .str _, _, _ => rfl
  | .list ds, _, h => by
    rw [PyData.hasDict]
    cases h with
    | lst _ z => exact Dps.nd ds _ z
  | .tuple ds, _, h => by
    rw [PyData.hasDict]
    cases h with
    | tup _ z => exact Dps.nd ds _ z
  | .dict _, _, h => by cases h
theorem Dps.nd {K : PySem.W.Frag} {H : Hp} : ∀ (ds : List PyData) (vs : List V), DpAll K H vs ds → PyData.hasDictAll ds = false
  | [], _, _ => rfl
  | d :: ds, _, h => by
    cases h with
    | cons h z => rw [PyData.hasDictAll, Dp.nd d _ h, Dps.nd ds _ z]; rfl
end
section
open PySem PyProof.Rows
variable {P : Program} {w : World} {h : Heap}
/-- u reads as d, and is shown so -/
def Rp (P : Program) (w : World) (h : Heap) (u : Value) (d : PyData) : Prop := (∃ as, Reads h u d as) ∧ ∃ bs, ReadAtMost h d.depth bs ∧ ReprK P w bs h d.depth u d.shown
def Rps (P : Program) (w : World) (h : Heap) (us : List Value) (ds : List PyData) : Prop := (∃ as, ReadsAll h us ds as) ∧ ∃ bs, ReadAtMost h (PyData.depthAll ds) bs ∧ ReprAllK P w bs h (PyData.depthAll ds) us (PyData.shownAll ds)
theorem Rps.nil : Rps P w h [] [] := ⟨⟨_, .nil⟩, [], fun _ z => (nomatch z), by rw [PyData.shownAll]; exact .nil⟩
theorem Rps.cons {u : Value} {us : List Value} {d : PyData} {ds : List PyData} (x : Rp P w h u d) (y : Rps P w h us ds) : Rps P w h (u :: us) (d :: ds) := by
  obtain ⟨⟨as, r1⟩, b1, m1, k1⟩ := x
  obtain ⟨⟨bs, r2⟩, b2, m2, k2⟩ := y
  have l1 : d.depth ≤ PyData.depthAll (d :: ds) := by rw [PyData.depthAll]; exact Nat.le_max_left _ _
  have l2 : PyData.depthAll ds ≤ PyData.depthAll (d :: ds) := by rw [PyData.depthAll]; exact Nat.le_max_right _ _
  refine ⟨⟨_, .cons r1 r2⟩, b1 ++ b2, (m1.mono l1).append (m2.mono l2), ?_⟩
  rw [PyData.shownAll]
  exact .cons ((k1.more fun b z => List.mem_append.mpr (.inl z)).level_le l1) (k2.more_le (fun b z => List.mem_append.mpr (.inr z)) l2)
/-- what a list's or a tuple's items must be, and what is known then -/
theorem Rps.seq {a : Addr} {us : List Value} {ds : List PyData} {d : PyData} {as : List Addr} (y : Rps P w h us ds) (e : d.depth = PyData.depthAll ds + 1) (r : Reads h (.ref a) d as) : ∃ bs, a ∉ bs ∧ ReadAtMost h d.depth (a :: bs) ∧ ReprAllK P w bs h (PyData.depthAll ds) us (PyData.shownAll ds) := by
  obtain ⟨_, bs, m, k⟩ := y
  exact ⟨bs, not_mem_of_deeper r (by omega) m, ReadAtMost.cons r (by omega) m, k⟩
theorem dep_list (ds : List PyData) : (PyData.list ds).depth = PyData.depthAll ds + 1 := by rw [PyData.depth] <;> omega
theorem dep_tuple (ds : List PyData) : (PyData.tuple ds).depth = PyData.depthAll ds + 1 := by rw [PyData.depth] <;> omega
theorem Rp.list {a : Addr} {o : Obj} {vs : Array Value} {n : Nat} {ds : List PyData} (h1 : h.get? a = some o) (h2 : o.cls = .type "list") (h3 : o.data = .seq vs n) (y : Rps P w h vs.toList ds) : Rp P w h (.ref a) (.list ds) := by
  obtain ⟨as, ra⟩ := id y.1
  have r : Reads h (.ref a) (.list ds) _ := .list h1 h2 h3 ra
  obtain ⟨bs, na, m, k⟩ := y.seq (dep_list ds) r
  refine ⟨⟨_, r⟩, _, m, ?_⟩
  rw [dep_list, PyData.shown]
  obtain ⟨l⟩ := vs
  rcases l with _ | ⟨x, l⟩
  · cases (show ReadsAll h [] ds _ from ra)
    rw [PyData.shownAll, listText_nil]
    exact .listEmpty h1 h2 h3
  · exact .list h1 h2 h3 na (by simpa using k.length_eq) fun i y e => k.item i y (by simpa using e)
theorem Rp.tuple {a : Addr} {o : Obj} {vs : Array Value} {n : Nat} {ds : List PyData} (h1 : h.get? a = some o) (h2 : o.cls = .type "tuple") (h3 : o.data = .seq vs n) (y : Rps P w h vs.toList ds) : Rp P w h (.ref a) (.tuple ds) := by
  obtain ⟨as, ra⟩ := id y.1
  have r : Reads h (.ref a) (.tuple ds) _ := .tuple h1 h2 h3 ra
  obtain ⟨bs, na, m, k⟩ := y.seq (dep_tuple ds) r
  refine ⟨⟨_, r⟩, _, m, ?_⟩
  rw [dep_tuple, PyData.shown]
  exact .tuple h1 h2 h3 na k
/-- an empty dict in the heap -/
theorem emp_raw {H : Hp} {a : Addr} (ok : HOk P w H h) (e : H a = some (.dK [])) : (a == sysModules) = false ∧ ∃ o n, h.get? a = some o ∧ o.cls = .type "dict" ∧ o.data = .dict #[] n := by
  obtain ⟨_, ns, vs, kv, o, es, ep, h1, h2, h3, _, h5, _⟩ := dk_of ok e
  have : vs = [] := by cases kv; rfl
  subst this
  have : es.toList = [] := by cases h : es.toList with
    | nil => rfl
    | cons x r => rw [h] at h5; cases h5
  have : es = #[] := by rw [← Array.toArray_toList (xs := es), this]
  subst this
  exact ⟨ns, o, ep, h1, h2.1, h3⟩
theorem Rp.emp {H : Hp} {a : Addr} (ok : HOk P w H h) (e : H a = some (.dK [])) : Rp P w h (.ref a) (.dict []) := by
  obtain ⟨ns, o, n, h1, h2, h3⟩ := emp_raw ok e
  have r : Reads h (.ref a) (.dict []) _ := .dict h1 h2 h3 .nil .nil
  refine ⟨⟨_, r⟩, [a], fun b z => ?_, ?_⟩
  · obtain rfl : b = a := by simpa using z
    exact ⟨_, _, r, Nat.le_refl _⟩
  · have e1 : (PyData.dict []).depth = 0 + 1 := by rw [PyData.depth, PyData.depthKv] <;> rfl
    rw [e1, PyData.shown, PyData.shownKv_eq]
    exact .dict h1 h2 h3 ns (by simp) .nil
end
section
open PySem PyProof.Rows
variable {X : Cx} {pins : List (Addr × Obj)} {σ : L2.St} {H : Hp} {s : Shared}
mutual
theorem DpE.rp (I : Inv X pins σ H s) : ∀ {v : V} {d : PyData}, DpE X.K H v d → ∀ u, RelV v u → d.showable = true → d.shown.length ≤ sizeLine → Rp X.prog X.w s.heap u d
  | _, _, .base h, u, r, sw, sz => by
    have n := Dp.nd _ _ h
    obtain ⟨as, q⟩ := Dp.reads I _ _ u h r
    exact ⟨⟨as, q⟩, ReprK.of_reads q sw (fun z => by rw [n] at z; cases z) sz⟩
  | _, _, .emp e, u, r, sw, sz => by
    cases r
    exact .emp I.hok e
  | _, _, .lst (ds := ds) q z, u, r, sw, sz => by
    cases r
    obtain ⟨its, rv, ⟨o, n, ho, hc, _, hd⟩, _⟩ := I.list q
    rw [PyData.shown] at sz
    exact .list ho hc hd (DpEs.rps I z its rv (by rw [PyData.showable] at sw; exact sw) fun t m => Nat.le_trans (listText_mem_le m) sz)
  | _, _, .tup (ds := ds) q z, u, r, sw, sz => by
    cases r
    obtain ⟨its, rv, ⟨o, ho, hc, n, hd⟩, _⟩ := I.tuple q
    rw [PyData.shown] at sz
    exact .tuple ho hc hd (DpEs.rps I z its rv (by rw [PyData.showable] at sw; exact sw) fun t m => Nat.le_trans (tupleText_mem_le m) sz)
theorem DpEs.rps (I : Inv X pins σ H s) : ∀ {vs : List V} {ds : List PyData}, DpEs X.K H vs ds → ∀ us, Vals vs us → PyData.showableAll ds = true → (∀ t ∈ PyData.shownAll ds, t.length ≤ sizeLine) → Rps X.prog X.w s.heap us ds
  | _, _, .nil, us, r, _, _ => by cases r; exact .nil
  | _, _, .cons h k, us, r, sw, sz => by
    cases r with
    | cons r1 r2 =>
      rw [PyData.showableAll, Bool.and_eq_true] at sw
      rw [PyData.shownAll] at sz
      exact .cons (DpE.rp I h _ r1 sw.1 (sz _ List.mem_cons_self)) (DpEs.rps I k _ r2 sw.2 fun t m => sz t (List.mem_cons_of_mem _ m))
end
def rReprE (K : PySem.W.Frag) : List V → Hp → VK → Prop := fun xs H Q => ∃ (x : V) (d : PyData), xs = [x] ∧ DpE K H x d ∧ d.showable = true ∧ d.shown.length ≤ sizeLine ∧ d.depth ≤ 60 ∧ Q (.str d.shown) H
theorem cr_reprE {X : Cx} (gd : X.A.guards = some []) (hu : X.A.units + 70 < cLine) : CallR X (.builtin "repr") (rReprE X.K) := by
  intro pins s σ H xs us Q I r h
  obtain ⟨x, d, rfl, hd, sw, sz, dp, q⟩ := h
  cases hd with
  | base hD =>
    have n := Dp.nd _ _ hD
    obtain ⟨u, rfl, rx⟩ := vals1 r
    obtain ⟨as, hr⟩ := Dp.reads I d x u hD rx
    have ref : ∀ a, u = .ref a → wpAny (model X.prog X.w) X.A (call (.builtin "repr") [u]) (EP X pins σ Q) X.xe s := by
      rintro a rfl
      exact repr_of_reads' hr sw (fun z => by rw [n] at z; cases z) gd (by omega) (fun _ _ e => e) (fun h' v tk hk => ⟨.str _, H, I.kept hk, ⟨_, rfl⟩, q⟩) sz
    cases hD with
    | non => cases rx; exact PySem.P.repr_of_none ⟨.str _, H, I.tok _, ⟨_, by simp only [PyData.shown]; rfl⟩, q⟩
    | bl b => cases rx; exact PySem.P.repr_of_bool ⟨.str _, H, I.tok _, ⟨_, by simp only [PyData.shown]; rfl⟩, q⟩
    | int i => obtain ⟨t, rfl⟩ := rx; exact PySem.P.repr_of_int (by simpa [PyData.showable] using sw) ⟨.str _, H, I.tok _, ⟨_, by simp only [PyData.shown]; rfl⟩, q⟩
    | str z => obtain ⟨t, rfl⟩ := rx; exact PySem.P.repr_of_str ⟨.str _, H, I.tok _, ⟨_, by simp only [PyData.shown]; rfl⟩, q⟩ (by simpa only [PyData.shown] using sz)
    | lst e a => exact ref _ rx
    | tup e a => exact ref _ rx
  | emp e =>
    obtain ⟨u, rfl, rx⟩ := vals1 r
    cases rx
    obtain ⟨ns, o, n, h1, h2, h3⟩ := emp_raw I.hok e
    rw [PyData.shown, PyData.shownKv_eq] at q
    exact call_repr_slot (by omega) ⟨o, h1, h2⟩ F.slot_dict_repr (call_dict_reprK (as := []) h1 h2 h3 ns (by simp) .nil gd (fun b _ => Clear.nil b) (d := 0) (by show X.A.units + 1 + 1 < cLine; omega) (fun _ _ z => z) (fun h' v tk hk => ⟨_, _, rfl, .str _, H, I.kept hk, ⟨_, rfl⟩, q⟩) (by decide))
  | @lst a ys ds e z =>
    obtain ⟨u, rfl, rx⟩ := vals1 r
    cases rx
    obtain ⟨its, rv, ⟨o, n, ho, hc, _, hd⟩, _⟩ := I.list e
    rw [PyData.shown] at sz q
    rw [dep_list] at dp
    have y := DpEs.rps I z its rv (by rw [PyData.showable] at sw; exact sw) fun t m => Nat.le_trans (listText_mem_le m) sz
    obtain ⟨as, ra⟩ := id y.1
    obtain ⟨bs, na, _, k⟩ := y.seq (dep_list ds) (.list ho hc hd ra)
    refine call_repr_slot (by omega) ⟨o, ho, hc⟩ F.slot_list_repr.toG ?_
    generalize ee : its.toArray = arr at hd
    rcases its with _ | ⟨x, l⟩
    · cases (show ReadsAll s.heap [] ds _ from ra)
      rw [PyData.shownAll, listText_nil] at q
      subst ee
      exact call_list_repr_empty ⟨o, ho, hc⟩ ho hd ⟨_, _, rfl, .str _, H, I.tok _, ⟨_, rfl⟩, q⟩
    · subst ee
      exact call_list_reprK ho hc hd na (by simpa using k.length_eq) (fun i y e => k.item i y (by simpa using e)) gd (fun b _ => Clear.nil b) (by show X.A.units + 1 + _ < cLine; omega) (fun _ _ z => z) (fun h' v tk hk => ⟨_, _, rfl, .str _, H, I.kept hk, ⟨_, rfl⟩, q⟩) sz
  | @tup a ys ds e z =>
    obtain ⟨u, rfl, rx⟩ := vals1 r
    cases rx
    obtain ⟨its, rv, ⟨o, ho, hc, n, hd⟩, _⟩ := I.tuple e
    rw [PyData.shown] at sz q
    rw [dep_tuple] at dp
    have y := DpEs.rps I z its rv (by rw [PyData.showable] at sw; exact sw) fun t m => Nat.le_trans (tupleText_mem_le m) sz
    obtain ⟨as, ra⟩ := id y.1
    obtain ⟨bs, na, _, k⟩ := y.seq (dep_tuple ds) (.tuple ho hc hd ra)
    exact call_repr_slot (by omega) ⟨o, ho, hc⟩ F.slot_tuple_repr (call_tuple_reprK ho hc hd na k gd (fun b _ => Clear.nil b) (by show X.A.units + 1 + _ < cLine; omega) (fun _ _ z => z) (fun h' v tk hk => ⟨_, _, rfl, .str _, H, I.kept hk, ⟨_, rfl⟩, q⟩) sz)
theorem reprE {X : Cx} {K : PySem.W.Frag} (gd : X.A.guards = some []) (hu : X.A.units + 70 < cLine) (h : X.K = K := by rfl) : CallR X (.builtin "repr") (rReprE K) := h ▸ cr_reprE gd hu
end
/-! what is known of values among which empty dicts are -/
mutual
inductive Ev (L : List R) : V → PyData → Prop
  | has {b : Bool} {v : V} {d : PyData} (h : Has b L v d) : Ev L v d
  | emp {a : Addr} (e : R.cell a (.dK []) ∈ L) : Ev L (.ref a) (.dict [])
  | lst {a : Addr} {xs : List V} {ds : List PyData} (e : R.cell a (.lst xs) ∈ L) (z : Evs L xs ds) : Ev L (.ref a) (.list ds)
  | tup {a : Addr} {xs : List V} {ds : List PyData} (e : R.tup a xs ∈ L) (z : Evs L xs ds) : Ev L (.ref a) (.tuple ds)
inductive Evs (L : List R) : List V → List PyData → Prop
  | nil : Evs L [] []
  | cons {v : V} {vs : List V} {d : PyData} {ds : List PyData} (h : Ev L v d) (z : Evs L vs ds) : Evs L (v :: vs) (d :: ds)
  | has {b : Bool} {vs : List V} {ds : List PyData} (h : HasAll b L vs ds) : Evs L vs ds
  | app {vs us : List V} {ds es : List PyData} (x : Evs L vs ds) (y : Evs L us es) : Evs L (vs ++ us) (ds ++ es)
end
theorem DpEs.app {K : PySem.W.Frag} {H : Hp} : ∀ {vs : List V} {ds : List PyData} {us : List V} {es : List PyData}, DpEs K H vs ds → DpEs K H us es → DpEs K H (vs ++ us) (ds ++ es)
  | _, _, _, _, .nil, y => y
  | _, _, _, _, .cons h z, y => .cons h (z.app y)
theorem DpEs.of {K : PySem.W.Frag} {H : Hp} : ∀ {vs : List V} {ds : List PyData}, DpAll K H vs ds → DpEs K H vs ds
  | _, _, .nil => .nil
  | _, _, .cons h z => .cons (.base h) (.of z)
section
variable {C : Addr} {K : PySem.W.Frag} {Tb : List (Addr × Str)} {H : Hp} {L L' : List R} {Q : VK}
mutual
theorem Sep.ev (S : Sep C K Tb H L) : ∀ {v : V} {d : PyData}, Ev L v d → DpE K H v d
  | _, _, .has h => .base (S.dp h)
  | _, _, .emp e => .emp (S.get e)
  | _, _, .lst e z => .lst (SqL.of (S.get e)) (S.evs z)
  | _, _, .tup e z => .tup (SqT.of (S.getT e)) (S.evs z)
theorem Sep.evs (S : Sep C K Tb H L) : ∀ {vs : List V} {ds : List PyData}, Evs L vs ds → DpEs K H vs ds
  | _, _, .nil => .nil
  | _, _, .cons h z => .cons (S.ev h) (S.evs z)
  | _, _, .has h => .of (S.dps h)
  | _, _, .app x y => (S.evs x).app (S.evs y)
end
mutual
theorem Has.up {b : Bool} (s : ∀ r ∈ L, r ∈ L') : ∀ {v : V} {d : PyData}, Has b L v d → Has b L' v d
  | _, _, .non => .non
  | _, _, .bl b => .bl b
  | _, _, .int i => .int i
  | _, _, .str x => .str x
  | _, _, .dat m => .dat (s _ m)
  | _, _, .item m x y => .item (s _ m) x y
  | _, _, .tup m z => .tup (s _ m) (HasAll.up s z)
  | _, _, .lst f m z => .lst f (s _ m) (HasAll.up s z)
  | _, _, .ro f m z => .ro f (s _ m) (HasAll.up s z)
theorem HasAll.up {b : Bool} (s : ∀ r ∈ L, r ∈ L') : ∀ {vs : List V} {ds : List PyData}, HasAll b L vs ds → HasAll b L' vs ds
  | _, _, .nil => .nil
  | _, _, .cons h z => .cons (Has.up s h) (HasAll.up s z)
  | _, _, .dats m => .dats (s _ m)
  | _, _, .ints ns => .ints ns
  | _, _, .app x y => .app (HasAll.up s x) (HasAll.up s y)
end
mutual
theorem Ev.up (s : ∀ r ∈ L, r ∈ L') : ∀ {v : V} {d : PyData}, Ev L v d → Ev L' v d
  | _, _, .has h => .has (Has.up s h)
  | _, _, .emp e => .emp (s _ e)
  | _, _, .lst e z => .lst (s _ e) (Evs.up s z)
  | _, _, .tup e z => .tup (s _ e) (Evs.up s z)
theorem Evs.up (s : ∀ r ∈ L, r ∈ L') : ∀ {vs : List V} {ds : List PyData}, Evs L vs ds → Evs L' vs ds
  | _, _, .nil => .nil
  | _, _, .cons h z => .cons (Ev.up s h) (Evs.up s z)
  | _, _, .has h => .has (HasAll.up s h)
  | _, _, .app x y => .app (Evs.up s x) (Evs.up s y)
end
/-- data that repr can show -/
structure ShE (w : Nat) (d : PyData) : Prop where
  sw : d.showable = true
  lf : d.leavesShort 40 = true
  wt : d.weight ≤ w
  dp : d.depth ≤ 20
theorem ShE.mono {w v : Nat} {d : PyData} (h : ShE w d) (l : w ≤ v) : ShE v d := ⟨h.sw, h.lf, Nat.le_trans h.wt l, h.dp⟩
theorem ShE.len {w : Nat} {d : PyData} (h : ShE w d) (l : w ≤ 100000) : d.shown.length ≤ sizeLine := by
  have h1 := PyData.shown_le 40 (by decide) d h.lf
  have h2 := h.wt
  have h3 : 42 * d.weight + 40 ≤ 16777216 := by omega
  exact Nat.le_trans h1 (Nat.le_trans h3 (by decide))
theorem s_reprE {x : V} {d : PyData} {w : Nat} (S : Sep C K Tb H L) (h : Ev L x d) (sh : ShE w d) (hw : w ≤ 100000) (k : Q (.str d.shown) H) : rReprE K [x] H Q := ⟨x, d, rfl, S.ev h, sh.sw, sh.len hw, by have := sh.dp; omega, k⟩
end
theorem she_all {w N : Nat} : ∀ {ds : List PyData}, (∀ d ∈ ds, ShE w d ∧ d.depth ≤ N) → PyData.showableAll ds = true ∧ PyData.leavesShortAll 40 ds = true ∧ PyData.weightAll ds ≤ ds.length * (w + 1) ∧ PyData.depthAll ds ≤ N
  | [], _ => ⟨rfl, rfl, by simp [PyData.weightAll], by simp [PyData.depthAll]⟩
  | a :: r, h => by
    obtain ⟨ha, hd⟩ := h a List.mem_cons_self
    obtain ⟨h1, h2, h3, h4⟩ := she_all (ds := r) fun d hd => h d (List.mem_cons_of_mem _ hd)
    refine ⟨by simp [PyData.showableAll, ha.sw, h1], by simp [PyData.leavesShortAll, ha.lf, h2], ?_, ?_⟩
    · have := ha.wt
      simp only [PyData.weightAll, List.length_cons, Nat.succ_mul]
      omega
    · simp only [PyData.depthAll]; omega
theorem she_list {w n : Nat} {ds : List PyData} (h : ∀ d ∈ ds, ShE w d ∧ d.depth ≤ 15) (hn : ds.length ≤ n) : ShE (n * (w + 1)) (.list ds) := by
  obtain ⟨h1, h2, h3, h4⟩ := she_all h
  refine ⟨by rw [PyData.showable]; exact h1, by rw [PyData.leavesShort]; exact h2, ?_, by rw [dep_list]; omega⟩
  simp only [PyData.weight]
  exact Nat.le_trans h3 (Nat.mul_le_mul_right _ hn)
theorem she_tup {w n : Nat} {ds : List PyData} (h : ∀ d ∈ ds, ShE w d ∧ d.depth ≤ 15) (hn : ds.length ≤ n) : ShE (n * (w + 1)) (.tuple ds) := by
  obtain ⟨h1, h2, h3, h4⟩ := she_all h
  refine ⟨by rw [PyData.showable]; exact h1, by rw [PyData.leavesShort]; exact h2, ?_, by rw [dep_tuple]; omega⟩
  simp only [PyData.weight]
  exact Nat.le_trans h3 (Nat.mul_le_mul_right _ hn)
theorem she_int {i : Int} (h1 : -1000000000000 < i) (h2 : i < 1000000000000) : ShE 50 (.int i) := by
  have h := sh_int h1 h2
  refine ⟨h.sw, ?_, h.wt, by simp [PyData.depth]⟩
  have := h.lf
  simp only [PyData.leavesShort, decide_eq_true_eq] at this ⊢
  omega

/-! ### values of any kind: what is asked of them answers false, and they can be shown -/
def OvAt (f : V → Option (List V) → Bool) (L : List R) (x : V) (b : Bool) : Prop := ∃ r, Odd L x r ∧ (∀ ys, r = some ys → ys.length ≤ 1000) ∧ f x r = b
theorem OvAt.up {f : V → Option (List V) → Bool} {L L' : List R} {x : V} {b : Bool} (h : OvAt f L x b) (s : ∀ r ∈ L, r ∈ L') : OvAt f L' x b := let ⟨r, o, l, e⟩ := h; ⟨r, o.mono s, l, e⟩
def OvItem (f : V → Option (List V) → Bool) (L : List R) (x : V) : Prop := OvAt f L x false ∧ ∃ d, Ev L x d ∧ ShE 310 d ∧ d.depth ≤ 13
def OvItem2 (f : V → Option (List V) → Bool) (L : List R) (x : V) : Prop := OvAt f L x false ∧ ∃ d, Ev L x d ∧ ShE 700 d ∧ d.depth ≤ 15
theorem OvItem.two {f : V → Option (List V) → Bool} {L : List R} {x : V} (h : OvItem f L x) : OvItem2 f L x := ⟨h.1, h.2.imp fun _ y => ⟨y.1, y.2.1.mono (by decide), by have := y.2.2; omega⟩⟩
theorem OvItem2.up {f : V → Option (List V) → Bool} {L L' : List R} {x : V} (h : OvItem2 f L x) (s : ∀ r ∈ L, r ∈ L') : OvItem2 f L' x := ⟨h.1.up s, h.2.imp fun _ y => ⟨y.1.up s, y.2⟩⟩
theorem depthAll_at {n : Nat} : ∀ {ds : List PyData}, (∀ d ∈ ds, d.depth ≤ n) → PyData.depthAll ds ≤ n
  | [], _ => by simp [PyData.depthAll]
  | a :: r, h => by
    have h1 := depthAll_at (ds := r) fun d hd => h d (List.mem_cons_of_mem _ hd)
    have h2 := h a List.mem_cons_self
    simp only [PyData.depthAll]; omega
def isAtom : V → Bool
  | .non | .bl _ | .int _ | .str _ => true
  | _ => false
def atomD : V → PyData
  | .bl b => .bool b
  | .int i => .int i
  | .str x => .str x
  | _ => .none
theorem atom_kd {L : List R} {v : V} (h : isAtom v = true) : ∃ n, Kd L v n ∧ n ≠ "tuple" := by
  cases v with
  | non => exact ⟨_, .non, by decide⟩
  | bl b => exact ⟨_, .bl b, by decide⟩
  | int i => exact ⟨_, .int i, by decide⟩
  | str x => exact ⟨_, .str x, by decide⟩
  | _ => cases h
theorem atom_ev {L : List R} {v : V} (h : isAtom v = true) : Ev L v (atomD v) := by
  cases v with
  | non => exact .has (b := true) .non
  | bl b => exact .has (b := true) (.bl b)
  | int i => exact .has (b := true) (.int i)
  | str x => exact .has (b := true) (.str x)
  | _ => cases h
theorem atom_evs {L : List R} : ∀ {vs : List V}, vs.all isAtom = true → Evs L vs (vs.map atomD)
  | [], _ => .nil
  | v :: vs, h => by
    rw [List.all_cons, Bool.and_eq_true] at h
    exact .cons (atom_ev h.1) (atom_evs h.2)
theorem atom_dep (v : V) : (atomD v).depth ≤ 1 := by cases v <;> simp [atomD, PyData.depth]
theorem she_at {i : Int} (h1 : -1000000000000 < i) (h2 : i < 1000000000000) : ShE 100 (atomD (.int i)) := (she_int h1 h2).mono (by decide)
theorem ov_atom {f : V → Option (List V) → Bool} {L : List R} {v : V} (h : isAtom v = true) (c : f v none = false) (s : ShE 100 (atomD v)) : OvItem f L v := by
  obtain ⟨k, kd, ne⟩ := atom_kd (L := L) h
  exact ⟨⟨none, .no kd ne, fun _ z => (by cases z), c⟩, _, atom_ev h, s.mono (by decide), Nat.le_trans (atom_dep v) (by decide)⟩
theorem ov_dict {f : V → Option (List V) → Bool} {L : List R} {a : Addr} (h : R.cell a (.dK []) ∈ L) (c : f (.ref a) none = false) : OvItem f L (.ref a) :=
  ⟨⟨none, .no (.dK h) (by decide), fun _ z => (by cases z), c⟩, _, .emp h, ⟨by decide +kernel, by decide +kernel, by decide +kernel, by decide +kernel⟩, by decide +kernel⟩
theorem ov_lst {f : V → Option (List V) → Bool} {L : List R} {a : Addr} {xs : List V} (h : R.cell a (.lst xs) ∈ L) (ha : xs.all isAtom = true) (hl : xs.length ≤ 3) (c : f (.ref a) none = false) (s : ∀ x ∈ xs, ShE 100 (atomD x)) : OvItem f L (.ref a) := by
  refine ⟨⟨none, .no (.lst h) (by decide), fun _ z => (by cases z), c⟩, _, .lst h (atom_evs ha), (she_list (w := 100) (n := 3) (fun d hd => ?_) (by simpa using hl)).mono (by decide), ?_⟩
  · obtain ⟨x, hx, rfl⟩ := List.mem_map.mp hd
    exact ⟨s x hx, Nat.le_trans (atom_dep x) (by decide)⟩
  · rw [dep_list]
    have := depthAll_at (n := 1) (ds := xs.map atomD) fun d hd => by
      obtain ⟨x, _, rfl⟩ := List.mem_map.mp hd
      exact atom_dep x
    omega
theorem ov_tup {f : V → Option (List V) → Bool} {L : List R} {t : Addr} {xs : List V} (h : R.tup t xs ∈ L) (ha : xs.all isAtom = true) (hl : xs.length ≤ 3) (c : f (.ref t) (some xs) = false) (s : ∀ x ∈ xs, ShE 100 (atomD x)) : OvItem f L (.ref t) := by
  refine ⟨⟨some xs, .tup h fun x hx => ?_, fun _ z => (by cases z; omega), c⟩, _, .tup h (atom_evs ha), (she_tup (w := 100) (n := 3) (fun d hd => ?_) (by simpa using hl)).mono (by decide), ?_⟩
  · obtain ⟨k, kd, _⟩ := atom_kd (L := L) (List.all_eq_true.mp ha x hx)
    exact ⟨k, kd⟩
  · obtain ⟨x, hx, rfl⟩ := List.mem_map.mp hd
    exact ⟨s x hx, Nat.le_trans (atom_dep x) (by decide)⟩
  · rw [dep_tuple]
    have := depthAll_at (n := 1) (ds := xs.map atomD) fun d hd => by
      obtain ⟨x, _, rfl⟩ := List.mem_map.mp hd
      exact atom_dep x
    omega
/-- one of two parts is a list or a tuple of atoms -/
theorem ov_two {f : V → Option (List V) → Bool} {L : List R} {t : Addr} {x y : V} (h : R.tup t [x, y] ∈ L) (hx : OvItem f L x ∨ isAtom x = true ∧ ShE 100 (atomD x)) (hy : OvItem f L y ∨ isAtom y = true ∧ ShE 100 (atomD y)) (c : f (.ref t) (some [x, y]) = false) : OvItem2 f L (.ref t) := by
  have kd : ∀ v, (OvItem f L v ∨ isAtom v = true ∧ ShE 100 (atomD v)) → (∃ k, Kd L v k) ∧ ∃ d, Ev L v d ∧ ShE 310 d ∧ d.depth ≤ 13 := by
    rintro v (⟨⟨r, o, _⟩, d, e, s, p⟩ | ⟨a, s⟩)
    · refine ⟨?_, d, e, s, p⟩
      cases o with
      | no k _ => exact ⟨_, k⟩
      | tup m _ => exact ⟨_, .tup m⟩
    · obtain ⟨k, kd, _⟩ := atom_kd (L := L) a
      exact ⟨⟨k, kd⟩, _, atom_ev a, s.mono (by decide), Nat.le_trans (atom_dep v) (by decide)⟩
  obtain ⟨kx, dx, ex, sx, px⟩ := kd x hx
  obtain ⟨ky, dy, ey, sy, py⟩ := kd y hy
  refine ⟨⟨some [x, y], .tup h fun z hz => ?_, fun _ z => (by cases z; simp), c⟩, _, .tup h (.cons ex (.cons ey .nil)), (she_tup (w := 310) (n := 2) (fun d hd => ?_) (by simp)).mono (by decide), ?_⟩
  · simp only [List.mem_cons, List.not_mem_nil, or_false] at hz
    rcases hz with rfl | rfl
    · exact kx
    · exact ky
  · simp only [List.mem_cons, List.not_mem_nil, or_false] at hd
    rcases hd with rfl | rfl
    · exact ⟨sx, by omega⟩
    · exact ⟨sy, by omega⟩
  · rw [dep_tuple]
    have := depthAll_at (n := 13) (ds := [dx, dy]) fun d hd => by
      simp only [List.mem_cons, List.not_mem_nil, or_false] at hd
      rcases hd with rfl | rfl <;> assumption
    omega
/-- a tuple of one item that is a list or a tuple -/
theorem ov_one {f : V → Option (List V) → Bool} {L : List R} {t : Addr} {x : V} (h : R.tup t [x] ∈ L) (hx : OvItem f L x) (c : f (.ref t) (some [x]) = false) : OvItem2 f L (.ref t) := by
  obtain ⟨⟨r, o, _⟩, d, e, s, p⟩ := hx
  refine ⟨⟨some [x], .tup h fun z hz => ?_, fun _ z => (by cases z; simp), c⟩, _, .tup h (.cons e .nil), (she_tup (w := 310) (n := 2) (fun d' hd => ?_) (by simp)).mono (by decide), ?_⟩
  · obtain rfl : z = x := by simpa using hz
    cases o with
    | no k _ => exact ⟨_, k⟩
    | tup m _ => exact ⟨_, .tup m⟩
  · obtain rfl : d' = d := by simpa using hd
    exact ⟨s, by omega⟩
  · rw [dep_tuple]
    have := depthAll_at (n := 13) (ds := [d]) fun d' hd => by
      obtain rfl : d' = d := by simpa using hd
      exact p
    omega
/-- a list of resources is parted at one of them -/
inductive Spl (r : R) (L : List R) : List R → List R → Prop
  | here : Spl r L (r :: L) []
  | there {x : R} {F A : List R} (h : Spl r L F A) : Spl r L (x :: F) (x :: A)
theorem Spl.eq {r : R} {L F A : List R} (h : Spl r L F A) : F = A ++ r :: L := by
  induction h with
  | here => rfl
  | there _ ih => rw [ih]; rfl
theorem pick_mid {r : R} {L : List R} : ∀ A : List R, Pick r (A ++ r :: L) (A ++ L)
  | [] => .here
  | _ :: A => .there (pick_mid A)
theorem fit_rot : ∀ (L A : List R), Fit (L ++ A) (A ++ L)
  | [], A => by rw [List.append_nil]; exact .refl
  | r :: L, A => .pick (pick_mid A) (fit_rot L A)
theorem Sep.part {C : Addr} {K : PySem.W.Frag} {Tb : List (Addr × Str)} {H : Hp} {c r : R} {L F A : List R} (S : Sep C K Tb H (c :: F)) (h : Spl r L F A) : Sep C K Tb H (c :: r :: (L ++ A)) := by
  rw [h.eq] at S
  exact S.fit (.pick .here (.pick (pick_mid A) (fit_rot L A)))

/-! ### isinstance of an error that is being handled -/
/-- what isinstance asks of its class -/
structure XIs (K : PySem.W.Frag) (D : Addr) : Prop where
  ga : PySem.W.findIn K (.ref D) "__getattribute__" = some (some (.builtin "BaseException.__getattribute__"))
  gg : PySem.W.findIn K (.ref D) "__getattr__" = some none
  ex : PySem.W.subIn K (.ref D) (.type "BaseException") = some true
  hd : PySem.W.hasDictIn K D = true
  ha : PySem.W.findIn K (.ref D) "__class__" = some (some (.builtin "object.__class__"))
  hn : PySem.W.specialIn K (.builtin "object.__class__") "__get__" = some (some (.builtin "getset_descriptor.__get__"))
  ht : PySem.W.takesIn K (.builtin "object.__class__") = some true
  hm : PySem.W.mroIn K D (.type "object") = some true
theorem XIs.cls {K : PySem.W.Frag} {D : Addr} (x : XIs K D) : (PySem.W.clsIn K D).isSome = true := by
  obtain ⟨cd, hc, _⟩ := PySem.W.any_some x.hd
  rw [hc]; rfl
/-- a: the error, of the class cls, with the dict d -/
def rIsX (K : PySem.W.Frag) (a : Addr) (cls : Value) (d : Option Addr) : List V → Hp → VK → Prop := fun xs H Q => ∃ (D : Addr) (b : Bool), cls = .ref D ∧ XIs K D ∧ (d = none ∨ ∃ dd fs, d = some dd ∧ H dd = some (.xd fs)) ∧
  ((∃ c cv, xs = [.ref a, c] ∧ ClsV c cv ∧ PySem.W.kitOne K (.ref D) cv = some b) ∨ ∃ tp cs us, xs = [.ref a, .ref tp] ∧ H tp = some (.tup cs) ∧ Paired ClsV cs us ∧ PySem.W.kitAny K (.ref D) us = some b) ∧ Q (.bl b) H
section
open PySem PyProof.Rows
variable {X : Cx} {a : Addr} {oe : Obj} {cls : Value} {d : Option Addr} {pn : List (Addr × Obj)}
theorem cr_isX (hz : Zc cls d oe) (hf : ∃ vs, oe.data = .fields vs) : CallR (X.suite a ((a, oe) :: pn)) (.builtin "isinstance") (rIsX X.K a cls d) := by
  rintro pins s σ H xs us Q I r ⟨D, b, rfl, x, hdd, alt, q⟩
  have hget := (I.pin (a, oe) (List.mem_append_left _ List.mem_cons_self)).1
  obtain ⟨vs, hv⟩ := hf
  have nc : PySem.W.notCls oe = true := by unfold PySem.W.notCls; rw [hv] <;> rfl
  obtain ⟨od, J⟩ : ∃ od, PySem.W.InstAt s.heap a oe D od := by
    rcases hdd with rfl | ⟨dd, fs, rfl, hx⟩
    · refine ⟨none, hget, hz.1, nc, ?_⟩
      rw [hz.2]
      trivial
    · obtain ⟨mA, hns, _⟩ := (show ObjOk X.prog X.w H s.heap dd (.xd fs) from I.hok dd _ hx)
      obtain ⟨od, ho, _⟩ := lookIn_ns hns
      refine ⟨some od, hget, hz.1, nc, ?_⟩
      rw [hz.2]
      exact ho
  have Z := PySem.W.kitx_exc (x := a) (ox := oe) (od := od) x.cls x.ga x.gg x.ex x.ha x.hn x.ht x.hm
  rcases alt with ⟨c, cv, rfl, k, e⟩ | ⟨tp, cs, ws, rfl, hT, k, e⟩
  · obtain ⟨u1, u2, rfl, r1, r2⟩ := vals2 r
    cases r1
    have e2 := k.eq r2
    subst e2
    exact PySem.W.kia_one Z I.kIn J e (fun z => nomatch z) fun tk => ⟨.bl b, H, I.kept (t' := tk) fun _ _ z => z, rfl, q⟩
  · obtain ⟨u1, u2, rfl, r1, r2⟩ := vals2 r
    cases r1
    cases r2
    obtain ⟨_, its, rv, o, h1, h2, n, h3⟩ := (show ObjOk X.prog X.w H s.heap tp (.tup cs) from I.hok tp _ hT)
    have e3 := ClsV.all k rv
    subst e3
    obtain ⟨oc, odd, dt, sl⟩ := o
    simp only at h2 h3
    subst h2 h3
    exact PySem.W.kia_tup Z I.kIn J h1 e (fun z => nomatch z) fun tk => ⟨.bl b, H, I.kept (t' := tk) fun _ _ z => z, rfl, q⟩
theorem isX {K : PySem.W.Frag} (hz : Zc cls d oe) (hf : ∃ vs, oe.data = .fields vs) (h : X.K = K := by rfl) : CallR (X.suite a ((a, oe) :: pn)) (.builtin "isinstance") (rIsX K a cls d) := h ▸ cr_isX hz hf
end
section
variable {K : PySem.W.Frag} {C D : Addr} {b : Bool}
/-- whether it is an error of the class C -/
theorem XCls.yes (x : XCls K C) (h : PySem.W.subIn K (.ref D) (.ref C) = some true) : PySem.W.kitOne K (.ref D) (.ref C) = some true := by
  unfold PySem.W.kitOne
  by_cases e : D = C
  · exact if_pos (by rw [e]; simp)
  · rw [if_neg (by simpa using e)]
    unfold PySem.W.kitCls
    exact (if_pos (IsCls.both ⟨x.hd, x.ty⟩)).trans h
theorem XCls.no (x : XCls K C) (s : PySem.W.subIn K (.ref D) (.ref D) = some true) (h : PySem.W.subIn K (.ref D) (.ref C) = some false) : PySem.W.kitOne K (.ref D) (.ref C) = some false := by
  unfold PySem.W.kitOne
  have e : D ≠ C := fun e => by rw [← e, s] at h; cases h
  rw [if_neg (by simpa using e)]
  unfold PySem.W.kitCls
  exact (if_pos (IsCls.both ⟨x.hd, x.ty⟩)).trans h
theorem any_no {t c : Value} {cs : List Value} {r : Bool} (h : PySem.W.kitOne K t c = some false) (k : PySem.W.kitAny K t cs = some r) : PySem.W.kitAny K t (c :: cs) = some r := by
  unfold PySem.W.kitAny
  rw [h]
  exact k
theorem kitOne_ty {n : String} (m : PySem.W.kitMeta n = true) (h : PySem.W.subIn K (.ref D) (.type n) = some b) : PySem.W.kitOne K (.ref D) (.type n) = some b := by
  unfold PySem.W.kitOne
  rw [if_neg (by simp)]
  unfold PySem.W.kitCls
  exact (if_pos m).trans h
/-- isinstance(e, (C1, C2, ..)): none of them -/
theorem r_isXT {C1 : Addr} {a dd tp : Addr} {fs : List (Str × V)} {cs : List V} {us : List Value} {H : Hp} {Q : VK} (x : XIs K D) (hd : H dd = some (.xd fs)) (ht : H tp = some (.tup cs)) (p : Paired ClsV cs us) (e : PySem.W.kitAny K (.ref D) us = some b) (q : Q (.bl b) H) : rIsX K a (.ref D) (some dd) [.ref a, .ref tp] H Q :=
  ⟨D, b, rfl, x, .inr ⟨dd, fs, rfl, hd⟩, .inr ⟨tp, cs, us, rfl, ht, p, e⟩, q⟩
theorem r_isX1 {a dd C1 : Addr} {fs : List (Str × V)} {H : Hp} {Q : VK} (x : XIs K D) (hd : H dd = some (.xd fs)) (e : PySem.W.kitOne K (.ref D) (.ref C1) = some b) (q : Q (.bl b) H) : rIsX K a (.ref D) (some dd) [.ref a, .ref C1] H Q :=
  ⟨D, b, rfl, x, .inr ⟨dd, fs, rfl, hd⟩, .inl ⟨.ref C1, .ref C1, rfl, .own C1, e⟩, q⟩
theorem r_isX1t {a dd : Addr} {n : String} {fs : List (Str × V)} {H : Hp} {Q : VK} (x : XIs K D) (hd : H dd = some (.xd fs)) (e : PySem.W.kitOne K (.ref D) (.type n) = some b) (q : Q (.bl b) H) : rIsX K a (.ref D) (some dd) [.ref a, .ty n] H Q :=
  ⟨D, b, rfl, x, .inr ⟨dd, fs, rfl, hd⟩, .inl ⟨.ty n, .type n, rfl, .ty n, e⟩, q⟩
end
/-- repr within a suite -/
theorem reprS {X : Cx} {K : PySem.W.Frag} {a : Addr} {pn : List (Addr × Obj)} (gd : X.A.guards = some []) (hu : X.A.units + 70 < cLine) (h : X.K = K := by rfl) : CallR (X.suite a pn) (.builtin "repr") (rReprE K) := h ▸ cr_reprE (X := X.suite a pn) gd hu

/-! ### == and != of two tuples with the same flat items -/
def rNeT : R2 := fun x y H Q => ∃ (a b : Addr) (xs : List V), x = .ref a ∧ y = .ref b ∧ H a = some (.tup xs) ∧ H b = some (.tup xs) ∧ xs.all flatB = true ∧ Q (.bl false) H
theorem tup_items {X : Cx} {pins : List (Addr × Obj)} {σ : St} {H : Hp} {s : Shared} (I : Inv X pins σ H s) {a : Addr} {xs : List V} (h : H a = some (.tup xs)) : ∃ its : List Value, Vals xs its ∧ s.heap.IsTuple a its.toArray := by
  obtain ⟨_, its, rv, o, h1, h2, n, h3⟩ := (show ObjOk X.prog X.w H s.heap a (.tup xs) from I.hok a _ h)
  exact ⟨its, rv, o, h1, h2, n, h3⟩
theorem vals_same {A : Around} {s : Shared} {xs : List V} {us ws : List Value} (r : Vals xs us) (r' : Vals xs ws) (f : xs.all flatB = true) (j : Nat) (h1 : j < us.toArray.size) (h2 : j < ws.toArray.size) : SeqAt.EqAt A s us.toArray[j] ws.toArray[j] true := by
  have h1' : j < us.length := by simpa using h1
  have lx : j < xs.length := by rw [r.length]; exact h1'
  obtain ⟨u, e1, q1⟩ := r.get (List.getElem?_eq_getElem lx)
  obtain ⟨w, e2, q2⟩ := r'.get (List.getElem?_eq_getElem lx)
  have h2' : j < ws.length := by simpa using h2
  rw [List.getElem?_eq_getElem h1'] at e1
  rw [List.getElem?_eq_getElem h2'] at e2
  have e1 : us.toArray[j] = u := by simpa using Option.some.inj e1
  have e2 : ws.toArray[j] = w := by simpa using Option.some.inj e2
  rw [e1, e2]
  exact eqAt_same q1 q2 (List.all_eq_true.mp f _ (List.getElem_mem lx))
theorem neT {X : Cx} (hu : X.A.units + 70 < cLine) : OpR X (compareOp .NotEq) rNeT := by
  rintro pins s σ H x y v u Q I rx ry ⟨a, b, xs, rfl, rfl, ha, hb, hf, q⟩
  cases rx
  cases ry
  obtain ⟨us, r1, t1⟩ := tup_items I ha
  obtain ⟨ws, r2, t2⟩ := tup_items I hb
  refine SeqAt.RcNeAt.tuples (e := fun _ => true) t1 t2 (by omega) (fun j h1 h2 => vals_same r1 r2 hf j h1 h2) X.prog X.w X.xe _ ?_
  have e : (!((List.range (min us.toArray.size ws.toArray.size)).all (fun _ => true) && us.toArray.size == ws.toArray.size)) = false := by
    have l1 := r1.length
    have l2 := r2.length
    simp
    omega
  exact ⟨.bl false, H, I, by rw [e]; rfl, q⟩
theorem s_neT {C : Addr} {K : PySem.W.Frag} {Tb : List (Addr × Str)} {H : Hp} {L : List R} {Q : VK} {a b : Addr} {xs : List V} (S : Sep C K Tb H L) (h1 : R.tup a xs ∈ L) (h2 : R.tup b xs ∈ L) (f : xs.all flatB = true) (k : Q (.bl false) H) : rNeT (.ref a) (.ref b) H Q := ⟨a, b, xs, rfl, rfl, S.getT h1, S.getT h2, f, k⟩

def topS (i : Nat) : Stmt := PySem.Challenge.pw_slotwraps_k28_questions_refused.main.body.getD i (.Pass ⟨0, 0, 0, 0⟩)
abbrev s_is_integer : Stmt := topS 12
abbrev s_is_between : Stmt := topS 13
abbrev s_is_rule : Stmt := topS 14
abbrev s_check_map : Stmt := topS 39
abbrev s_taking_order : Stmt := topS 15
abbrev s_order_behind : Stmt := topS 16
abbrev s_Slots___init__ : Stmt := inClass (topS 40) 0
abbrev s_Slots_generation_of : Stmt := inClass (topS 40) 1
abbrev s_Slots___len__ : Stmt := inClass (topS 40) 8
abbrev s_Slots_counts : Stmt := inClass (topS 40) 12
abbrev s_Slots_live : Stmt := inClass (topS 40) 13
abbrev s_Slots_free : Stmt := inClass (topS 40) 14
abbrev s_Slots___contains__ : Stmt := inClass (topS 40) 2
abbrev s_Slots_check_handle : Stmt := inClass (topS 40) 3
abbrev s_Slots___getitem__ : Stmt := inClass (topS 40) 6
abbrev s_Slots_take : Stmt := inClass (topS 40) 4
abbrev s_Slots_give : Stmt := inClass (topS 40) 5
abbrev s_Slots_copy : Stmt := inClass (topS 40) 15
abbrev s_Slots_arguments : Stmt := inClass (topS 40) 10
abbrev s_Slots_state : Stmt := inClass (topS 40) 11
abbrev s_Slots___eq__ : Stmt := inClass (topS 40) 9
abbrev s__law_cell_at : Stmt := topS 42
abbrev s__law_source_of : Stmt := topS 43
abbrev s__law_next : Stmt := topS 44
abbrev s__law_one : Stmt := topS 45
abbrev s__law_numbers : Stmt := topS 47
abbrev s__law_deeds : Stmt := topS 48
abbrev s__law_execute : Stmt := topS 49
abbrev s_least_for_last : Stmt := topS 22
abbrev s_least_for_lowest : Stmt := topS 24
abbrev s_least_for_first : Stmt := topS 23
abbrev s_is_slot : Stmt := topS 20
abbrev s_NoSlot___init__ : Stmt := inClass (topS 6) 0
abbrev s_NoTimes___init__ : Stmt := inClass (topS 7) 0
abbrev s_check_question : Stmt := topS 21
abbrev s_shortages : Stmt := topS 25
abbrev s_savings : Stmt := topS 26
abbrev s_least_for_least : Stmt := topS 27
abbrev s_least_number : Stmt := topS 28
abbrev s_least : Stmt := topS 29
abbrev s__law_map : Stmt := topS 50
abbrev s_TooLong___init__ : Stmt := inClass (topS 9) 0
abbrev s_handle_of : Stmt := topS 30
abbrev s_slots_to_give : Stmt := topS 31
abbrev s_plan : Stmt := topS 32
abbrev s_is_call : Stmt := topS 33
abbrev s_is_done : Stmt := topS 34
abbrev s_judge_plan : Stmt := topS 35
abbrev s__law_asked : Stmt := topS 51
abbrev s__law_said : Stmt := topS 52
abbrev s_law : Stmt := topS 53
theorem sc_is_integer : FnScope ["value"] ["value"] (defScope s_is_integer) := ⟨rfl, rfl, rfl, by decide +kernel, rfl, by decide +kernel, by decide +kernel⟩
theorem vs_is_integer_0 : Vis (defScope s_is_integer) "value" := Or.inl rfl
theorem lc_is_integer_0 : Loc (defScope s_is_integer) "value" := Or.inl rfl
theorem sc_is_between : FnScope ["value", "low", "high"] ["value", "low", "high"] (defScope s_is_between) := ⟨rfl, rfl, rfl, by decide +kernel, rfl, by decide +kernel, by decide +kernel⟩
theorem vs_is_between_0 : Vis (defScope s_is_between) "value" := Or.inl rfl
theorem lc_is_between_0 : Loc (defScope s_is_between) "value" := Or.inl rfl
theorem vs_is_between_1 : Vis (defScope s_is_between) "low" := Or.inl rfl
theorem lc_is_between_1 : Loc (defScope s_is_between) "low" := Or.inl rfl
theorem vs_is_between_2 : Vis (defScope s_is_between) "high" := Or.inl rfl
theorem lc_is_between_2 : Loc (defScope s_is_between) "high" := Or.inl rfl
theorem sc_is_rule : FnScope ["value"] ["value"] (defScope s_is_rule) := ⟨rfl, rfl, rfl, by decide +kernel, rfl, by decide +kernel, by decide +kernel⟩
theorem vs_is_rule_0 : Vis (defScope s_is_rule) "value" := Or.inl rfl
theorem lc_is_rule_0 : Loc (defScope s_is_rule) "value" := Or.inl rfl
theorem sc_check_map : FnScope ["n", "limit", "generations", "rule"] ["n", "limit", "generations", "rule"] (defScope s_check_map) := ⟨rfl, rfl, rfl, by decide +kernel, rfl, by decide +kernel, by decide +kernel⟩
theorem vs_check_map_0 : Vis (defScope s_check_map) "n" := Or.inl rfl
theorem lc_check_map_0 : Loc (defScope s_check_map) "n" := Or.inl rfl
theorem vs_check_map_1 : Vis (defScope s_check_map) "limit" := Or.inl rfl
theorem lc_check_map_1 : Loc (defScope s_check_map) "limit" := Or.inl rfl
theorem vs_check_map_2 : Vis (defScope s_check_map) "generations" := Or.inl rfl
theorem lc_check_map_2 : Loc (defScope s_check_map) "generations" := Or.inl rfl
theorem vs_check_map_3 : Vis (defScope s_check_map) "rule" := Or.inl rfl
theorem lc_check_map_3 : Loc (defScope s_check_map) "rule" := Or.inl rfl
theorem sc_taking_order : FnScope ["rule", "order", "counts", "slot"] ["rule", "order", "counts"] (defScope s_taking_order) := ⟨rfl, rfl, rfl, by decide +kernel, rfl, by decide +kernel, by decide +kernel⟩
theorem vs_taking_order_0 : Vis (defScope s_taking_order) "rule" := Or.inl rfl
theorem lc_taking_order_0 : Loc (defScope s_taking_order) "rule" := Or.inl rfl
theorem vs_taking_order_1 : Vis (defScope s_taking_order) "order" := Or.inl rfl
theorem lc_taking_order_1 : Loc (defScope s_taking_order) "order" := Or.inl rfl
theorem vs_taking_order_2 : Vis (defScope s_taking_order) "counts" := Or.inr (Or.inl rfl)
theorem lc_taking_order_2 : Loc (defScope s_taking_order) "counts" := Or.inr rfl
theorem sc_order_behind : FnScope ["rule", "order", "slot"] ["rule", "order", "slot"] (defScope s_order_behind) := ⟨rfl, rfl, rfl, by decide +kernel, rfl, by decide +kernel, by decide +kernel⟩
theorem vs_order_behind_0 : Vis (defScope s_order_behind) "rule" := Or.inl rfl
theorem lc_order_behind_0 : Loc (defScope s_order_behind) "rule" := Or.inl rfl
theorem vs_order_behind_1 : Vis (defScope s_order_behind) "order" := Or.inl rfl
theorem lc_order_behind_1 : Loc (defScope s_order_behind) "order" := Or.inl rfl
theorem vs_order_behind_2 : Vis (defScope s_order_behind) "slot" := Or.inl rfl
theorem lc_order_behind_2 : Loc (defScope s_order_behind) "slot" := Or.inl rfl
theorem sc_Slots___init__ : FnScope ["self", "n", "limit", "generations", "rule"] ["self", "n", "limit", "generations", "rule"] (defScope s_Slots___init__) := ⟨rfl, rfl, rfl, by decide +kernel, rfl, by decide +kernel, by decide +kernel⟩
theorem vs_Slots___init___0 : Vis (defScope s_Slots___init__) "self" := Or.inl rfl
theorem lc_Slots___init___0 : Loc (defScope s_Slots___init__) "self" := Or.inl rfl
theorem vs_Slots___init___1 : Vis (defScope s_Slots___init__) "n" := Or.inl rfl
theorem lc_Slots___init___1 : Loc (defScope s_Slots___init__) "n" := Or.inl rfl
theorem vs_Slots___init___2 : Vis (defScope s_Slots___init__) "limit" := Or.inl rfl
theorem lc_Slots___init___2 : Loc (defScope s_Slots___init__) "limit" := Or.inl rfl
theorem vs_Slots___init___3 : Vis (defScope s_Slots___init__) "generations" := Or.inl rfl
theorem lc_Slots___init___3 : Loc (defScope s_Slots___init__) "generations" := Or.inl rfl
theorem vs_Slots___init___4 : Vis (defScope s_Slots___init__) "rule" := Or.inl rfl
theorem lc_Slots___init___4 : Loc (defScope s_Slots___init__) "rule" := Or.inl rfl
theorem sc_Slots_generation_of : FnScope ["self", "slot"] ["self", "slot"] (defScope s_Slots_generation_of) := ⟨rfl, rfl, rfl, by decide +kernel, rfl, by decide +kernel, by decide +kernel⟩
theorem vs_Slots_generation_of_0 : Vis (defScope s_Slots_generation_of) "self" := Or.inl rfl
theorem lc_Slots_generation_of_0 : Loc (defScope s_Slots_generation_of) "self" := Or.inl rfl
theorem vs_Slots_generation_of_1 : Vis (defScope s_Slots_generation_of) "slot" := Or.inl rfl
theorem lc_Slots_generation_of_1 : Loc (defScope s_Slots_generation_of) "slot" := Or.inl rfl
theorem sc_Slots___len__ : FnScope ["self"] ["self"] (defScope s_Slots___len__) := ⟨rfl, rfl, rfl, by decide +kernel, rfl, by decide +kernel, by decide +kernel⟩
theorem vs_Slots___len___0 : Vis (defScope s_Slots___len__) "self" := Or.inl rfl
theorem lc_Slots___len___0 : Loc (defScope s_Slots___len__) "self" := Or.inl rfl
theorem sc_Slots_counts : FnScope ["self"] ["self"] (defScope s_Slots_counts) := ⟨rfl, rfl, rfl, by decide +kernel, rfl, by decide +kernel, by decide +kernel⟩
theorem vs_Slots_counts_0 : Vis (defScope s_Slots_counts) "self" := Or.inl rfl
theorem lc_Slots_counts_0 : Loc (defScope s_Slots_counts) "self" := Or.inl rfl
theorem sc_Slots_live : FnScope ["self", "slot"] ["self"] (defScope s_Slots_live) := ⟨rfl, rfl, rfl, by decide +kernel, rfl, by decide +kernel, by decide +kernel⟩
theorem vs_Slots_live_0 : Vis (defScope s_Slots_live) "self" := Or.inr (Or.inl rfl)
theorem lc_Slots_live_0 : Loc (defScope s_Slots_live) "self" := Or.inr rfl
theorem sc_Slots_free : FnScope ["self"] ["self"] (defScope s_Slots_free) := ⟨rfl, rfl, rfl, by decide +kernel, rfl, by decide +kernel, by decide +kernel⟩
theorem vs_Slots_free_0 : Vis (defScope s_Slots_free) "self" := Or.inl rfl
theorem lc_Slots_free_0 : Loc (defScope s_Slots_free) "self" := Or.inl rfl
theorem sc_Slots___contains__ : FnScope ["self", "handle", "part"] ["self", "handle"] (defScope s_Slots___contains__) := ⟨rfl, rfl, rfl, by decide +kernel, rfl, by decide +kernel, by decide +kernel⟩
theorem vs_Slots___contains___0 : Vis (defScope s_Slots___contains__) "self" := Or.inl rfl
theorem lc_Slots___contains___0 : Loc (defScope s_Slots___contains__) "self" := Or.inl rfl
theorem vs_Slots___contains___1 : Vis (defScope s_Slots___contains__) "handle" := Or.inl rfl
theorem lc_Slots___contains___1 : Loc (defScope s_Slots___contains__) "handle" := Or.inl rfl
theorem sc_Slots_check_handle : FnScope ["self", "handle"] ["self", "handle"] (defScope s_Slots_check_handle) := ⟨rfl, rfl, rfl, by decide +kernel, rfl, by decide +kernel, by decide +kernel⟩
theorem vs_Slots_check_handle_0 : Vis (defScope s_Slots_check_handle) "self" := Or.inl rfl
theorem lc_Slots_check_handle_0 : Loc (defScope s_Slots_check_handle) "self" := Or.inl rfl
theorem vs_Slots_check_handle_1 : Vis (defScope s_Slots_check_handle) "handle" := Or.inl rfl
theorem lc_Slots_check_handle_1 : Loc (defScope s_Slots_check_handle) "handle" := Or.inl rfl
theorem sc_Slots___getitem__ : FnScope ["self", "handle"] ["self", "handle"] (defScope s_Slots___getitem__) := ⟨rfl, rfl, rfl, by decide +kernel, rfl, by decide +kernel, by decide +kernel⟩
theorem vs_Slots___getitem___0 : Vis (defScope s_Slots___getitem__) "self" := Or.inl rfl
theorem lc_Slots___getitem___0 : Loc (defScope s_Slots___getitem__) "self" := Or.inl rfl
theorem vs_Slots___getitem___1 : Vis (defScope s_Slots___getitem__) "handle" := Or.inl rfl
theorem lc_Slots___getitem___1 : Loc (defScope s_Slots___getitem__) "handle" := Or.inl rfl
theorem sc_Slots_take : FnScope ["self", "value", "slot"] ["self", "value"] (defScope s_Slots_take) := ⟨rfl, rfl, rfl, by decide +kernel, rfl, by decide +kernel, by decide +kernel⟩
theorem vs_Slots_take_0 : Vis (defScope s_Slots_take) "self" := Or.inl rfl
theorem lc_Slots_take_0 : Loc (defScope s_Slots_take) "self" := Or.inl rfl
theorem vs_Slots_take_1 : Vis (defScope s_Slots_take) "value" := Or.inl rfl
theorem lc_Slots_take_1 : Loc (defScope s_Slots_take) "value" := Or.inl rfl
theorem vs_Slots_take_2 : Vis (defScope s_Slots_take) "slot" := Or.inl rfl
theorem lc_Slots_take_2 : Loc (defScope s_Slots_take) "slot" := Or.inl rfl
theorem sc_Slots_give : FnScope ["self", "handle", "slot"] ["self", "handle"] (defScope s_Slots_give) := ⟨rfl, rfl, rfl, by decide +kernel, rfl, by decide +kernel, by decide +kernel⟩
theorem vs_Slots_give_0 : Vis (defScope s_Slots_give) "self" := Or.inl rfl
theorem lc_Slots_give_0 : Loc (defScope s_Slots_give) "self" := Or.inl rfl
theorem vs_Slots_give_1 : Vis (defScope s_Slots_give) "handle" := Or.inl rfl
theorem lc_Slots_give_1 : Loc (defScope s_Slots_give) "handle" := Or.inl rfl
theorem vs_Slots_give_2 : Vis (defScope s_Slots_give) "slot" := Or.inl rfl
theorem lc_Slots_give_2 : Loc (defScope s_Slots_give) "slot" := Or.inl rfl
theorem sc_Slots_copy : FnScope ["self", "found"] ["self"] (defScope s_Slots_copy) := ⟨rfl, rfl, rfl, by decide +kernel, rfl, by decide +kernel, by decide +kernel⟩
theorem vs_Slots_copy_0 : Vis (defScope s_Slots_copy) "self" := Or.inl rfl
theorem lc_Slots_copy_0 : Loc (defScope s_Slots_copy) "self" := Or.inl rfl
theorem vs_Slots_copy_1 : Vis (defScope s_Slots_copy) "found" := Or.inl rfl
theorem lc_Slots_copy_1 : Loc (defScope s_Slots_copy) "found" := Or.inl rfl
theorem sc_Slots_arguments : FnScope ["self"] ["self"] (defScope s_Slots_arguments) := ⟨rfl, rfl, rfl, by decide +kernel, rfl, by decide +kernel, by decide +kernel⟩
theorem vs_Slots_arguments_0 : Vis (defScope s_Slots_arguments) "self" := Or.inl rfl
theorem lc_Slots_arguments_0 : Loc (defScope s_Slots_arguments) "self" := Or.inl rfl
theorem sc_Slots_state : FnScope ["self"] ["self"] (defScope s_Slots_state) := ⟨rfl, rfl, rfl, by decide +kernel, rfl, by decide +kernel, by decide +kernel⟩
theorem vs_Slots_state_0 : Vis (defScope s_Slots_state) "self" := Or.inl rfl
theorem lc_Slots_state_0 : Loc (defScope s_Slots_state) "self" := Or.inl rfl
theorem sc_Slots___eq__ : FnScope ["self", "other"] ["self", "other"] (defScope s_Slots___eq__) := ⟨rfl, rfl, rfl, by decide +kernel, rfl, by decide +kernel, by decide +kernel⟩
theorem vs_Slots___eq___0 : Vis (defScope s_Slots___eq__) "self" := Or.inl rfl
theorem lc_Slots___eq___0 : Loc (defScope s_Slots___eq__) "self" := Or.inl rfl
theorem vs_Slots___eq___1 : Vis (defScope s_Slots___eq__) "other" := Or.inl rfl
theorem lc_Slots___eq___1 : Loc (defScope s_Slots___eq__) "other" := Or.inl rfl
theorem sc__law_cell_at : FnScope ["_law_script", "_law_k"] ["_law_script", "_law_k"] (defScope s__law_cell_at) := ⟨rfl, rfl, rfl, by decide +kernel, rfl, by decide +kernel, by decide +kernel⟩
theorem vs__law_cell_at_0 : Vis (defScope s__law_cell_at) "_law_script" := Or.inl rfl
theorem lc__law_cell_at_0 : Loc (defScope s__law_cell_at) "_law_script" := Or.inl rfl
theorem vs__law_cell_at_1 : Vis (defScope s__law_cell_at) "_law_k" := Or.inl rfl
theorem lc__law_cell_at_1 : Loc (defScope s__law_cell_at) "_law_k" := Or.inl rfl
theorem sc__law_source_of : FnScope ["_law_cell"] ["_law_cell"] (defScope s__law_source_of) := ⟨rfl, rfl, rfl, by decide +kernel, rfl, by decide +kernel, by decide +kernel⟩
theorem vs__law_source_of_0 : Vis (defScope s__law_source_of) "_law_cell" := Or.inl rfl
theorem lc__law_source_of_0 : Loc (defScope s__law_source_of) "_law_cell" := Or.inl rfl
theorem sc__law_next : FnScope ["_law_source", "_law_many", "_law_found", "_law_prime", "_law_number"] ["_law_source", "_law_many"] (defScope s__law_next) := ⟨rfl, rfl, rfl, by decide +kernel, rfl, by decide +kernel, by decide +kernel⟩
theorem vs__law_next_0 : Vis (defScope s__law_next) "_law_source" := Or.inl rfl
theorem lc__law_next_0 : Loc (defScope s__law_next) "_law_source" := Or.inl rfl
theorem vs__law_next_1 : Vis (defScope s__law_next) "_law_many" := Or.inl rfl
theorem lc__law_next_1 : Loc (defScope s__law_next) "_law_many" := Or.inl rfl
theorem vs__law_next_2 : Vis (defScope s__law_next) "_law_found" := Or.inl rfl
theorem lc__law_next_2 : Loc (defScope s__law_next) "_law_found" := Or.inl rfl
theorem vs__law_next_3 : Vis (defScope s__law_next) "_law_prime" := Or.inl rfl
theorem lc__law_next_3 : Loc (defScope s__law_next) "_law_prime" := Or.inl rfl
theorem vs__law_next_4 : Vis (defScope s__law_next) "_law_number" := Or.inl rfl
theorem lc__law_next_4 : Loc (defScope s__law_next) "_law_number" := Or.inl rfl
theorem sc__law_one : FnScope ["_law_source", "_law_some"] ["_law_source", "_law_some"] (defScope s__law_one) := ⟨rfl, rfl, rfl, by decide +kernel, rfl, by decide +kernel, by decide +kernel⟩
theorem vs__law_one_0 : Vis (defScope s__law_one) "_law_source" := Or.inl rfl
theorem lc__law_one_0 : Loc (defScope s__law_one) "_law_source" := Or.inl rfl
theorem vs__law_one_1 : Vis (defScope s__law_one) "_law_some" := Or.inl rfl
theorem lc__law_one_1 : Loc (defScope s__law_one) "_law_some" := Or.inl rfl
theorem sc__law_numbers : FnScope ["_law_source", "_law_most", "_law_n", "_law_limit", "_law_generations"] ["_law_source", "_law_most"] (defScope s__law_numbers) := ⟨rfl, rfl, rfl, by decide +kernel, rfl, by decide +kernel, by decide +kernel⟩
theorem vs__law_numbers_0 : Vis (defScope s__law_numbers) "_law_source" := Or.inl rfl
theorem lc__law_numbers_0 : Loc (defScope s__law_numbers) "_law_source" := Or.inl rfl
theorem vs__law_numbers_1 : Vis (defScope s__law_numbers) "_law_most" := Or.inl rfl
theorem lc__law_numbers_1 : Loc (defScope s__law_numbers) "_law_most" := Or.inl rfl
theorem vs__law_numbers_2 : Vis (defScope s__law_numbers) "_law_n" := Or.inl rfl
theorem lc__law_numbers_2 : Loc (defScope s__law_numbers) "_law_n" := Or.inl rfl
theorem vs__law_numbers_3 : Vis (defScope s__law_numbers) "_law_limit" := Or.inl rfl
theorem lc__law_numbers_3 : Loc (defScope s__law_numbers) "_law_limit" := Or.inl rfl
theorem vs__law_numbers_4 : Vis (defScope s__law_numbers) "_law_generations" := Or.inl rfl
theorem lc__law_numbers_4 : Loc (defScope s__law_numbers) "_law_generations" := Or.inl rfl
theorem sc__law_deeds : FnScope ["_law_source", "_law_limit", "_law_many", "_law_deeds_here", "_law_alive", "_law_k"] ["_law_source", "_law_limit", "_law_many"] (defScope s__law_deeds) := ⟨rfl, rfl, rfl, by decide +kernel, rfl, by decide +kernel, by decide +kernel⟩
theorem vs__law_deeds_0 : Vis (defScope s__law_deeds) "_law_source" := Or.inl rfl
theorem lc__law_deeds_0 : Loc (defScope s__law_deeds) "_law_source" := Or.inl rfl
theorem vs__law_deeds_1 : Vis (defScope s__law_deeds) "_law_limit" := Or.inl rfl
theorem lc__law_deeds_1 : Loc (defScope s__law_deeds) "_law_limit" := Or.inl rfl
theorem vs__law_deeds_2 : Vis (defScope s__law_deeds) "_law_many" := Or.inl rfl
theorem lc__law_deeds_2 : Loc (defScope s__law_deeds) "_law_many" := Or.inl rfl
theorem vs__law_deeds_3 : Vis (defScope s__law_deeds) "_law_deeds_here" := Or.inl rfl
theorem lc__law_deeds_3 : Loc (defScope s__law_deeds) "_law_deeds_here" := Or.inl rfl
theorem vs__law_deeds_4 : Vis (defScope s__law_deeds) "_law_alive" := Or.inl rfl
theorem lc__law_deeds_4 : Loc (defScope s__law_deeds) "_law_alive" := Or.inl rfl
theorem vs__law_deeds_5 : Vis (defScope s__law_deeds) "_law_k" := Or.inl rfl
theorem lc__law_deeds_5 : Loc (defScope s__law_deeds) "_law_k" := Or.inl rfl
theorem sc__law_execute : FnScope ["_law_slots", "_law_deeds_here", "_law_values", "_law_handles", "_law_deed"] ["_law_slots", "_law_deeds_here", "_law_values"] (defScope s__law_execute) := ⟨rfl, rfl, rfl, by decide +kernel, rfl, by decide +kernel, by decide +kernel⟩
theorem vs__law_execute_0 : Vis (defScope s__law_execute) "_law_slots" := Or.inl rfl
theorem lc__law_execute_0 : Loc (defScope s__law_execute) "_law_slots" := Or.inl rfl
theorem vs__law_execute_1 : Vis (defScope s__law_execute) "_law_deeds_here" := Or.inl rfl
theorem lc__law_execute_1 : Loc (defScope s__law_execute) "_law_deeds_here" := Or.inl rfl
theorem vs__law_execute_2 : Vis (defScope s__law_execute) "_law_values" := Or.inl rfl
theorem lc__law_execute_2 : Loc (defScope s__law_execute) "_law_values" := Or.inl rfl
theorem vs__law_execute_3 : Vis (defScope s__law_execute) "_law_handles" := Or.inl rfl
theorem lc__law_execute_3 : Loc (defScope s__law_execute) "_law_handles" := Or.inl rfl
theorem vs__law_execute_4 : Vis (defScope s__law_execute) "_law_deed" := Or.inl rfl
theorem lc__law_execute_4 : Loc (defScope s__law_execute) "_law_deed" := Or.inl rfl
theorem sc_least_for_last : FnScope ["slots", "slot", "times", "order", "above"] ["slots", "slot", "times"] (defScope s_least_for_last) := ⟨rfl, rfl, rfl, by decide +kernel, rfl, by decide +kernel, by decide +kernel⟩
theorem vs_least_for_last_0 : Vis (defScope s_least_for_last) "slots" := Or.inl rfl
theorem lc_least_for_last_0 : Loc (defScope s_least_for_last) "slots" := Or.inl rfl
theorem vs_least_for_last_1 : Vis (defScope s_least_for_last) "slot" := Or.inl rfl
theorem lc_least_for_last_1 : Loc (defScope s_least_for_last) "slot" := Or.inl rfl
theorem vs_least_for_last_2 : Vis (defScope s_least_for_last) "times" := Or.inl rfl
theorem lc_least_for_last_2 : Loc (defScope s_least_for_last) "times" := Or.inl rfl
theorem vs_least_for_last_3 : Vis (defScope s_least_for_last) "order" := Or.inl rfl
theorem lc_least_for_last_3 : Loc (defScope s_least_for_last) "order" := Or.inl rfl
theorem vs_least_for_last_4 : Vis (defScope s_least_for_last) "above" := Or.inl rfl
theorem lc_least_for_last_4 : Loc (defScope s_least_for_last) "above" := Or.inl rfl
theorem sc_least_for_lowest : FnScope ["slots", "slot", "times", "one"] ["slots", "slot", "times"] (defScope s_least_for_lowest) := ⟨rfl, rfl, rfl, by decide +kernel, rfl, by decide +kernel, by decide +kernel⟩
theorem vs_least_for_lowest_0 : Vis (defScope s_least_for_lowest) "slots" := Or.inl rfl
theorem lc_least_for_lowest_0 : Loc (defScope s_least_for_lowest) "slots" := Or.inl rfl
theorem vs_least_for_lowest_1 : Vis (defScope s_least_for_lowest) "slot" := Or.inr (Or.inl rfl)
theorem lc_least_for_lowest_1 : Loc (defScope s_least_for_lowest) "slot" := Or.inr rfl
theorem vs_least_for_lowest_2 : Vis (defScope s_least_for_lowest) "times" := Or.inl rfl
theorem lc_least_for_lowest_2 : Loc (defScope s_least_for_lowest) "times" := Or.inl rfl
theorem sc_least_for_first : FnScope ["slots", "slot", "times", "order", "between", "ahead", "alive"] ["slots", "slot", "times"] (defScope s_least_for_first) := ⟨rfl, rfl, rfl, by decide +kernel, rfl, by decide +kernel, by decide +kernel⟩
theorem vs_least_for_first_0 : Vis (defScope s_least_for_first) "slots" := Or.inl rfl
theorem lc_least_for_first_0 : Loc (defScope s_least_for_first) "slots" := Or.inl rfl
theorem vs_least_for_first_1 : Vis (defScope s_least_for_first) "slot" := Or.inl rfl
theorem lc_least_for_first_1 : Loc (defScope s_least_for_first) "slot" := Or.inl rfl
theorem vs_least_for_first_2 : Vis (defScope s_least_for_first) "times" := Or.inl rfl
theorem lc_least_for_first_2 : Loc (defScope s_least_for_first) "times" := Or.inl rfl
theorem vs_least_for_first_3 : Vis (defScope s_least_for_first) "order" := Or.inl rfl
theorem lc_least_for_first_3 : Loc (defScope s_least_for_first) "order" := Or.inl rfl
theorem vs_least_for_first_4 : Vis (defScope s_least_for_first) "between" := Or.inl rfl
theorem lc_least_for_first_4 : Loc (defScope s_least_for_first) "between" := Or.inl rfl
theorem vs_least_for_first_5 : Vis (defScope s_least_for_first) "ahead" := Or.inl rfl
theorem lc_least_for_first_5 : Loc (defScope s_least_for_first) "ahead" := Or.inl rfl
theorem vs_least_for_first_6 : Vis (defScope s_least_for_first) "alive" := Or.inl rfl
theorem lc_least_for_first_6 : Loc (defScope s_least_for_first) "alive" := Or.inl rfl
theorem sc_is_slot : FnScope ["slots", "value"] ["slots", "value"] (defScope s_is_slot) := ⟨rfl, rfl, rfl, by decide +kernel, rfl, by decide +kernel, by decide +kernel⟩
theorem vs_is_slot_0 : Vis (defScope s_is_slot) "slots" := Or.inl rfl
theorem lc_is_slot_0 : Loc (defScope s_is_slot) "slots" := Or.inl rfl
theorem vs_is_slot_1 : Vis (defScope s_is_slot) "value" := Or.inl rfl
theorem lc_is_slot_1 : Loc (defScope s_is_slot) "value" := Or.inl rfl
theorem sc_NoSlot___init__ : FnScope ["self", "slot"] ["self", "slot"] (defScope s_NoSlot___init__) := ⟨rfl, rfl, rfl, by decide +kernel, rfl, by decide +kernel, by decide +kernel⟩
theorem vs_NoSlot___init___0 : Vis (defScope s_NoSlot___init__) "self" := Or.inl rfl
theorem lc_NoSlot___init___0 : Loc (defScope s_NoSlot___init__) "self" := Or.inl rfl
theorem vs_NoSlot___init___1 : Vis (defScope s_NoSlot___init__) "slot" := Or.inl rfl
theorem lc_NoSlot___init___1 : Loc (defScope s_NoSlot___init__) "slot" := Or.inl rfl
theorem sc_NoTimes___init__ : FnScope ["self", "times"] ["self", "times"] (defScope s_NoTimes___init__) := ⟨rfl, rfl, rfl, by decide +kernel, rfl, by decide +kernel, by decide +kernel⟩
theorem vs_NoTimes___init___0 : Vis (defScope s_NoTimes___init__) "self" := Or.inl rfl
theorem lc_NoTimes___init___0 : Loc (defScope s_NoTimes___init__) "self" := Or.inl rfl
theorem vs_NoTimes___init___1 : Vis (defScope s_NoTimes___init__) "times" := Or.inl rfl
theorem lc_NoTimes___init___1 : Loc (defScope s_NoTimes___init__) "times" := Or.inl rfl
theorem sc_check_question : FnScope ["slots", "slot", "times"] ["slots", "slot", "times"] (defScope s_check_question) := ⟨rfl, rfl, rfl, by decide +kernel, rfl, by decide +kernel, by decide +kernel⟩
theorem vs_check_question_0 : Vis (defScope s_check_question) "slots" := Or.inl rfl
theorem lc_check_question_0 : Loc (defScope s_check_question) "slots" := Or.inl rfl
theorem vs_check_question_1 : Vis (defScope s_check_question) "slot" := Or.inl rfl
theorem lc_check_question_1 : Loc (defScope s_check_question) "slot" := Or.inl rfl
theorem vs_check_question_2 : Vis (defScope s_check_question) "times" := Or.inl rfl
theorem lc_check_question_2 : Loc (defScope s_check_question) "times" := Or.inl rfl
theorem sc_shortages : FnScope ["slots", "slot", "times", "counts", "found", "other", "wanted"] ["slots", "slot", "times"] (defScope s_shortages) := ⟨rfl, rfl, rfl, by decide +kernel, rfl, by decide +kernel, by decide +kernel⟩
theorem vs_shortages_0 : Vis (defScope s_shortages) "slots" := Or.inl rfl
theorem lc_shortages_0 : Loc (defScope s_shortages) "slots" := Or.inl rfl
theorem vs_shortages_1 : Vis (defScope s_shortages) "slot" := Or.inl rfl
theorem lc_shortages_1 : Loc (defScope s_shortages) "slot" := Or.inl rfl
theorem vs_shortages_2 : Vis (defScope s_shortages) "times" := Or.inl rfl
theorem lc_shortages_2 : Loc (defScope s_shortages) "times" := Or.inl rfl
theorem vs_shortages_3 : Vis (defScope s_shortages) "counts" := Or.inl rfl
theorem lc_shortages_3 : Loc (defScope s_shortages) "counts" := Or.inl rfl
theorem vs_shortages_4 : Vis (defScope s_shortages) "found" := Or.inl rfl
theorem lc_shortages_4 : Loc (defScope s_shortages) "found" := Or.inl rfl
theorem vs_shortages_5 : Vis (defScope s_shortages) "other" := Or.inl rfl
theorem lc_shortages_5 : Loc (defScope s_shortages) "other" := Or.inl rfl
theorem vs_shortages_6 : Vis (defScope s_shortages) "wanted" := Or.inl rfl
theorem lc_shortages_6 : Loc (defScope s_shortages) "wanted" := Or.inl rfl
theorem sc_savings : FnScope ["slots", "slot", "times", "free", "found", "other", "lack", "pair"] ["slots", "slot", "times"] (defScope s_savings) := ⟨rfl, rfl, rfl, by decide +kernel, rfl, by decide +kernel, by decide +kernel⟩
theorem vs_savings_0 : Vis (defScope s_savings) "slots" := Or.inl rfl
theorem lc_savings_0 : Loc (defScope s_savings) "slots" := Or.inl rfl
theorem vs_savings_1 : Vis (defScope s_savings) "slot" := Or.inl rfl
theorem lc_savings_1 : Loc (defScope s_savings) "slot" := Or.inl rfl
theorem vs_savings_2 : Vis (defScope s_savings) "times" := Or.inl rfl
theorem lc_savings_2 : Loc (defScope s_savings) "times" := Or.inl rfl
theorem vs_savings_3 : Vis (defScope s_savings) "free" := Or.inr (Or.inl rfl)
theorem lc_savings_3 : Loc (defScope s_savings) "free" := Or.inr rfl
theorem vs_savings_4 : Vis (defScope s_savings) "found" := Or.inl rfl
theorem lc_savings_4 : Loc (defScope s_savings) "found" := Or.inl rfl
theorem sc_least_for_least : FnScope ["slots", "slot", "times", "lacking", "saving", "other"] ["slots", "slot", "times"] (defScope s_least_for_least) := ⟨rfl, rfl, rfl, by decide +kernel, rfl, by decide +kernel, by decide +kernel⟩
theorem vs_least_for_least_0 : Vis (defScope s_least_for_least) "slots" := Or.inl rfl
theorem lc_least_for_least_0 : Loc (defScope s_least_for_least) "slots" := Or.inl rfl
theorem vs_least_for_least_1 : Vis (defScope s_least_for_least) "slot" := Or.inl rfl
theorem lc_least_for_least_1 : Loc (defScope s_least_for_least) "slot" := Or.inl rfl
theorem vs_least_for_least_2 : Vis (defScope s_least_for_least) "times" := Or.inl rfl
theorem lc_least_for_least_2 : Loc (defScope s_least_for_least) "times" := Or.inl rfl
theorem vs_least_for_least_3 : Vis (defScope s_least_for_least) "lacking" := Or.inl rfl
theorem lc_least_for_least_3 : Loc (defScope s_least_for_least) "lacking" := Or.inl rfl
theorem sc_least_number : FnScope ["slots", "slot", "times"] ["slots", "slot", "times"] (defScope s_least_number) := ⟨rfl, rfl, rfl, by decide +kernel, rfl, by decide +kernel, by decide +kernel⟩
theorem vs_least_number_0 : Vis (defScope s_least_number) "slots" := Or.inl rfl
theorem lc_least_number_0 : Loc (defScope s_least_number) "slots" := Or.inl rfl
theorem vs_least_number_1 : Vis (defScope s_least_number) "slot" := Or.inl rfl
theorem lc_least_number_1 : Loc (defScope s_least_number) "slot" := Or.inl rfl
theorem vs_least_number_2 : Vis (defScope s_least_number) "times" := Or.inl rfl
theorem lc_least_number_2 : Loc (defScope s_least_number) "times" := Or.inl rfl
theorem sc_least : FnScope ["slots", "slot", "times"] ["slots", "slot", "times"] (defScope s_least) := ⟨rfl, rfl, rfl, by decide +kernel, rfl, by decide +kernel, by decide +kernel⟩
theorem vs_least_0 : Vis (defScope s_least) "slots" := Or.inl rfl
theorem lc_least_0 : Loc (defScope s_least) "slots" := Or.inl rfl
theorem vs_least_1 : Vis (defScope s_least) "slot" := Or.inl rfl
theorem lc_least_1 : Loc (defScope s_least) "slot" := Or.inl rfl
theorem vs_least_2 : Vis (defScope s_least) "times" := Or.inl rfl
theorem lc_least_2 : Loc (defScope s_least) "times" := Or.inl rfl
theorem sc__law_map : FnScope ["_law_source", "_law_most", "_law_numbers_here", "_law_slots", "_law_deeds_here"] ["_law_source", "_law_most"] (defScope s__law_map) := ⟨rfl, rfl, rfl, by decide +kernel, rfl, by decide +kernel, by decide +kernel⟩
theorem vs__law_map_0 : Vis (defScope s__law_map) "_law_source" := Or.inl rfl
theorem lc__law_map_0 : Loc (defScope s__law_map) "_law_source" := Or.inl rfl
theorem vs__law_map_1 : Vis (defScope s__law_map) "_law_most" := Or.inl rfl
theorem lc__law_map_1 : Loc (defScope s__law_map) "_law_most" := Or.inl rfl
theorem vs__law_map_2 : Vis (defScope s__law_map) "_law_numbers_here" := Or.inl rfl
theorem lc__law_map_2 : Loc (defScope s__law_map) "_law_numbers_here" := Or.inl rfl
theorem vs__law_map_3 : Vis (defScope s__law_map) "_law_slots" := Or.inl rfl
theorem lc__law_map_3 : Loc (defScope s__law_map) "_law_slots" := Or.inl rfl
theorem vs__law_map_4 : Vis (defScope s__law_map) "_law_deeds_here" := Or.inl rfl
theorem lc__law_map_4 : Loc (defScope s__law_map) "_law_deeds_here" := Or.inl rfl
theorem sc_TooLong___init__ : FnScope ["self", "number"] ["self", "number"] (defScope s_TooLong___init__) := ⟨rfl, rfl, rfl, by decide +kernel, rfl, by decide +kernel, by decide +kernel⟩
theorem vs_TooLong___init___0 : Vis (defScope s_TooLong___init__) "self" := Or.inl rfl
theorem lc_TooLong___init___0 : Loc (defScope s_TooLong___init__) "self" := Or.inl rfl
theorem vs_TooLong___init___1 : Vis (defScope s_TooLong___init__) "number" := Or.inl rfl
theorem lc_TooLong___init___1 : Loc (defScope s_TooLong___init__) "number" := Or.inl rfl
theorem sc_handle_of : FnScope ["slots", "slot", "found", "handle"] ["slots", "slot"] (defScope s_handle_of) := ⟨rfl, rfl, rfl, by decide +kernel, rfl, by decide +kernel, by decide +kernel⟩
theorem vs_handle_of_0 : Vis (defScope s_handle_of) "slots" := Or.inl rfl
theorem lc_handle_of_0 : Loc (defScope s_handle_of) "slots" := Or.inl rfl
theorem vs_handle_of_1 : Vis (defScope s_handle_of) "slot" := Or.inr (Or.inl rfl)
theorem lc_handle_of_1 : Loc (defScope s_handle_of) "slot" := Or.inr rfl
theorem vs_handle_of_2 : Vis (defScope s_handle_of) "found" := Or.inl rfl
theorem lc_handle_of_2 : Loc (defScope s_handle_of) "found" := Or.inl rfl
theorem sc_slots_to_give : FnScope ["board", "slot", "kept", "alive", "handle", "one"] ["board", "slot", "kept"] (defScope s_slots_to_give) := ⟨rfl, rfl, rfl, by decide +kernel, rfl, by decide +kernel, by decide +kernel⟩
theorem vs_slots_to_give_0 : Vis (defScope s_slots_to_give) "board" := Or.inl rfl
theorem lc_slots_to_give_0 : Loc (defScope s_slots_to_give) "board" := Or.inl rfl
theorem vs_slots_to_give_1 : Vis (defScope s_slots_to_give) "slot" := Or.inl rfl
theorem lc_slots_to_give_1 : Loc (defScope s_slots_to_give) "slot" := Or.inl rfl
theorem vs_slots_to_give_2 : Vis (defScope s_slots_to_give) "kept" := Or.inr (Or.inl rfl)
theorem lc_slots_to_give_2 : Loc (defScope s_slots_to_give) "kept" := Or.inr rfl
theorem vs_slots_to_give_3 : Vis (defScope s_slots_to_give) "alive" := Or.inl rfl
theorem lc_slots_to_give_3 : Loc (defScope s_slots_to_give) "alive" := Or.inl rfl
theorem sc_plan : FnScope ["slots", "slot", "times", "number", "kept", "board", "calls", "turn", "one", "saving", "other"] ["slots", "slot", "times"] (defScope s_plan) := ⟨rfl, rfl, rfl, by decide +kernel, rfl, by decide +kernel, by decide +kernel⟩
theorem vs_plan_0 : Vis (defScope s_plan) "slots" := Or.inl rfl
theorem lc_plan_0 : Loc (defScope s_plan) "slots" := Or.inl rfl
theorem vs_plan_1 : Vis (defScope s_plan) "slot" := Or.inl rfl
theorem lc_plan_1 : Loc (defScope s_plan) "slot" := Or.inl rfl
theorem vs_plan_2 : Vis (defScope s_plan) "times" := Or.inl rfl
theorem lc_plan_2 : Loc (defScope s_plan) "times" := Or.inl rfl
theorem vs_plan_3 : Vis (defScope s_plan) "number" := Or.inl rfl
theorem lc_plan_3 : Loc (defScope s_plan) "number" := Or.inl rfl
theorem vs_plan_4 : Vis (defScope s_plan) "kept" := Or.inl rfl
theorem lc_plan_4 : Loc (defScope s_plan) "kept" := Or.inl rfl
theorem vs_plan_5 : Vis (defScope s_plan) "board" := Or.inl rfl
theorem lc_plan_5 : Loc (defScope s_plan) "board" := Or.inl rfl
theorem vs_plan_6 : Vis (defScope s_plan) "calls" := Or.inl rfl
theorem lc_plan_6 : Loc (defScope s_plan) "calls" := Or.inl rfl
theorem vs_plan_7 : Vis (defScope s_plan) "turn" := Or.inl rfl
theorem lc_plan_7 : Loc (defScope s_plan) "turn" := Or.inl rfl
theorem vs_plan_8 : Vis (defScope s_plan) "one" := Or.inl rfl
theorem lc_plan_8 : Loc (defScope s_plan) "one" := Or.inl rfl
theorem sc_is_call : FnScope ["slots", "value"] ["slots", "value"] (defScope s_is_call) := ⟨rfl, rfl, rfl, by decide +kernel, rfl, by decide +kernel, by decide +kernel⟩
theorem vs_is_call_0 : Vis (defScope s_is_call) "slots" := Or.inl rfl
theorem lc_is_call_0 : Loc (defScope s_is_call) "slots" := Or.inl rfl
theorem vs_is_call_1 : Vis (defScope s_is_call) "value" := Or.inl rfl
theorem lc_is_call_1 : Loc (defScope s_is_call) "value" := Or.inl rfl
theorem sc_is_done : FnScope ["board", "call", "handle"] ["board", "call"] (defScope s_is_done) := ⟨rfl, rfl, rfl, by decide +kernel, rfl, by decide +kernel, by decide +kernel⟩
theorem vs_is_done_0 : Vis (defScope s_is_done) "board" := Or.inl rfl
theorem lc_is_done_0 : Loc (defScope s_is_done) "board" := Or.inl rfl
theorem vs_is_done_1 : Vis (defScope s_is_done) "call" := Or.inl rfl
theorem lc_is_done_1 : Loc (defScope s_is_done) "call" := Or.inl rfl
theorem vs_is_done_2 : Vis (defScope s_is_done) "handle" := Or.inl rfl
theorem lc_is_done_2 : Loc (defScope s_is_done) "handle" := Or.inl rfl
theorem sc_judge_plan : FnScope ["slots", "slot", "times", "told", "number", "call", "board"] ["slots", "slot", "times", "told"] (defScope s_judge_plan) := ⟨rfl, rfl, rfl, by decide +kernel, rfl, by decide +kernel, by decide +kernel⟩
theorem vs_judge_plan_0 : Vis (defScope s_judge_plan) "slots" := Or.inr (Or.inl rfl)
theorem lc_judge_plan_0 : Loc (defScope s_judge_plan) "slots" := Or.inr rfl
theorem vs_judge_plan_1 : Vis (defScope s_judge_plan) "slot" := Or.inl rfl
theorem lc_judge_plan_1 : Loc (defScope s_judge_plan) "slot" := Or.inl rfl
theorem vs_judge_plan_2 : Vis (defScope s_judge_plan) "times" := Or.inl rfl
theorem lc_judge_plan_2 : Loc (defScope s_judge_plan) "times" := Or.inl rfl
theorem vs_judge_plan_3 : Vis (defScope s_judge_plan) "told" := Or.inl rfl
theorem lc_judge_plan_3 : Loc (defScope s_judge_plan) "told" := Or.inl rfl
theorem vs_judge_plan_4 : Vis (defScope s_judge_plan) "number" := Or.inl rfl
theorem lc_judge_plan_4 : Loc (defScope s_judge_plan) "number" := Or.inl rfl
theorem vs_judge_plan_5 : Vis (defScope s_judge_plan) "call" := Or.inl rfl
theorem lc_judge_plan_5 : Loc (defScope s_judge_plan) "call" := Or.inl rfl
theorem vs_judge_plan_6 : Vis (defScope s_judge_plan) "board" := Or.inl rfl
theorem lc_judge_plan_6 : Loc (defScope s_judge_plan) "board" := Or.inl rfl
theorem sc__law_asked : FnScope ["_law_word", "_law_slots", "_law_slot", "_law_times"] ["_law_word", "_law_slots", "_law_slot", "_law_times"] (defScope s__law_asked) := ⟨rfl, rfl, rfl, by decide +kernel, rfl, by decide +kernel, by decide +kernel⟩
theorem vs__law_asked_0 : Vis (defScope s__law_asked) "_law_word" := Or.inl rfl
theorem lc__law_asked_0 : Loc (defScope s__law_asked) "_law_word" := Or.inl rfl
theorem vs__law_asked_1 : Vis (defScope s__law_asked) "_law_slots" := Or.inl rfl
theorem lc__law_asked_1 : Loc (defScope s__law_asked) "_law_slots" := Or.inl rfl
theorem vs__law_asked_2 : Vis (defScope s__law_asked) "_law_slot" := Or.inl rfl
theorem lc__law_asked_2 : Loc (defScope s__law_asked) "_law_slot" := Or.inl rfl
theorem vs__law_asked_3 : Vis (defScope s__law_asked) "_law_times" := Or.inl rfl
theorem lc__law_asked_3 : Loc (defScope s__law_asked) "_law_times" := Or.inl rfl
theorem sc__law_said : FnScope ["_law_word", "_law_slots", "_law_slot", "_law_times", "e", "_law_marks"] ["_law_word", "_law_slots", "_law_slot", "_law_times"] (defScope s__law_said) := ⟨rfl, rfl, rfl, by decide +kernel, rfl, by decide +kernel, by decide +kernel⟩
theorem vs__law_said_0 : Vis (defScope s__law_said) "_law_word" := Or.inl rfl
theorem lc__law_said_0 : Loc (defScope s__law_said) "_law_word" := Or.inl rfl
theorem vs__law_said_1 : Vis (defScope s__law_said) "_law_slots" := Or.inl rfl
theorem lc__law_said_1 : Loc (defScope s__law_said) "_law_slots" := Or.inl rfl
theorem vs__law_said_2 : Vis (defScope s__law_said) "_law_slot" := Or.inl rfl
theorem lc__law_said_2 : Loc (defScope s__law_said) "_law_slot" := Or.inl rfl
theorem vs__law_said_3 : Vis (defScope s__law_said) "_law_times" := Or.inl rfl
theorem lc__law_said_3 : Loc (defScope s__law_said) "_law_times" := Or.inl rfl
theorem vs__law_said_4 : Vis (defScope s__law_said) "e" := Or.inl rfl
theorem lc__law_said_4 : Loc (defScope s__law_said) "e" := Or.inl rfl
theorem vs__law_said_5 : Vis (defScope s__law_said) "_law_marks" := Or.inl rfl
theorem lc__law_said_5 : Loc (defScope s__law_said) "_law_marks" := Or.inl rfl
theorem sc_law : FnScope ["_law_script", "_law_cell", "_law_source", "_law_slots", "_law_kept", "_law_odd_slots", "_law_odd_times", "_law_word", "_law_odd", "_law_times"] ["_law_script"] (defScope s_law) := ⟨rfl, rfl, rfl, by decide +kernel, rfl, by decide +kernel, by decide +kernel⟩
theorem vs_law_0 : Vis (defScope s_law) "_law_script" := Or.inl rfl
theorem lc_law_0 : Loc (defScope s_law) "_law_script" := Or.inl rfl
theorem vs_law_1 : Vis (defScope s_law) "_law_cell" := Or.inl rfl
theorem lc_law_1 : Loc (defScope s_law) "_law_cell" := Or.inl rfl
theorem vs_law_2 : Vis (defScope s_law) "_law_source" := Or.inl rfl
theorem lc_law_2 : Loc (defScope s_law) "_law_source" := Or.inl rfl
theorem vs_law_3 : Vis (defScope s_law) "_law_slots" := Or.inl rfl
theorem lc_law_3 : Loc (defScope s_law) "_law_slots" := Or.inl rfl
theorem vs_law_4 : Vis (defScope s_law) "_law_kept" := Or.inl rfl
theorem lc_law_4 : Loc (defScope s_law) "_law_kept" := Or.inl rfl
theorem vs_law_5 : Vis (defScope s_law) "_law_odd_slots" := Or.inl rfl
theorem lc_law_5 : Loc (defScope s_law) "_law_odd_slots" := Or.inl rfl
theorem vs_law_6 : Vis (defScope s_law) "_law_odd_times" := Or.inl rfl
theorem lc_law_6 : Loc (defScope s_law) "_law_odd_times" := Or.inl rfl
theorem vs_law_7 : Vis (defScope s_law) "_law_word" := Or.inl rfl
theorem lc_law_7 : Loc (defScope s_law) "_law_word" := Or.inl rfl
theorem vs_law_8 : Vis (defScope s_law) "_law_odd" := Or.inl rfl
theorem lc_law_8 : Loc (defScope s_law) "_law_odd" := Or.inl rfl
theorem vs_law_9 : Vis (defScope s_law) "_law_times" := Or.inl rfl
theorem lc_law_9 : Loc (defScope s_law) "_law_times" := Or.inl rfl
structure Txt (K : PySem.W.Frag) (mg : Str → Option Value) where
  z_ValueError : mg "ValueError" = none
  z_all : mg "all" = none
  z_bool : mg "bool" = none
  z_dict : mg "dict" = none
  z_int : mg "int" = none
  z_isinstance : mg "isinstance" = none
  z_len : mg "len" = none
  z_list : mg "list" = none
  z_max : mg "max" = none
  z_min : mg "min" = none
  z_range : mg "range" = none
  z_repr : mg "repr" = none
  z_sorted : mg "sorted" = none
  z_str : mg "str" = none
  z_sum : mg "sum" = none
  z_tuple : mg "tuple" = none
  C_Slots : Addr
  g_Slots : mg "Slots" = some (.ref C_Slots)
  cl_Slots : Cls K C_Slots
  n_Slots_n : NoAttr K C_Slots "n"
  n_Slots_limit : NoAttr K C_Slots "limit"
  n_Slots_generations : NoAttr K C_Slots "generations"
  n_Slots_rule : NoAttr K C_Slots "rule"
  n_Slots_order : NoAttr K C_Slots "order"
  n_Slots_ages : NoAttr K C_Slots "ages"
  n_Slots_taken : NoAttr K C_Slots "taken"
  n_Slots_held : NoAttr K C_Slots "held"
  ne_Slots : PySem.W.findIn K (.ref C_Slots) "__ne__" = some (some (.builtin "object.__ne__"))
  it_Slots : InsTy K C_Slots
  lt_Slots : PySem.W.kitAny K (.ref C_Slots) [.type "list", .type "tuple"] = some false
  C_NoSlot : Addr
  g_NoSlot : mg "NoSlot" = some (.ref C_NoSlot)
  C_NoTimes : Addr
  g_NoTimes : mg "NoTimes" = some (.ref C_NoTimes)
  C_Never : Addr
  g_Never : mg "Never" = some (.ref C_Never)
  C_TooLong : Addr
  g_TooLong : mg "TooLong" = some (.ref C_TooLong)
  C_NoHandle : Addr
  g_NoHandle : mg "NoHandle" = some (.ref C_NoHandle)
  C_SlotError : Addr
  g_SlotError : mg "SlotError" = some (.ref C_SlotError)
  is_NoSlot : XIs K C_NoSlot
  is_NoTimes : XIs K C_NoTimes
  ve_NoSlot : PySem.W.subIn K (.ref C_NoSlot) (.type "ValueError") = some true
  ve_NoTimes : PySem.W.subIn K (.ref C_NoTimes) (.type "ValueError") = some true
  sb_NoSlot_NoSlot : PySem.W.subIn K (.ref C_NoSlot) (.ref C_NoSlot) = some true
  sb_NoSlot_NoTimes : PySem.W.subIn K (.ref C_NoSlot) (.ref C_NoTimes) = some false
  sb_NoSlot_NoHandle : PySem.W.subIn K (.ref C_NoSlot) (.ref C_NoHandle) = some false
  sb_NoSlot_Never : PySem.W.subIn K (.ref C_NoSlot) (.ref C_Never) = some false
  sb_NoSlot_TooLong : PySem.W.subIn K (.ref C_NoSlot) (.ref C_TooLong) = some false
  sb_NoSlot_SlotError : PySem.W.subIn K (.ref C_NoSlot) (.ref C_SlotError) = some true
  sb_NoTimes_NoSlot : PySem.W.subIn K (.ref C_NoTimes) (.ref C_NoSlot) = some false
  sb_NoTimes_NoTimes : PySem.W.subIn K (.ref C_NoTimes) (.ref C_NoTimes) = some true
  sb_NoTimes_NoHandle : PySem.W.subIn K (.ref C_NoTimes) (.ref C_NoHandle) = some false
  sb_NoTimes_Never : PySem.W.subIn K (.ref C_NoTimes) (.ref C_Never) = some false
  sb_NoTimes_TooLong : PySem.W.subIn K (.ref C_NoTimes) (.ref C_TooLong) = some false
  sb_NoTimes_SlotError : PySem.W.subIn K (.ref C_NoTimes) (.ref C_SlotError) = some true
  g_MOST_SLOTS : ∃ t, mg "MOST_SLOTS" = some (.int 64 t)
  g_MOST_GENERATIONS : ∃ t, mg "MOST_GENERATIONS" = some (.int 1000000000 t)
  g_MOST_TIMES : ∃ t, mg "MOST_TIMES" = some (.int 1000000000000 t)
  g_LONGEST_PLAN : ∃ t, mg "LONGEST_PLAN" = some (.int 2000 t)
  g_RULES : ∃ a, mg "RULES" = some (.ref a) ∧ ∀ H, SqT K H a [.str "last", .str "first", .str "lowest", .str "least"]
  f_is_integer : Addr
  fd_is_integer : FuncData
  F_is_integer : Fun K "is_integer" "is_integer" s_is_integer f_is_integer fd_is_integer
  m_is_integer : mg "is_integer" = some (.ref f_is_integer)
  b_is_integer : Binds K fd_is_integer ["value"] []
  f_is_between : Addr
  fd_is_between : FuncData
  F_is_between : Fun K "is_between" "is_between" s_is_between f_is_between fd_is_between
  m_is_between : mg "is_between" = some (.ref f_is_between)
  kb_is_between : KBn K fd_is_between ["value", "low", "high"] 1 ["low", "high"] (fun us ws => us ++ ws) (fun vs zs => vs ++ zs)
  f_is_rule : Addr
  fd_is_rule : FuncData
  F_is_rule : Fun K "is_rule" "is_rule" s_is_rule f_is_rule fd_is_rule
  m_is_rule : mg "is_rule" = some (.ref f_is_rule)
  b_is_rule : Binds K fd_is_rule ["value"] []
  f_check_map : Addr
  fd_check_map : FuncData
  F_check_map : Fun K "check_map" "check_map" s_check_map f_check_map fd_check_map
  m_check_map : mg "check_map" = some (.ref f_check_map)
  b_check_map : Binds K fd_check_map ["n", "limit", "generations", "rule"] []
  f_taking_order : Addr
  fd_taking_order : FuncData
  c_taking_order : Addr
  P_taking_order : Addr
  FC_taking_order : FunC K "taking_order" "taking_order" s_taking_order f_taking_order fd_taking_order c_taking_order
  F_taking_order : Fun K "taking_order" "taking_order" s_taking_order f_taking_order fd_taking_order
  m_taking_order : mg "taking_order" = some (.ref f_taking_order)
  b_taking_order : Binds K fd_taking_order ["rule", "order", "counts"] []
  f_order_behind : Addr
  fd_order_behind : FuncData
  F_order_behind : Fun K "order_behind" "order_behind" s_order_behind f_order_behind fd_order_behind
  m_order_behind : mg "order_behind" = some (.ref f_order_behind)
  b_order_behind : Binds K fd_order_behind ["rule", "order", "slot"] []
  f_Slots___init__ : Addr
  fd_Slots___init__ : FuncData
  F_Slots___init__ : Fun K "__init__" "Slots.__init__" s_Slots___init__ f_Slots___init__ fd_Slots___init__
  mk_Slots : Mk K C_Slots f_Slots___init__
  b_Slots___init__ : Binds K fd_Slots___init__ ["self", "n", "limit", "generations", "rule"] []
  f_Slots_generation_of : Addr
  fd_Slots_generation_of : FuncData
  F_Slots_generation_of : Fun K "generation_of" "Slots.generation_of" s_Slots_generation_of f_Slots_generation_of fd_Slots_generation_of
  mt_Slots_generation_of : Meth K C_Slots "generation_of" f_Slots_generation_of
  b_Slots_generation_of : Binds K fd_Slots_generation_of ["self", "slot"] []
  f_Slots___len__ : Addr
  fd_Slots___len__ : FuncData
  F_Slots___len__ : Fun K "__len__" "Slots.__len__" s_Slots___len__ f_Slots___len__ fd_Slots___len__
  mt_Slots___len__ : Meth K C_Slots "__len__" f_Slots___len__
  b_Slots___len__ : Binds K fd_Slots___len__ ["self"] []
  f_Slots_counts : Addr
  fd_Slots_counts : FuncData
  F_Slots_counts : Fun K "counts" "Slots.counts" s_Slots_counts f_Slots_counts fd_Slots_counts
  mt_Slots_counts : Meth K C_Slots "counts" f_Slots_counts
  b_Slots_counts : Binds K fd_Slots_counts ["self"] []
  f_Slots_live : Addr
  fd_Slots_live : FuncData
  F_Slots_live : Fun K "live" "Slots.live" s_Slots_live f_Slots_live fd_Slots_live
  mt_Slots_live : Meth K C_Slots "live" f_Slots_live
  b_Slots_live : Binds K fd_Slots_live ["self"] []
  f_Slots_free : Addr
  fd_Slots_free : FuncData
  F_Slots_free : Fun K "free" "Slots.free" s_Slots_free f_Slots_free fd_Slots_free
  mt_Slots_free : Meth K C_Slots "free" f_Slots_free
  b_Slots_free : Binds K fd_Slots_free ["self"] []
  f_Slots___contains__ : Addr
  fd_Slots___contains__ : FuncData
  F_Slots___contains__ : Fun K "__contains__" "Slots.__contains__" s_Slots___contains__ f_Slots___contains__ fd_Slots___contains__
  mt_Slots___contains__ : Meth K C_Slots "__contains__" f_Slots___contains__
  b_Slots___contains__ : Binds K fd_Slots___contains__ ["self", "handle"] []
  f_Slots_check_handle : Addr
  fd_Slots_check_handle : FuncData
  F_Slots_check_handle : Fun K "check_handle" "Slots.check_handle" s_Slots_check_handle f_Slots_check_handle fd_Slots_check_handle
  mt_Slots_check_handle : Meth K C_Slots "check_handle" f_Slots_check_handle
  b_Slots_check_handle : Binds K fd_Slots_check_handle ["self", "handle"] []
  f_Slots___getitem__ : Addr
  fd_Slots___getitem__ : FuncData
  F_Slots___getitem__ : Fun K "__getitem__" "Slots.__getitem__" s_Slots___getitem__ f_Slots___getitem__ fd_Slots___getitem__
  mt_Slots___getitem__ : Meth K C_Slots "__getitem__" f_Slots___getitem__
  b_Slots___getitem__ : Binds K fd_Slots___getitem__ ["self", "handle"] []
  f_Slots_take : Addr
  fd_Slots_take : FuncData
  F_Slots_take : Fun K "take" "Slots.take" s_Slots_take f_Slots_take fd_Slots_take
  mt_Slots_take : Meth K C_Slots "take" f_Slots_take
  b_Slots_take : Binds K fd_Slots_take ["self", "value"] []
  f_Slots_give : Addr
  fd_Slots_give : FuncData
  F_Slots_give : Fun K "give" "Slots.give" s_Slots_give f_Slots_give fd_Slots_give
  mt_Slots_give : Meth K C_Slots "give" f_Slots_give
  b_Slots_give : Binds K fd_Slots_give ["self", "handle"] []
  f_Slots_copy : Addr
  fd_Slots_copy : FuncData
  F_Slots_copy : Fun K "copy" "Slots.copy" s_Slots_copy f_Slots_copy fd_Slots_copy
  mt_Slots_copy : Meth K C_Slots "copy" f_Slots_copy
  b_Slots_copy : Binds K fd_Slots_copy ["self"] []
  f_Slots_arguments : Addr
  fd_Slots_arguments : FuncData
  F_Slots_arguments : Fun K "arguments" "Slots.arguments" s_Slots_arguments f_Slots_arguments fd_Slots_arguments
  mt_Slots_arguments : Meth K C_Slots "arguments" f_Slots_arguments
  b_Slots_arguments : Binds K fd_Slots_arguments ["self"] []
  f_Slots_state : Addr
  fd_Slots_state : FuncData
  F_Slots_state : Fun K "state" "Slots.state" s_Slots_state f_Slots_state fd_Slots_state
  mt_Slots_state : Meth K C_Slots "state" f_Slots_state
  b_Slots_state : Binds K fd_Slots_state ["self"] []
  f_Slots___eq__ : Addr
  fd_Slots___eq__ : FuncData
  F_Slots___eq__ : Fun K "__eq__" "Slots.__eq__" s_Slots___eq__ f_Slots___eq__ fd_Slots___eq__
  mt_Slots___eq__ : Meth K C_Slots "__eq__" f_Slots___eq__
  b_Slots___eq__ : Binds K fd_Slots___eq__ ["self", "other"] []
  f__law_cell_at : Addr
  fd__law_cell_at : FuncData
  F__law_cell_at : Fun K "_law_cell_at" "_law_cell_at" s__law_cell_at f__law_cell_at fd__law_cell_at
  m__law_cell_at : mg "_law_cell_at" = some (.ref f__law_cell_at)
  b__law_cell_at : Binds K fd__law_cell_at ["_law_script", "_law_k"] []
  f__law_source_of : Addr
  fd__law_source_of : FuncData
  F__law_source_of : Fun K "_law_source_of" "_law_source_of" s__law_source_of f__law_source_of fd__law_source_of
  m__law_source_of : mg "_law_source_of" = some (.ref f__law_source_of)
  b__law_source_of : Binds K fd__law_source_of ["_law_cell"] []
  f__law_next : Addr
  fd__law_next : FuncData
  F__law_next : Fun K "_law_next" "_law_next" s__law_next f__law_next fd__law_next
  m__law_next : mg "_law_next" = some (.ref f__law_next)
  b__law_next : Binds K fd__law_next ["_law_source", "_law_many"] []
  f__law_one : Addr
  fd__law_one : FuncData
  F__law_one : Fun K "_law_one" "_law_one" s__law_one f__law_one fd__law_one
  m__law_one : mg "_law_one" = some (.ref f__law_one)
  b__law_one : Binds K fd__law_one ["_law_source", "_law_some"] []
  f__law_numbers : Addr
  fd__law_numbers : FuncData
  F__law_numbers : Fun K "_law_numbers" "_law_numbers" s__law_numbers f__law_numbers fd__law_numbers
  m__law_numbers : mg "_law_numbers" = some (.ref f__law_numbers)
  b__law_numbers : Binds K fd__law_numbers ["_law_source", "_law_most"] []
  f__law_deeds : Addr
  fd__law_deeds : FuncData
  F__law_deeds : Fun K "_law_deeds" "_law_deeds" s__law_deeds f__law_deeds fd__law_deeds
  m__law_deeds : mg "_law_deeds" = some (.ref f__law_deeds)
  b__law_deeds : Binds K fd__law_deeds ["_law_source", "_law_limit", "_law_many"] []
  f__law_execute : Addr
  fd__law_execute : FuncData
  F__law_execute : Fun K "_law_execute" "_law_execute" s__law_execute f__law_execute fd__law_execute
  m__law_execute : mg "_law_execute" = some (.ref f__law_execute)
  b__law_execute : Binds K fd__law_execute ["_law_slots", "_law_deeds_here", "_law_values"] []
  f_least_for_last : Addr
  fd_least_for_last : FuncData
  F_least_for_last : Fun K "least_for_last" "least_for_last" s_least_for_last f_least_for_last fd_least_for_last
  m_least_for_last : mg "least_for_last" = some (.ref f_least_for_last)
  b_least_for_last : Binds K fd_least_for_last ["slots", "slot", "times"] []
  f_least_for_lowest : Addr
  fd_least_for_lowest : FuncData
  F_least_for_lowest : Fun K "least_for_lowest" "least_for_lowest" s_least_for_lowest f_least_for_lowest fd_least_for_lowest
  m_least_for_lowest : mg "least_for_lowest" = some (.ref f_least_for_lowest)
  b_least_for_lowest : Binds K fd_least_for_lowest ["slots", "slot", "times"] []
  f_least_for_first : Addr
  fd_least_for_first : FuncData
  F_least_for_first : Fun K "least_for_first" "least_for_first" s_least_for_first f_least_for_first fd_least_for_first
  m_least_for_first : mg "least_for_first" = some (.ref f_least_for_first)
  b_least_for_first : Binds K fd_least_for_first ["slots", "slot", "times"] []
  f_is_slot : Addr
  fd_is_slot : FuncData
  F_is_slot : Fun K "is_slot" "is_slot" s_is_slot f_is_slot fd_is_slot
  m_is_slot : mg "is_slot" = some (.ref f_is_slot)
  b_is_slot : Binds K fd_is_slot ["slots", "value"] []
  f_NoSlot___init__ : Addr
  fd_NoSlot___init__ : FuncData
  F_NoSlot___init__ : Fun K "__init__" "NoSlot.__init__" s_NoSlot___init__ f_NoSlot___init__ fd_NoSlot___init__
  b_NoSlot___init__ : Binds K fd_NoSlot___init__ ["self", "slot"] []
  f_NoTimes___init__ : Addr
  fd_NoTimes___init__ : FuncData
  F_NoTimes___init__ : Fun K "__init__" "NoTimes.__init__" s_NoTimes___init__ f_NoTimes___init__ fd_NoTimes___init__
  b_NoTimes___init__ : Binds K fd_NoTimes___init__ ["self", "times"] []
  f_check_question : Addr
  fd_check_question : FuncData
  F_check_question : Fun K "check_question" "check_question" s_check_question f_check_question fd_check_question
  m_check_question : mg "check_question" = some (.ref f_check_question)
  b_check_question : Binds K fd_check_question ["slots", "slot", "times"] []
  f_shortages : Addr
  fd_shortages : FuncData
  F_shortages : Fun K "shortages" "shortages" s_shortages f_shortages fd_shortages
  m_shortages : mg "shortages" = some (.ref f_shortages)
  b_shortages : Binds K fd_shortages ["slots", "slot", "times"] []
  f_savings : Addr
  fd_savings : FuncData
  F_savings : Fun K "savings" "savings" s_savings f_savings fd_savings
  m_savings : mg "savings" = some (.ref f_savings)
  b_savings : Binds K fd_savings ["slots", "slot", "times"] []
  f_least_for_least : Addr
  fd_least_for_least : FuncData
  F_least_for_least : Fun K "least_for_least" "least_for_least" s_least_for_least f_least_for_least fd_least_for_least
  m_least_for_least : mg "least_for_least" = some (.ref f_least_for_least)
  b_least_for_least : Binds K fd_least_for_least ["slots", "slot", "times"] []
  f_least_number : Addr
  fd_least_number : FuncData
  F_least_number : Fun K "least_number" "least_number" s_least_number f_least_number fd_least_number
  m_least_number : mg "least_number" = some (.ref f_least_number)
  b_least_number : Binds K fd_least_number ["slots", "slot", "times"] []
  f_least : Addr
  fd_least : FuncData
  F_least : Fun K "least" "least" s_least f_least fd_least
  m_least : mg "least" = some (.ref f_least)
  b_least : Binds K fd_least ["slots", "slot", "times"] []
  f__law_map : Addr
  fd__law_map : FuncData
  F__law_map : Fun K "_law_map" "_law_map" s__law_map f__law_map fd__law_map
  m__law_map : mg "_law_map" = some (.ref f__law_map)
  b__law_map : Binds K fd__law_map ["_law_source", "_law_most"] []
  f_TooLong___init__ : Addr
  fd_TooLong___init__ : FuncData
  F_TooLong___init__ : Fun K "__init__" "TooLong.__init__" s_TooLong___init__ f_TooLong___init__ fd_TooLong___init__
  b_TooLong___init__ : Binds K fd_TooLong___init__ ["self", "number"] []
  f_handle_of : Addr
  fd_handle_of : FuncData
  F_handle_of : Fun K "handle_of" "handle_of" s_handle_of f_handle_of fd_handle_of
  m_handle_of : mg "handle_of" = some (.ref f_handle_of)
  b_handle_of : Binds K fd_handle_of ["slots", "slot"] []
  f_slots_to_give : Addr
  fd_slots_to_give : FuncData
  F_slots_to_give : Fun K "slots_to_give" "slots_to_give" s_slots_to_give f_slots_to_give fd_slots_to_give
  m_slots_to_give : mg "slots_to_give" = some (.ref f_slots_to_give)
  b_slots_to_give : Binds K fd_slots_to_give ["board", "slot", "kept"] []
  f_plan : Addr
  fd_plan : FuncData
  F_plan : Fun K "plan" "plan" s_plan f_plan fd_plan
  m_plan : mg "plan" = some (.ref f_plan)
  b_plan : Binds K fd_plan ["slots", "slot", "times"] []
  f_is_call : Addr
  fd_is_call : FuncData
  F_is_call : Fun K "is_call" "is_call" s_is_call f_is_call fd_is_call
  m_is_call : mg "is_call" = some (.ref f_is_call)
  b_is_call : Binds K fd_is_call ["slots", "value"] []
  f_is_done : Addr
  fd_is_done : FuncData
  F_is_done : Fun K "is_done" "is_done" s_is_done f_is_done fd_is_done
  m_is_done : mg "is_done" = some (.ref f_is_done)
  b_is_done : Binds K fd_is_done ["board", "call"] []
  f_judge_plan : Addr
  fd_judge_plan : FuncData
  F_judge_plan : Fun K "judge_plan" "judge_plan" s_judge_plan f_judge_plan fd_judge_plan
  m_judge_plan : mg "judge_plan" = some (.ref f_judge_plan)
  b_judge_plan : Binds K fd_judge_plan ["slots", "slot", "times", "told"] []
  f__law_asked : Addr
  fd__law_asked : FuncData
  F__law_asked : Fun K "_law_asked" "_law_asked" s__law_asked f__law_asked fd__law_asked
  m__law_asked : mg "_law_asked" = some (.ref f__law_asked)
  b__law_asked : Binds K fd__law_asked ["_law_word", "_law_slots", "_law_slot", "_law_times"] []
  f__law_said : Addr
  fd__law_said : FuncData
  F__law_said : Fun K "_law_said" "_law_said" s__law_said f__law_said fd__law_said
  m__law_said : mg "_law_said" = some (.ref f__law_said)
  b__law_said : Binds K fd__law_said ["_law_word", "_law_slots", "_law_slot", "_law_times"] []
  f_law : Addr
  fd_law : FuncData
  F_law : Fun K "law" "law" s_law f_law fd_law
  m_law : mg "law" = some (.ref f_law)
  b_law : Binds K fd_law ["_law_script"] []
  x_NoSlot : XCls1 K C_NoSlot f_NoSlot___init__ "slot"
  x_NoTimes : XCls1 K C_NoTimes f_NoTimes___init__ "times"
  x_Never : XCls0 K C_Never
  x_TooLong : XCls1 K C_TooLong f_TooLong___init__ "number"
  x_NoHandle : XCls K C_NoHandle
  x_SlotError : XCls K C_SlotError
  nP : [P_taking_order].Nodup
abbrev Txt.tabs {K : PySem.W.Frag} {mg : Str → Option Value} (T : Txt K mg) : List (Addr × Str) := [(T.P_taking_order, "taking_order.<locals>.<lambda>")]
abbrev Txt.codes {K : PySem.W.Frag} {mg : Str → Option Value} (T : Txt K mg) : List (Addr × Addr) := [(T.c_taking_order, T.P_taking_order)]
def TBs {K : PySem.W.Frag} {mg : Str → Option Value} (T : Txt K mg) (base : Heap) : Prop := ∀ q ∈ T.codes, LamX.TabB base mg q.1 q.2
theorem Txt.tb_taking_order {K : PySem.W.Frag} {mg : Str → Option Value} {T : Txt K mg} {base : Heap} (h : TBs T base) : LamX.TabB base mg T.c_taking_order T.P_taking_order := h (T.c_taking_order, T.P_taking_order) (by simp [Txt.codes])
theorem Txt.mem_taking_order {K : PySem.W.Frag} {mg : Str → Option Value} (T : Txt K mg) : (T.P_taking_order, ("taking_order.<locals>.<lambda>" : Str)) ∈ T.tabs := by simp [Txt.tabs]
theorem Txt.one_taking_order {K : PySem.W.Frag} {mg : Str → Option Value} (T : Txt K mg) : ∀ q ∈ T.tabs, q.1 = T.P_taking_order → q.2 = ("taking_order.<locals>.<lambda>" : Str) := by
  intro q hq e
  have n := T.nP
  simp only [Txt.tabs, List.mem_cons, List.not_mem_nil, or_false] at hq
  simp only [List.nodup_cons, List.mem_cons, List.not_mem_nil, or_false, not_or] at n
  rcases hq with rfl <;> first | rfl | (exfalso; simp only at e; grind)
section
variable {P : Program} {w : World} {K : PySem.W.Frag} {mg : Str → Option Value} {base : Heap}
theorem ok_is_integer (T : Txt K mg) (TB : TBs T base) : FnOk P w K mg base CX0 1 T.f_is_integer T.fd_is_integer ["value"] (spIsInt K) := by
  refine T.F_is_integer.ok sc_is_integer (fun vs H Q E h => ?_) (fun cdv A outer s H vs Q E hr h => ?_)
  · obtain ⟨v, t, rfl, _⟩ := h; rfl
  · obtain ⟨v, t, rfl, kn, k⟩ := h
    refine ⟨_, (pss_one (ps_ret (pe_and (pe_callB (isiK (K := K)) (by rfl) T.z_isinstance (by decide +kernel) (pa_cons (pv 0 rfl vs_is_integer_0) (pa_cons (pe_ty (n := "int") (by rfl) T.z_int (by decide +kernel)) pa_nil))) (pe_one (pe_not (pe_callB (isiK (K := K)) (by rfl) T.z_isinstance (by decide +kernel) (pa_cons (pv 0 rfl vs_is_integer_0) (pa_cons (pe_ty (n := "bool") (by rfl) T.z_bool (by decide +kernel)) pa_nil)))))))), ?_⟩
    walk_at "go"
    cases kn <;> (walk_at "rd"; exact k)

theorem ok_is_between (T : Txt K mg) (TB : TBs T base) : FnOk P w K mg base CX0 2 T.f_is_between T.fd_is_between ["value", "low", "high"] (spBetween K) := by
  refine T.F_is_between.ok sc_is_between (fun vs H Q E h => ?_) (fun cdv A outer s H vs Q E hr h => ?_)
  · obtain ⟨v, t, lo, hi, rfl, _⟩ := h; rfl
  · obtain ⟨v, t, lo, hi, rfl, kn, k⟩ := h
    refine ⟨_, (pss_one (ps_ret (pe_and (pe_call (ok_is_integer T TB) (hr.mono (by decide)) rfl T.m_is_integer T.F_is_integer.kp T.b_is_integer .nil pass0 (pa_cons (pv 0 rfl vs_is_between_0) pa_nil)) (pe_one (pe_chain op_le op_le (pv 1 rfl vs_is_between_1) (pv 0 rfl vs_is_between_0) (pv 2 rfl vs_is_between_2)))))), ?_⟩
    walk_at "go"
    walk_at "rd"
    refine ⟨v, t, rfl, kn, ?_⟩
    cases v with
    | int i =>
      refine ⟨_, rfl, if_T (b := isInt (.int i)) rfl ?_⟩
      walk_at "rd"
      by_cases h1 : lo ≤ i
      · refine if_T (decide_eq_true h1) ?_
        walk_at "rd"
        have e : inBnd lo hi (.int i) = decide (i ≤ hi) := by simp [inBnd, h1]
        rw [e] at k
        exact k
      · refine if_F (decide_eq_false h1) ?_
        have e : inBnd lo hi (.int i) = false := by simp [inBnd, h1]
        rw [e] at k
        exact k
    | _ => exact ⟨_, rfl, if_F (b := isInt _) rfl k⟩

theorem ok_is_rule (T : Txt K mg) (TB : TBs T base) : FnOk P w K mg base CX0 1 T.f_is_rule T.fd_is_rule ["value"] (spIsRule K) := by
  refine T.F_is_rule.ok sc_is_rule (fun vs H Q E h => ?_) (fun cdv A outer s H vs Q E hr h => ?_)
  · obtain ⟨v, t, rfl, _⟩ := h; rfl
  · obtain ⟨v, t, rfl, kn, k⟩ := h
    refine ⟨_, (pss_one (ps_ret (pe_and (pe_callB (isiK (K := K)) (by rfl) T.z_isinstance (by decide +kernel) (pa_cons (pv 0 rfl vs_is_rule_0) (pa_cons (pe_ty (n := "str") (by rfl) T.z_str (by decide +kernel)) pa_nil))) (pe_one (pe_cmpR (inK (K := K)) (pv 0 rfl vs_is_rule_0) (pe_gt rfl T.g_RULES) (by rfl)))))), ?_⟩
    walk_at "go"
    cases kn with
    | str x =>
      walk_at "rd"
      intro a ha
      exact r_inT ha rfl (by decide) k
    | _ => walk_at "rd"; exact k

theorem inBnd_of {lo hi i : Int} (h1 : lo ≤ i) (h2 : i ≤ hi) : inBnd lo hi (.int i) = true := by simp [inBnd, h1, h2]
theorem isRl_s (r : Rl) : isRl (.str r.s) = true := by cases r <;> decide +kernel
theorem ok_check_map (T : Txt K mg) (TB : TBs T base) : FnOk P w K mg base CX0 3 T.f_check_map T.fd_check_map ["n", "limit", "generations", "rule"] spCheck := by
  refine T.F_check_map.ok sc_check_map (fun vs H Q E h => ?_) (fun cdv A outer s H vs Q E hr h => ?_)
  · obtain ⟨n, l, g, r, rfl, _⟩ := h; rfl
  · obtain ⟨n, l, g, r, rfl, ⟨h1, h2, h3, h4, h5, h6⟩, k⟩ := h
    refine ⟨_, (pss_cons (ps_if (pt_not (pt_val (pe_callN (ok_is_between T TB) (hr.mono (by decide)) rfl T.m_is_between T.F_is_between.kp T.kb_is_between pass0 (pa_cons (pv 0 rfl vs_check_map_0) pa_nil) (pk_cons pe_int (pk_cons (pe_gk rfl T.g_MOST_SLOTS) pk_nil))))) (pss_one ps_never) pss_nil)
  (pss_cons (ps_if (pt_not (pt_val (pe_callN (ok_is_between T TB) (hr.mono (by decide)) rfl T.m_is_between T.F_is_between.kp T.kb_is_between pass0 (pa_cons (pv 1 rfl vs_check_map_1) pa_nil) (pk_cons pe_int (pk_cons (pv 0 rfl vs_check_map_0) pk_nil))))) (pss_one ps_never) pss_nil)
  (pss_cons (ps_if (pt_not (pt_val (pe_callN (ok_is_between T TB) (hr.mono (by decide)) rfl T.m_is_between T.F_is_between.kp T.kb_is_between pass0 (pa_cons (pv 2 rfl vs_check_map_2) pa_nil) (pk_cons pe_int (pk_cons (pe_gk rfl T.g_MOST_GENERATIONS) pk_nil))))) (pss_one ps_never) pss_nil)
  (pss_one (ps_if (pt_not (pt_val (pe_call (ok_is_rule T TB) (hr.mono (by decide)) rfl T.m_is_rule T.F_is_rule.kp T.b_is_rule .nil pass0 (pa_cons (pv 3 rfl vs_check_map_3) pa_nil)))) (pss_one ps_never) pss_nil))))), ?_⟩
    walk_at "go"
    walk_at "rd"
    refine ⟨rfl, rfl, _, _, _, _, rfl, .int n, ?_⟩
    rw [inBnd_of h1 h2]
    walk_at "rd"
    refine ⟨rfl, rfl, _, _, _, _, rfl, .int l, ?_⟩
    rw [inBnd_of h3 h4]
    walk_at "rd"
    refine ⟨rfl, rfl, _, _, _, _, rfl, .int g, ?_⟩
    rw [inBnd_of h5 h6]
    walk_at "rd"
    refine ⟨_, _, rfl, .str _, ?_⟩
    rw [isRl_s]
    walk_at "rd"
    exact k

def spOrd (Tb : List (Addr × Str)) (K : PySem.W.Frag) : Sp := fun vs H Q _ => ∃ (r : Rl) (lo lt : Addr) (o t : List Nat), vs = [.str r.s, .ref lo, .ref lt] ∧ SqL K H lo (iv o) ∧ SqL K H lt (iv t) ∧ (∀ x ∈ o, x < t.length) ∧ LamX.Tabs Tb H ∧
  ∀ (q : Addr) (H' : Hp), New H q → H' q = some (.lst (iv (takeOrd r o t))) → Out Nil H H' → LamX.Tabs Tb H' → Q (.ref q) H'
theorem ok_taking_order (T : Txt K mg) (TB : TBs T base) : FnOk P w K mg base CX0 3 T.f_taking_order T.fd_taking_order ["rule", "order", "counts"] (spOrd T.tabs K) := by
  refine T.FC_taking_order.ok sc_taking_order (fun vs H Q E h => ?_) (fun cdv A outer s H vs Q E hr h => ?_)
  · obtain ⟨r, lo, lt, o, t, rfl, _⟩ := h; rfl
  · obtain ⟨r, lo, lt, o, t, rfl, ho, ht, hlt, hT, k⟩ := h
    refine ⟨_, (pss_cons (ps_if (pt_cmpR op_eq (pv 0 rfl vs_taking_order_0) pe_str (nomark _)) (pss_one (ps_ret (pe_callB (sortedK (K := K)) (by rfl) T.z_sorted (by decide +kernel) (pa_cons (pv 1 rfl vs_taking_order_1) pa_nil)))) pss_nil)
  (pss_cons (ps_if (pt_cmpR op_eq (pv 0 rfl vs_taking_order_0) pe_str (nomark _)) (pss_one (ps_ret (pe_sortLam (T := T.tabs) (j := 2) (xn := "slot") (C := "counts") (gk := fun z => z) rfl T.z_sorted (pv 1 rfl vs_taking_order_1) (Txt.tb_taking_order TB) rfl (Txt.mem_taking_order T) (Txt.one_taking_order T) (hr.mono (by decide)) rfl rfl keyIs_item rfl rfl rfl (by decide +kernel) (by decide +kernel) rfl rfl (fun cells cc h => by first | exact cloFrom1 h | simp [cloFrom, h]) rfl (fun _ _ _ _ _ _ => rfl) (fun _ => rfl)))) pss_nil)
  (pss_one (ps_ret (pe_callTy (c_list (K := K)) (by rfl) T.z_list (by decide +kernel) (pa_cons (pv 1 rfl vs_taking_order_1) pa_nil)))))), ?_⟩
    walk_at "go"
    walk_at "rd"
    cases r
    · refine if_F (decide_eq_false (by decide +kernel)) ?_
      walk_at "rd"
      refine if_F (decide_eq_false (by decide +kernel)) ?_
      walk_at "rd"
      exact r_listl ho fun q hq => k q _ (.of hq) upd_same ((Out.refl H).fresh hq) (tabs_new hT hq)
    · refine if_F (decide_eq_false (by decide +kernel)) ?_
      walk_at "rd"
      refine if_F (decide_eq_false (by decide +kernel)) ?_
      walk_at "rd"
      exact r_listl ho fun q hq => k q _ (.of hq) upd_same ((Out.refl H).fresh hq) (tabs_new hT hq)
    · refine if_T (decide_eq_true (by decide +kernel)) ?_
      walk_at "rd"
      refine ⟨lo, ci o, rfl, ho, fun ns' q hp hs hq => k q _ (.of hq) ?_ ((Out.refl H).fresh hq) (tabs_new hT hq)⟩
      rw [upd_same, sorted_ci hp hs]; rfl
    · refine if_F (decide_eq_false (by decide +kernel)) ?_
      walk_at "rd"
      refine if_T (decide_eq_true (by decide +kernel)) ?_
      walk_at "rd"
      refine r_var rfl ?_
      refine ⟨lo, lt, o, ci t, rfl, by rw [iv_map] at ho; exact ho, rfl, ht, fun n hn => by rw [ci_len]; exact hlt n hn, hT, fun H2 q e2 T2 hq => ?_⟩
      refine k q _ (New.back (.of hq) (.ext e2)) ?_ ((Out.ext e2).fresh hq) (tabs_new T2 hq)
      rw [upd_same, ← iv_map]; rfl

def spBehind : Sp := fun vs H Q _ => ∃ (r : Rl) (lo : Addr) (o : List Nat) (s : Nat), vs = [.str r.s, .ref lo, .int s] ∧ H lo = some (.lst (iv o)) ∧ o.length ≤ 64 ∧
  ∀ (q : Addr) (H' : Hp), H q = none → H' q = some (.lst (iv (behind r o s))) → Same H H' → Q (.ref q) H'
theorem ok_order_behind (T : Txt K mg) (TB : TBs T base) : FnOk P w K mg base CX0 1 T.f_order_behind T.fd_order_behind ["rule", "order", "slot"] spBehind := by
  refine T.F_order_behind.ok sc_order_behind (fun vs H Q E h => ?_) (fun cdv A outer s H vs Q E hr h => ?_)
  · obtain ⟨r, lo, o, s, rfl, _⟩ := h; rfl
  · obtain ⟨r, lo, o, s, rfl, ho, hl, k⟩ := h
    refine ⟨_, (pss_one (ps_ret (pe_ifExp (pt_cmpR op_eq (pv 0 rfl vs_order_behind_0) pe_str (nomark _)) (pe_op op_cat (pe_lst (pa_cons (pv 2 rfl vs_order_behind_2) pa_nil)) (pv 1 rfl vs_order_behind_1)) (pe_op op_cat (pv 1 rfl vs_order_behind_1) (pe_lst (pa_cons (pv 2 rfl vs_order_behind_2) pa_nil)))))), ?_⟩
    walk_at "go"
    walk_at "rd"
    by_cases e : r = .last
    · subst e
      refine if_T (decide_eq_true (by decide +kernel)) ?_
      walk_at "rd"
      intro p hp
      walk_at "rd"
      have s1 : Same H (upd H p (.lst [.int s])) := Same.upd (Same.refl H) hp
      exact r_cat upd_same (s1 _ _ ho) (by rw [iv_len]; simp; omega) fun q hq => k q _ (s1.free hq) upd_same (s1.upd hq)
    · refine if_F (decide_eq_false (by revert e; cases r <;> decide +kernel)) ?_
      walk_at "rd"
      intro p hp
      walk_at "rd"
      have s1 : Same H (upd H p (.lst [.int s])) := Same.upd (Same.refl H) hp
      refine r_cat (s1 _ _ ho) upd_same (by rw [iv_len]; simp; omega) fun q hq => k q _ (s1.free hq) ?_ (s1.upd hq)
      rw [upd_same]
      have e2 : behind r o s = o ++ [s] := by revert e; cases r <;> simp [behind]
      rw [e2]
      simp [iv, ci]

def spInit (C : Addr) (Tb : List (Addr × Str)) : Sp := fun vs H Q _ => ∃ (p dx : Addr) (n l g : Nat) (r : Rl), vs = [.ref p, .int n, .int l, .int g, .str r.s] ∧ H p = some (.ins C dx []) ∧ Args n l g ∧ LamX.Tabs Tb H ∧
  ∀ (H' : Hp) (F : Addr → Prop), Sl C H' p (SM.new n l g r) F → (∀ b, F b → b = p ∨ New H b) → Out (fun b => b = p) H H' → LamX.Tabs Tb H' → Q .non H'
theorem ok_Slots___init__ (T : Txt K mg) (TB : TBs T base) : FnOk P w K mg base CX0 4 T.f_Slots___init__ T.fd_Slots___init__ ["self", "n", "limit", "generations", "rule"] (spInit T.C_Slots T.tabs) := by
  refine T.F_Slots___init__.ok sc_Slots___init__ (fun vs H Q E h => ?_) (fun cdv A outer s H vs Q E hr h => ?_)
  · obtain ⟨p, dx, n, l, g, r, rfl, _⟩ := h; rfl
  · obtain ⟨p, dx, n, l, g, r, rfl, hp, ar, hT, k⟩ := h
    refine ⟨_, (pss_cons (ps_expr (pe_call (ok_check_map T TB) (hr.mono (by decide)) rfl T.m_check_map T.F_check_map.kp T.b_check_map .nil pass0 (pa_cons (pv 1 rfl vs_Slots___init___1) (pa_cons (pv 2 rfl vs_Slots___init___2) (pa_cons (pv 3 rfl vs_Slots___init___3) (pa_cons (pv 4 rfl vs_Slots___init___4) pa_nil))))))
  (pss_cons (ps_fld (pv 0 rfl vs_Slots___init___0) (pv 1 rfl vs_Slots___init___1) rfl)
  (pss_cons (ps_fld (pv 0 rfl vs_Slots___init___0) (pv 2 rfl vs_Slots___init___2) rfl)
  (pss_cons (ps_fld (pv 0 rfl vs_Slots___init___0) (pv 3 rfl vs_Slots___init___3) rfl)
  (pss_cons (ps_fld (pv 0 rfl vs_Slots___init___0) (pv 4 rfl vs_Slots___init___4) rfl)
  (pss_cons (ps_fld (pv 0 rfl vs_Slots___init___0) (pe_listRg rfl rfl T.z_list (prg_1 rfl T.z_range (pv 1 rfl vs_Slots___init___1))) rfl)
  (pss_cons (ps_fld (pv 0 rfl vs_Slots___init___0) (pe_lst pa_nil) rfl)
  (pss_cons (ps_fld (pv 0 rfl vs_Slots___init___0) (pe_op op_rep (pe_lst (pa_cons pe_int pa_nil)) (pv 1 rfl vs_Slots___init___1)) rfl)
  (pss_one (ps_fld (pv 0 rfl vs_Slots___init___0) pe_dnewK rfl)))))))))), ?_⟩
    have cl := T.cl_Slots
    have n1 := T.n_Slots_n
    have n2 := T.n_Slots_limit
    have n3 := T.n_Slots_generations
    have n4 := T.n_Slots_rule
    have n5 := T.n_Slots_order
    have n6 := T.n_Slots_ages
    have n7 := T.n_Slots_taken
    have n8 := T.n_Slots_held
    walk_at "go"
    walk_at "rd"
    refine ⟨n, l, g, r, rfl, ar, ?_⟩
    walk_at "rd"
    have a1 := ar.n1
    have a2 := ar.n2
    refine ⟨.of_le (by omega) (by omega) (by omega) (by omega), fun lo hlo => ?_⟩
    simp only [upd_upd] at hlo ⊢
    generalize hH4 : upd H p _ = H4 at hlo ⊢
    have h4 : H4 p = some (.ins T.C_Slots dx [("n", .int n), ("limit", .int l), ("generations", .int g), ("rule", .str r.s)]) := by rw [← hH4, upd_same]; rfl
    have o4 : Out (fun b => b = p) H H4 := by rw [← hH4]; exact (Out.refl H).upd (.inl rfl)
    have t4 : LamX.Tabs T.tabs H4 := by rw [← hH4]; exact tabs_put hT hp trivial
    clear hH4
    have q1 : p ≠ lo := ne_of_none h4 hlo
    walk_at "rd"
    intro la hla
    have q2 : p ≠ la := fun z => by subst z; rw [upd_same] at hla; cases hla
    have q3 : lo ≠ la := fun z => by subst z; rw [upd_ne q1.symm, upd_same] at hla; cases hla
    walk_at "rd"
    intro tm htm
    have q4 : p ≠ tm := fun z => by subst z; rw [upd_same] at htm; cases htm
    have q5 : la ≠ tm := fun z => by subst z; rw [upd_ne q2.symm, upd_same] at htm; cases htm
    have q6 : lo ≠ tm := fun z => by subst z; rw [upd_ne q1.symm, upd_ne q3, upd_ne q1.symm, upd_same] at htm; cases htm
    walk_at "rd"
    refine r_rep1 (n := n) upd_same (by omega) fun lt hlt => ?_
    have q7 : p ≠ lt := fun z => by subst z; rw [upd_ne q4, upd_same] at hlt; cases hlt
    have q8 : la ≠ lt := fun z => by subst z; rw [upd_ne q5, upd_ne q2.symm, upd_same] at hlt; cases hlt
    have q9 : lo ≠ lt := fun z => by subst z; rw [upd_ne q6, upd_ne q1.symm, upd_ne q3, upd_ne q1.symm, upd_same] at hlt; cases hlt
    walk_at "rd"
    intro lh hlh
    have r1 : p ≠ lh := fun z => by subst z; rw [upd_same] at hlh; cases hlh
    have r2 : lt ≠ lh := fun z => by subst z; rw [upd_ne q7.symm, upd_same] at hlh; cases hlh
    have r3 : la ≠ lh := fun z => by subst z; rw [upd_ne q2.symm, upd_ne q8, upd_ne q5, upd_ne q2.symm, upd_same] at hlh; cases hlh
    have r4 : lo ≠ lh := fun z => by subst z; rw [upd_ne q1.symm, upd_ne q9, upd_ne q6, upd_ne q1.symm, upd_ne q3, upd_ne q1.symm, upd_same] at hlh; cases hlh
    walk_at "rd"
    refine k _ _ (SlAt.sl (dx := dx) (lo := lo) (la := la) (lt := lt) (lh := lh) ⟨SM.ok_new r ar, ?_, ?_, ?_, ?_, ?_, q3, q9, q8⟩) ?_ ((((((((o4.fresh hlo).upd (.inl rfl)).fresh hla).upd (.inl rfl)).fresh htm).fresh hlt).upd (.inl rfl) |>.fresh hlh).upd (.inl rfl)) ?_
    · rw [upd_same]; rfl
    · rw [show iv (SM.new n l g r).order = rgV 0 n from (rgV_iv n).symm]; walk_at "hp"
    · show _ = some (HO.lst []); walk_at "hp"
    · rw [show iv (SM.new n l g r).taken = List.replicate n (V.int 0) from (rep_iv n).symm]; walk_at "hp"
    · show _ = some (HO.dK []); walk_at "hp"
    · rintro b (rfl | rfl | rfl | rfl | rfl)
      · exact .inl rfl
      · exact o4.new (.of hlo)
      · exact ((o4.fresh hlo).upd (.inl rfl)).new (.of hla)
      · exact ((((o4.fresh hlo).upd (.inl rfl)).fresh hla).upd (.inl rfl) |>.fresh htm).new (.of hlt)
      · exact (((((((o4.fresh hlo).upd (.inl rfl)).fresh hla).upd (.inl rfl)).fresh htm).fresh hlt).upd (.inl rfl)).new (.of hlh)
    · have G : ∀ {H1 : Hp} {o : HO}, LamX.Tabs T.tabs H1 → (∃ C dx fs, H1 p = some (HO.ins C dx fs)) → LamX.Tabs T.tabs (upd H1 p o) := fun t ⟨_, _, _, e⟩ => tabs_put t e trivial
      refine G (tabs_new (G (tabs_new (tabs_new (G (tabs_new (G (tabs_new t4 hlo) ?_) hla) ?_) htm) hlt) ?_) hlh) ?_ <;> exact ⟨_, _, _, by walk_at "hp"⟩
/-! use -/
theorem u_new {C : Addr} {Tb : List (Addr × Str)} {K : PySem.W.Frag} {H : Hp} {L : List R} {Q : VK} {E : XK} {n l g : Nat} {r : Rl} (S : Sep C K Tb H L) (a : Args n l g) (k : ∀ p H', Sep C K Tb H' (.sl p (SM.new n l g r) :: L) → Q (.ref p) H') : MkNew C (spInit C Tb) [] E [.int (n : Int), .int (l : Int), .int (g : Int), .str r.s] H Q :=
  fun p dx np nd ne => ⟨p, dx, n, l, g, r, rfl, upd_same, a, tabs_made S.tb np nd ne, fun H' F s gF o t => ⟨rfl, k p H' (S.made np nd ne s gF o t)⟩⟩

def spGen (C : Addr) : Sp := fun vs H Q _ => ∃ (p : Addr) (m : SM) (F : Addr → Prop) (s : Nat), vs = [.ref p, .int s] ∧ Sl C H p m F ∧ s < m.n ∧ Q (.int (m.gen s)) H
theorem ok_Slots_generation_of (T : Txt K mg) (TB : TBs T base) : FnOk P w K mg base CX0 1 T.f_Slots_generation_of T.fd_Slots_generation_of ["self", "slot"] (spGen T.C_Slots) := by
  refine T.F_Slots_generation_of.ok sc_Slots_generation_of (fun vs H Q E h => ?_) (fun cdv A outer s H vs Q E hr h => ?_)
  · obtain ⟨p, m, F, s, rfl, _⟩ := h; rfl
  · obtain ⟨p, m, F, sl, rfl, ⟨dx, lo, la, lt, lh, x, f⟩, hs, k⟩ := h
    refine ⟨_, (pss_one (ps_ret (pe_op op_mod (pe_op op_sub (pe_ix (ixL (K := K)) (pe_fld (pv 0 rfl vs_Slots_generation_of_0) rfl) (pv 1 rfl vs_Slots_generation_of_1) (fun _ _ => rfl)) pe_int) (pe_fld (pv 0 rfl vs_Slots_generation_of_0) rfl)))), ?_⟩
    have cl := T.cl_Slots
    have n3 := T.n_Slots_generations
    have n7 := T.n_Slots_taken
    have hp := x.ins
    have ht := x.t
    have g1 := x.ok.ar.g1
    have ar := x.ok.ar
    have tl := x.ok.tl
    walk_at "go"
    walk_at "rd"
    have e : m.taken[sl]? = some (m.cnt sl) := by
      have : sl < m.taken.length := by omega
      simp [SM.cnt, this]
    refine r_ixl (SqL.of ht) (atI_nat (iv_get e)) ?_
    walk_at "rd"
    exact k

def spLen (C : Addr) : Sp := fun vs H Q _ => ∃ (p : Addr) (m : SM) (F : Addr → Prop), vs = [.ref p] ∧ Sl C H p m F ∧ Q (.int (m.live.length : Int)) H
theorem ok_Slots___len__ (T : Txt K mg) (TB : TBs T base) : FnOk P w K mg base CX0 1 T.f_Slots___len__ T.fd_Slots___len__ ["self"] (spLen T.C_Slots) := by
  refine T.F_Slots___len__.ok sc_Slots___len__ (fun vs H Q E h => ?_) (fun cdv A outer s H vs Q E hr h => ?_)
  · obtain ⟨p, m, F, rfl, _⟩ := h; rfl
  · obtain ⟨p, m, F, rfl, ⟨dx, lo, la, lt, lh, x, f⟩, k⟩ := h
    refine ⟨_, (pss_one (ps_ret (pe_callB (c_len (K := K)) (by rfl) T.z_len (by decide +kernel) (pa_cons (pe_fld (pv 0 rfl vs_Slots___len___0) rfl) pa_nil)))), ?_⟩
    have cl := T.cl_Slots
    have n6 := T.n_Slots_ages
    have hp := x.ins
    have ha := x.a
    walk_at "go"
    walk_at "rd"
    refine r_lenl (SqL.of ha) ?_
    rw [iv_len, SM.ages, List.length_map]
    exact k

def spCounts (C : Addr) (Tb : List (Addr × Str)) : Sp := fun vs H Q _ => ∃ (p : Addr) (m : SM) (F : Addr → Prop), vs = [.ref p] ∧ Sl C H p m F ∧ LamX.Tabs Tb H ∧ ∀ (q : Addr) (H' : Hp), H q = none → H' q = some (.lst (iv m.taken)) → Out Nil H H' → LamX.Tabs Tb H' → Q (.ref q) H'
theorem ok_Slots_counts (T : Txt K mg) (TB : TBs T base) : FnOk P w K mg base CX0 1 T.f_Slots_counts T.fd_Slots_counts ["self"] (spCounts T.C_Slots T.tabs) := by
  refine T.F_Slots_counts.ok sc_Slots_counts (fun vs H Q E h => ?_) (fun cdv A outer s H vs Q E hr h => ?_)
  · obtain ⟨p, m, F, rfl, _⟩ := h; rfl
  · obtain ⟨p, m, F, rfl, ⟨dx, lo, la, lt, lh, x, f⟩, hT, k⟩ := h
    refine ⟨_, (pss_one (ps_ret (pe_callTy (c_list (K := K)) (by rfl) T.z_list (by decide +kernel) (pa_cons (pe_fld (pv 0 rfl vs_Slots_counts_0) rfl) pa_nil)))), ?_⟩
    have cl := T.cl_Slots
    have n7 := T.n_Slots_taken
    have hp := x.ins
    have ht := x.t
    walk_at "go"
    walk_at "rd"
    exact r_listl (SqL.of ht) fun q hq => k q _ hq upd_same ((Out.refl H).fresh hq) (tabs_new hT hq)
/-! use -/
theorem u_counts {C : Addr} {Tb : List (Addr × Str)} {K : PySem.W.Frag} {H : Hp} {L : List R} {Q : VK} {E : XK} {p : Addr} {m : SM} (S : Sep C K Tb H L) (h : R.sl p m ∈ L) (k : ∀ q H', Sep C K Tb H' (.cell q (.lst (iv m.taken)) :: L) → Q (.ref q) H') : spCounts C Tb [.ref p] H Q E := by
  obtain ⟨F, f⟩ := S.slot h
  exact ⟨p, m, F, rfl, f, S.tb, fun q H' n e o t => k q H' (S.readNew (.of n) o t e trivial)⟩

def spLive (C : Addr) (Tb : List (Addr × Str)) (K : PySem.W.Frag) : Sp := fun vs H Q _ => ∃ (p : Addr) (m : SM) (F : Addr → Prop), vs = [.ref p] ∧ Sl C H p m F ∧ LamX.Tabs Tb H ∧ ∀ (q : Addr) (xs : List V) (H' : Hp), H q = none → H' q = some (.lst xs) → Prs H' xs m.liveH → (∀ b, V.ref b ∈ xs → New H b) → Out Nil H H' → LamX.Tabs Tb H' → Q (.ref q) H'
theorem ok_Slots_live (T : Txt K mg) (TB : TBs T base) : FnOk P w K mg base CX0 2 T.f_Slots_live T.fd_Slots_live ["self"] (spLive T.C_Slots T.tabs K) := by
  refine T.F_Slots_live.ok sc_Slots_live (fun vs H Q E h => ?_) (fun cdv A outer s H vs Q E hr h => ?_)
  · obtain ⟨p, m, F, rfl, _⟩ := h; rfl
  · obtain ⟨p, m, F, rfl, ⟨dx, lo, la, lt, lh, x, f⟩, hT, k⟩ := h
    refine ⟨_, (pss_one (ps_ret (pe_lc (own := [("slot", 1)]) (g := gName 1) rfl sc_Slots_live.nd (pi_list (pe_fld (pv 0 rfl vs_Slots_live_0) rfl)) (blkOk_by (own := [("slot", 1)]) (N := ["self", "slot"]) (sc := defScope s_Slots_live) (by decide +kernel)) (fun _ _ _ _ _ => (pg_name (i := 1) sc_Slots_live.nd rfl (Or.inl rfl))) (fun _ _ _ _ _ => pts_nil) (fun _ _ _ _ _ => (pe_tup (pa_cons (pv 1) (pa_cons (pe_meth (pv 0) T.cl_Slots T.mt_Slots_generation_of (ok_Slots_generation_of T TB) (hr.mono (by decide)) T.b_Slots_generation_of .nil pass0 (pa_cons (pv 1) pa_nil)) pa_nil))))))), ?_⟩
    have cl := T.cl_Slots
    have n6 := T.n_Slots_ages
    have hp := x.ins
    walk_at "go"
    walk_at "rd"
    refine overLC (SqL.of x.a) ?_
    intro D hD
    refine lc_list (K := K) (a := la) (xs := iv m.ages) (fun i H' => ∃ xs, H' D = some (.lst xs) ∧ Prs H' xs (m.liveH.take i) ∧ Out Nil H H' ∧ LamX.Tabs T.tabs H' ∧ ∀ b, V.ref b ∈ xs → New H b) ?_ ?_ ?_ ?_
    · exact ⟨[], upd_same, ⟨rfl, fun i p q => by simp at q⟩, (Out.refl H).fresh hD, tabs_new hT hD, fun _ z => by cases z⟩
    · rintro i H' _ ⟨xs, e1, e2, e3, e4, e5⟩
      exact e3.seq (fun z => z) (SqL.of x.a)
    · rintro i v H' hi ⟨xs, e1, e2, e3, e4, e5⟩
      obtain ⟨s, hs, rfl⟩ : ∃ s, m.ages[i]? = some s ∧ v = V.int s := by
        rw [iv_map, List.getElem?_map] at hi
        cases e : m.ages[i]? with
        | none => rw [e] at hi; cases hi
        | some s => rw [e] at hi; exact ⟨s, rfl, (Option.some.inj hi).symm⟩
      have hsm : s ∈ m.ages := List.mem_of_getElem? hs
      have x' := x.nil e3
      have hp' := x'.ins
      walk_at "rd"
      refine ⟨p, m, _, s, rfl, x'.sl, x.ok.ltA hsm, ?_⟩
      walk_at "rd"
      intro a ha
      have hl : m.liveH[i]? = some ((s : Int), m.gen s) := by simp [SM.liveH, hs]
      have nD : D ≠ a := ne_of_none e1 ha
      refine ⟨xs, by walk_at "hp", ?_, xs ++ [.ref a], upd_same, ?_, ?_, ?_, fun b hb => ?_⟩
      · have h1 := e2.1
        have h2 : (m.liveH.take i).length ≤ m.liveH.length := by rw [List.length_take]; omega
        have h3 : m.liveH.length ≤ 64 := by
          have := x.ok.len; have := x.ok.n64
          simp [SM.liveH, SM.ages]; omega
        exact Nat.lt_of_le_of_lt (show xs.length ≤ 1000 by omega) (by decide)
      · have e : m.liveH.take (i + 1) = m.liveH.take i ++ [((s : Int), m.gen s)] := by rw [List.take_succ, hl]; rfl
        rw [e]
        refine Prs.snoc (e2.out (F := fun b => b = D) (((Out.refl H').fresh ha).upd (.inl rfl)) fun b ys q z => ?_) ?_
        · subst z; rw [e1] at q; cases q
        · walk_at "hp"
      · exact (e3.fresh ha).upd (.inr (.of hD))
      · exact tabs_put (u := .lst xs) (tabs_new e4 ha) (by walk_at "hp") trivial
      · rcases List.mem_append.mp hb with hb | hb
        · exact e5 b hb
        · obtain rfl : b = a := by simpa using hb
          exact New.back (.of ha) e3
    · rintro H' ⟨xs, e1, e2, e3, e4, e5⟩
      refine k D xs H' hD e1 ?_ e5 e3 e4
      have : m.liveH.take (iv m.ages).length = m.liveH := List.take_of_length_le (by simp [SM.liveH, iv_len])
      rw [this] at e2
      exact e2
/-! use -/
theorem u_live {C : Addr} {Tb : List (Addr × Str)} {K : PySem.W.Frag} {H : Hp} {L : List R} {Q : VK} {E : XK} {p : Addr} {m : SM} (S : Sep C K Tb H L) (h : R.sl p m ∈ L) (k : ∀ q xs H', Sep C K Tb H' (.cell q (.lst xs) :: .dats xs (m.liveH.map pd) :: L) → Q (.ref q) H') : spLive C Tb K [.ref p] H Q E := by
  obtain ⟨F, f⟩ := S.slot h
  exact ⟨p, m, F, rfl, f, S.tb, fun q xs H' n e pr nb o t => k q xs H' (S.readPrs (.of n) o t e pr nb)⟩

def spFree (C : Addr) (Tb : List (Addr × Str)) : Sp := fun vs H Q _ => ∃ (p : Addr) (m : SM) (F : Addr → Prop), vs = [.ref p] ∧ Sl C H p m F ∧ LamX.Tabs Tb H ∧ ∀ (q : Addr) (H' : Hp), New H q → H' q = some (.lst (iv m.free)) → Out Nil H H' → LamX.Tabs Tb H' → Q (.ref q) H'
theorem ok_Slots_free (T : Txt K mg) (TB : TBs T base) : FnOk P w K mg base CX0 4 T.f_Slots_free T.fd_Slots_free ["self"] (spFree T.C_Slots T.tabs) := by
  refine T.F_Slots_free.ok sc_Slots_free (fun vs H Q E h => ?_) (fun cdv A outer s H vs Q E hr h => ?_)
  · obtain ⟨p, m, F, rfl, _⟩ := h; rfl
  · obtain ⟨p, m, F, rfl, ⟨dx, lo, la, lt, lh, x, f⟩, hT, k⟩ := h
    refine ⟨_, (pss_one (ps_ret (pe_call (ok_taking_order T TB) (hr.mono (by decide)) rfl T.m_taking_order T.F_taking_order.kp T.b_taking_order .nil pass0 (pa_cons (pe_fld (pv 0 rfl vs_Slots_free_0) rfl) (pa_cons (pe_fld (pv 0 rfl vs_Slots_free_0) rfl) (pa_cons (pe_fld (pv 0 rfl vs_Slots_free_0) rfl) pa_nil)))))), ?_⟩
    have cl := T.cl_Slots
    have n4 := T.n_Slots_rule
    have n5 := T.n_Slots_order
    have n7 := T.n_Slots_taken
    have hp := x.ins
    walk_at "go"
    walk_at "rd"
    refine ⟨m.rule, lo, lt, m.order, m.taken, rfl, SqL.of x.o, SqL.of x.t, fun y hy => by rw [x.ok.tl]; exact x.ok.ltO hy, hT, fun q H' n e o t => ?_⟩
    exact k q H' n e o t
/-! use -/
theorem u_free {C : Addr} {Tb : List (Addr × Str)} {K : PySem.W.Frag} {H : Hp} {L : List R} {Q : VK} {E : XK} {p : Addr} {m : SM} (S : Sep C K Tb H L) (h : R.sl p m ∈ L) (k : ∀ q H', Sep C K Tb H' (.cell q (.lst (iv m.free)) :: L) → Q (.ref q) H') : spFree C Tb [.ref p] H Q E := by
  obtain ⟨F, f⟩ := S.slot h
  exact ⟨p, m, F, rfl, f, S.tb, fun q H' n e o t => k q H' (S.readNew n o t e trivial)⟩

def spHas (C : Addr) (Tb : List (Addr × Str)) (K : PySem.W.Frag) : Sp := fun vs H Q _ => ∃ (p t : Addr) (m : SM) (F : Addr → Prop) (a b : Int), vs = [.ref p, .ref t] ∧ Sl C H p m F ∧ H t = some (.tup [.int a, .int b]) ∧ LamX.Tabs Tb H ∧ ∀ H' : Hp, Out Nil H H' → LamX.Tabs Tb H' → Q (.bl (m.has a b)) H'
theorem ok_Slots___contains__ (T : Txt K mg) (TB : TBs T base) : FnOk P w K mg base CX0 2 T.f_Slots___contains__ T.fd_Slots___contains__ ["self", "handle"] (spHas T.C_Slots T.tabs K) := by
  refine T.F_Slots___contains__.ok sc_Slots___contains__ (fun vs H Q E h => ?_) (fun cdv A outer s H vs Q E hr h => ?_)
  · obtain ⟨p, t, m, F, a, b, rfl, _⟩ := h; rfl
  · obtain ⟨p, t, m, F, a, b, rfl, ⟨dx, lo, la, lt, lh, x, f⟩, ht, hT, k⟩ := h
    refine ⟨_, (pss_cons (ps_if (PW.pt (pw_or (pt_not (pt_val (pe_callB (isiK (K := K)) (by rfl) T.z_isinstance (by decide +kernel) (pa_cons (pv 1 rfl vs_Slots___contains___1) (pa_cons (pe_ty (n := "tuple") (by rfl) T.z_tuple (by decide +kernel)) pa_nil))))) (pw_or (pt_cmpR op_ne (pe_callB (c_len (K := K)) (by rfl) T.z_len (by decide +kernel) (pa_cons (pv 1 rfl vs_Slots___contains___1) pa_nil)) pe_int (nomark _)) (pw_or1 (pt_not (pt_val (pe_callB (allK rfl (K := K)) (by rfl) T.z_all (by decide +kernel) (pa_cons (pe_lc (own := [("part", 2)]) (g := gName 2) rfl sc_Slots___contains__.nd (pi_tup (pv 1 rfl vs_Slots___contains___1)) (blkOk_by (own := [("part", 2)]) (N := ["self", "handle", "part"]) (sc := defScope s_Slots___contains__) (by decide +kernel)) (fun _ _ _ _ _ => (pg_name (i := 2) sc_Slots___contains__.nd rfl (Or.inl rfl))) (fun _ _ _ _ _ => pts_nil) (fun _ _ _ _ _ => (pe_call (ok_is_integer T TB) (hr.mono (by decide)) rfl T.m_is_integer T.F_is_integer.kp T.b_is_integer .nil pass0 (pa_cons (pv 2) pa_nil)))) pa_nil)))))))) (pss_one (ps_ret pe_bl)) pss_nil)
  (pss_one (ps_ret (pe_and (pe_cmpR (inK (K := K)) (pe_ix (ixT (K := K)) (pv 1 rfl vs_Slots___contains___1) pe_int (fun _ _ => rfl)) (pe_fld (pv 0 rfl vs_Slots___contains___0) rfl) (by rfl)) (pe_one (pe_cmpR op_eq (pe_ix (ixT (K := K)) (pv 1 rfl vs_Slots___contains___1) pe_int (fun _ _ => rfl)) (pe_meth (pv 0 rfl vs_Slots___contains___0) T.cl_Slots T.mt_Slots_generation_of (ok_Slots_generation_of T TB) (hr.mono (by decide)) T.b_Slots_generation_of .nil pass0 (pa_cons (pe_ix (ixT (K := K)) (pv 1 rfl vs_Slots___contains___1) pe_int (fun _ _ => rfl)) pa_nil)) (nomark _))))))), ?_⟩
    have cl := T.cl_Slots
    have n6 := T.n_Slots_ages
    have hp := x.ins
    walk_at "go"
    walk_at "rd"
    refine r_lent (SqT.of ht) ?_
    walk_at "rd"
    refine if_F (by simp) ?_
    walk_at "rd"
    refine overTC (SqT.of ht) ?_
    intro D hD
    have nD : t ≠ D := ne_of_none ht hD
    refine lc_tup (K := K) (a := t) (xs := [.int a, .int b]) (fun i H' => H' D = some (.lst (List.replicate i (.bl true))) ∧ Out Nil H H' ∧ LamX.Tabs T.tabs H') ?_ ?_ ?_ ?_
    · exact ⟨upd_same, (Out.refl H).fresh hD, tabs_new hT hD⟩
    · rintro i H' _ ⟨e1, e2, e3⟩
      exact e2.set (fun z => z) (SqT.of ht)
    · rintro i v H' hi ⟨e1, e2, e3⟩
      obtain ⟨z, rfl⟩ : ∃ z, v = V.int z := by
        match i, hi with
        | 0, hi => exact ⟨a, (Option.some.inj hi).symm⟩
        | 1, hi => exact ⟨b, (Option.some.inj hi).symm⟩
      have hi2 : i < 2 := (List.getElem?_eq_some_iff.mp hi).1
      walk_at "rd"
      refine ⟨_, _, rfl, .int z, ?_⟩
      refine ⟨_, e1, Nat.lt_of_le_of_lt (show _ ≤ 1000 by rw [List.length_replicate]; omega) (by decide), ?_, ?_, ?_⟩
      · rw [upd_same, List.replicate_succ']; rfl
      · exact e2.upd (.inr (.of hD))
      · exact tabs_put e3 e1 trivial
    · rintro H' ⟨e1, e2, e3⟩
      have x' := x.nil e2
      have hp' := x'.ins
      have ht' := e2.tup (fun z => z) ht
      walk_at "rd"
      refine ⟨D, [true, true], rfl, SqL.of e1, ?_⟩
      walk_at "rd"
      refine if_F (by simp) ?_
      walk_at "rd"
      refine r_ixt (v := .int a) (SqT.of ht') (atI0 rfl) ?_
      walk_at "rd"
      refine r_inL (SqL.of x'.a) rfl (flat_ints _) ?_
      unfold iv
      rw [inV_ints]
      walk_at "rd"
      refine if_d (fun c0 => ?_) (fun c0 => ?_)
      · obtain ⟨s, hs, rfl⟩ := List.mem_map.mp c0
        walk_at "rd"
        refine r_ixt (v := .int b) (SqT.of ht') (atI1 rfl) ?_
        walk_at "rd"
        refine r_ixt (v := .int (s : Int)) (SqT.of ht') (atI0 rfl) ?_
        walk_at "rd"
        refine ⟨p, m, _, s, rfl, x'.sl, x.ok.ltA hs, ?_⟩
        refine r_eqi ?_
        have e : m.has s b = decide (b = m.gen s) := by simp [SM.has, mem_ci, hs]
        rw [← e]
        exact k _ e2 e3
      · have e : m.has a b = false := by simp [SM.has, c0]
        rw [← e]
        exact k _ e2 e3
/-! use -/
theorem u_has {C : Addr} {Tb : List (Addr × Str)} {K : PySem.W.Frag} {H : Hp} {L : List R} {Q : VK} {E : XK} {p t : Addr} {m : SM} {a b : Int} (S : Sep C K Tb H L) (h : R.sl p m ∈ L) (ht : R.tup t [.int a, .int b] ∈ L) (k : ∀ H', Sep C K Tb H' L → Q (.bl (m.has a b)) H') : spHas C Tb K [.ref p, .ref t] H Q E := by
  obtain ⟨F, f⟩ := S.slot h
  exact ⟨p, t, m, F, a, b, rfl, f, S.getT ht, S.tb, fun H' o t' => k H' (S.read o t')⟩
theorem u_hasO {C : Addr} {Tb : List (Addr × Str)} {K : PySem.W.Frag} {H : Hp} {L : List R} {Q : VK} {E : XK} {p t : Addr} {m : SM} {a b : Int} (neg : Bool) (S : Sep C K Tb H L) (h : R.sl p m ∈ L) (ht : R.tup t [.int a, .int b] ∈ L) (k : ∀ H', Sep C K Tb H' L → Q (.bl (if neg then !m.has a b else m.has a b)) H') : rInOwn C (spHas C Tb K) E neg (.ref t) (.ref p) H Q := by
  obtain ⟨F, f⟩ := S.slot h
  obtain ⟨dx, lo, la, lt, lh, x, g⟩ := id f
  exact ⟨p, dx, _, rfl, x.ins, u_has S h ht fun H' S' => ⟨_, rfl, k H' S'⟩⟩

def spChk (C : Addr) (Tb : List (Addr × Str)) (K : PySem.W.Frag) : Sp := fun vs H Q _ => ∃ (p t : Addr) (m : SM) (F : Addr → Prop) (a b : Int), vs = [.ref p, .ref t] ∧ Sl C H p m F ∧ H t = some (.tup [.int a, .int b]) ∧ LamX.Tabs Tb H ∧ m.has a b = true ∧ ∀ H' : Hp, Out Nil H H' → LamX.Tabs Tb H' → Q .non H'
theorem ok_Slots_check_handle (T : Txt K mg) (TB : TBs T base) : FnOk P w K mg base CX0 3 T.f_Slots_check_handle T.fd_Slots_check_handle ["self", "handle"] (spChk T.C_Slots T.tabs K) := by
  refine T.F_Slots_check_handle.ok sc_Slots_check_handle (fun vs H Q E h => ?_) (fun cdv A outer s H vs Q E hr h => ?_)
  · obtain ⟨p, t, m, F, a, b, rfl, _⟩ := h; rfl
  · obtain ⟨p, t, m, F, a, b, rfl, S, ht, hT, hh, k⟩ := h
    refine ⟨_, (pss_one (ps_if (pt_cmpR (op_ninOwn (ok_Slots___contains__ T TB) (hr.mono (by decide)) T.mt_Slots___contains__ T.b_Slots___contains__ pass0) (pv 1 rfl vs_Slots_check_handle_1) (pv 0 rfl vs_Slots_check_handle_0) (by rfl)) (pss_one ps_never) pss_nil)), ?_⟩
    have hp : ∃ dx fs, H p = some (.ins T.C_Slots dx fs) := by
      obtain ⟨dx, lo, la, lt, lh, x, f⟩ := S
      exact ⟨_, _, x.ins⟩
    obtain ⟨dx, fs, hp⟩ := hp
    walk_at "go"
    walk_at "rd"
    refine ⟨p, dx, fs, rfl, hp, p, t, m, F, a, b, rfl, S, ht, hT, fun H' e' t' => ⟨_, rfl, ?_⟩⟩
    rw [hh]
    walk_at "rd"
    exact k _ e' t'

def spGet (C : Addr) (Tb : List (Addr × Str)) (K : PySem.W.Frag) : Sp := fun vs H Q _ => ∃ (p t : Addr) (m : SM) (F : Addr → Prop) (s : Nat) (v : V), vs = [.ref p, .ref t] ∧ Sl C H p m F ∧ H t = some (.tup [.int s, .int (m.gen s)]) ∧ LamX.Tabs Tb H ∧ (s, v) ∈ m.live ∧ ∀ H' : Hp, Out Nil H H' → LamX.Tabs Tb H' → Q v H'
theorem has_live {m : SM} {s : Nat} {v : V} (h : (s, v) ∈ m.live) : m.has s (m.gen s) = true := by
  have : s ∈ m.ages := List.mem_map.mpr ⟨_, h, rfl⟩
  simp [SM.has, mem_ci, this]
theorem ok_Slots___getitem__ (T : Txt K mg) (TB : TBs T base) : FnOk P w K mg base CX0 4 T.f_Slots___getitem__ T.fd_Slots___getitem__ ["self", "handle"] (spGet T.C_Slots T.tabs K) := by
  refine T.F_Slots___getitem__.ok sc_Slots___getitem__ (fun vs H Q E h => ?_) (fun cdv A outer s H vs Q E hr h => ?_)
  · obtain ⟨p, t, m, F, s, v, rfl, _⟩ := h; rfl
  · obtain ⟨p, t, m, F, sl, v, rfl, S, ht, hT, hh, k⟩ := h
    refine ⟨_, (pss_cons (ps_expr (pe_meth (pv 0 rfl vs_Slots___getitem___0) T.cl_Slots T.mt_Slots_check_handle (ok_Slots_check_handle T TB) (hr.mono (by decide)) T.b_Slots_check_handle .nil pass0 (pa_cons (pv 1 rfl vs_Slots___getitem___1) pa_nil)))
  (pss_one (ps_ret (pe_dget (hu_of hr) (pe_fld (pv 0 rfl vs_Slots___getitem___0) rfl) (pe_ix (ixT (K := K)) (pv 1 rfl vs_Slots___getitem___1) pe_int (fun _ _ => rfl)) (fun _ _ => rfl))))), ?_⟩
    have cl := T.cl_Slots
    have n8 := T.n_Slots_held
    obtain ⟨dx, lo, la, lt, lh, x, f⟩ := id S
    have hp := x.ins
    walk_at "go"
    walk_at "rd"
    refine ⟨p, t, m, F, _, _, rfl, S, ht, hT, has_live hh, fun H' e' t' => ?_⟩
    have x' := x.nil e'
    have hp' := x'.ins
    have ht' := e'.tup (fun z => z) ht
    have hd' := x'.d
    walk_at "rd"
    refine r_ixt (v := .int sl) (SqT.of ht') (atI0 rfl) ?_
    refine ⟨lh, v, rfl, ?_, k _ e' t'⟩
    have := DGet.k (k := (.inl (sl : Int) : Key)) hd'
    rw [hk_val x.ok.nodupA hh] at this
    exact this
/-! use -/
theorem u_get {C : Addr} {Tb : List (Addr × Str)} {K : PySem.W.Frag} {H : Hp} {L : List R} {Q : VK} {E : XK} {p t : Addr} {m : SM} {s : Nat} {g : Int} (v : V) (S : Sep C K Tb H L) (h : R.sl p m ∈ L) (ht : R.tup t [.int (s : Int), .int g] ∈ L) (hg : g = m.gen s) (hv : (s, v) ∈ m.live) (k : ∀ H', Sep C K Tb H' L → Q v H') : spGet C Tb K [.ref p, .ref t] H Q E := by
  subst hg
  obtain ⟨F, f⟩ := S.slot h
  exact ⟨p, t, m, F, s, v, rfl, f, S.getT ht, S.tb, hv, fun H' o t' => k H' (S.read o t')⟩

def spTake (C : Addr) (Tb : List (Addr × Str)) : Sp := fun vs H Q _ => ∃ (p : Addr) (v : V) (m : SM) (F : Addr → Prop), vs = [.ref p, v] ∧ Sl C H p m F ∧ m.live.length < m.lim ∧ LamX.Tabs Tb H ∧
  ∀ (q : Addr) (H' : Hp), Sl C H' p (m.take v) F → New H q → H' q = some (.tup [.int m.slot, .int ((m.take v).gen m.slot)]) → Out F H H' → LamX.Tabs Tb H' → Q (.ref q) H'
theorem ok_Slots_take (T : Txt K mg) (TB : TBs T base) : FnOk P w K mg base CX0 5 T.f_Slots_take T.fd_Slots_take ["self", "value"] (spTake T.C_Slots T.tabs) := by
  refine T.F_Slots_take.ok sc_Slots_take (fun vs H Q E h => ?_) (fun cdv A outer s H vs Q E hr h => ?_)
  · obtain ⟨p, v, m, F, rfl, _⟩ := h; rfl
  · obtain ⟨p, v, m, F, rfl, S, hl, hT, k⟩ := h
    refine ⟨_, (pss_cons (ps_if (pt_cmpR op_ge (pe_callB (c_len (K := K)) (by rfl) T.z_len (by decide +kernel) (pa_cons (pe_fld (pv 0 rfl vs_Slots_take_0) rfl) pa_nil)) (pe_fld (pv 0 rfl vs_Slots_take_0) rfl) (nomark _)) (pss_one ps_never) pss_nil)
  (pss_cons (ps_set (i := 2) sc_Slots_take.nd rfl lc_Slots_take_2 (pe_ix (ixL (K := K)) (pe_meth0 (pv 0 rfl vs_Slots_take_0) T.cl_Slots T.mt_Slots_free (ok_Slots_free T TB) (hr.mono (by decide)) T.b_Slots_free .nil pass0) pe_int (fun _ _ => rfl)))
  (pss_cons (ps_expr (pe_bm PySem.F.plainAttrs_list PySem.F.slot_list_remove PySem.F.type_list_remove mt_remove (pe_fld (pv 0 rfl vs_Slots_take_0) rfl) (pa_cons (pv 2 rfl vs_Slots_take_2) pa_nil)))
  (pss_cons (ps_expr (pe_bm PySem.F.plainAttrs_list PySem.F.slot_list_append PySem.F.type_list_append mt_append (pe_fld (pv 0 rfl vs_Slots_take_0) rfl) (pa_cons (pv 2 rfl vs_Slots_take_2) pa_nil)))
  (pss_cons (ps_augS (pe_fld (pv 0) rfl) (pv 2) (pg_list (K := K)) pe_int ip_add set_list)
  (pss_cons (ps_dput (hu_of hr) (pe_fld (pv 0) rfl) (pv 2) (pv 1) rfl)
  (pss_one (ps_ret (pe_tup (pa_cons (pv 2 rfl vs_Slots_take_2) (pa_cons (pe_meth (pv 0 rfl vs_Slots_take_0) T.cl_Slots T.mt_Slots_generation_of (ok_Slots_generation_of T TB) (hr.mono (by decide)) T.b_Slots_generation_of .nil pass0 (pa_cons (pv 2 rfl vs_Slots_take_2) pa_nil)) pa_nil))))))))))), ?_⟩
    have cl := T.cl_Slots
    have n2 := T.n_Slots_limit
    have n5 := T.n_Slots_order
    have n6 := T.n_Slots_ages
    have n7 := T.n_Slots_taken
    have n8 := T.n_Slots_held
    obtain ⟨dx, lo, la, lt, lh, x, f⟩ := id S
    have hp := x.ins
    walk_at "go"
    walk_at "rd"
    refine r_lenl (SqL.of x.a) ?_
    walk_at "rd"
    refine if_F (decide_eq_false (by rw [iv_len, SM.ages, List.length_map]; omega)) ?_
    walk_at "rd"
    refine ⟨p, m, F, rfl, S, hT, fun q H1 nq hq o1 t1 => ?_⟩
    walk_at "rd"
    obtain ⟨r, er⟩ := x.ok.free_cons hl
    refine r_ixl (v := .int m.slot) (SqL.of hq) (by rw [er]; exact atI0 rfl) ?_
    have x1 := x.nil o1
    have hp1 := x1.ins
    have ho1 := x1.o
    have ha1 := x1.a
    have ht1 := x1.t
    have hd1 := x1.d
    have oa := x.oa
    have ot := x.ot
    have at1 := x.at_
    obtain ⟨b1, b2, b3, b4, b5, b6, b7⟩ := x1.nes
    have hsm := x.ok.slot_mem hl
    have hn := x.ok.n64
    have hlen := x.ok.len
    walk_at "rd"
    refine r_rem ho1 hsm ?_
    walk_at "rd"
    refine r_append (by walk_at "hp") (Nat.lt_of_le_of_lt (show (iv m.ages).length ≤ 1000 by rw [iv_len, SM.ages, List.length_map]; omega) (by decide)) ?_
    walk_at "rd"
    have hc : (iv m.taken)[m.slot]? = some (.int (m.cnt m.slot : Int)) := by
      have h1 : m.taken[m.slot]? = some (m.cnt m.slot) := by
        have := x.ok.slot_lt hl
        have := x.ok.tl
        have : m.slot < m.taken.length := by omega
        simp [SM.cnt, this]
      exact iv_get h1
    refine r_inc (xs := iv m.taken) (by walk_at "hp") hc ?_
    walk_at "rd"
    refine ⟨lh, _, rfl, .inl ⟨hk m.live, .inl (m.slot : Int), by walk_at "hp", rfl, Nat.lt_of_le_of_lt (show (hk m.live).length ≤ 1000 by simp [hk]; omega) (by decide), rfl⟩, ?_⟩
    rw [hk_put v (x.ok.slot_dead hl), show ((m.cnt m.slot : Int) + 1) = ((m.cnt m.slot + 1 : Nat) : Int) by omega, iv_set, iv_app]
    generalize hH5 : upd (upd (upd (upd H1 lo _) la _) lt _) lh _ = H5
    have x5 : SlAt T.C_Slots H5 p dx lo la lt lh (m.take v) := by
      subst hH5
      refine ⟨SM.ok_take x.ok hl v, ?_, ?_, ?_, ?_, ?_, oa, ot, at1⟩
      · have : flds (m.take v) lo la lt lh = flds m lo la lt lh := rfl
        rw [this]; walk_at "hp"
      · show _ = some (HO.lst (iv (m.order.erase m.slot))); walk_at "hp"
      · have : (m.take v).ages = m.ages ++ [m.slot] := by simp [SM.ages, SM.take]
        rw [this]; walk_at "hp"
      · show _ = some (HO.lst (iv (m.taken.set m.slot (m.cnt m.slot + 1)))); walk_at "hp"
      · show _ = some (HO.dK (hk (m.live ++ [(m.slot, v)]))); walk_at "hp"
    have o5 : Out F H H5 := by
      subst hH5
      have F0 : Out F H H1 := o1.mono fun _ z => z.elim
      exact (((F0.upd (.inl ((f _).mpr (by simp)))).upd (.inl ((f _).mpr (by simp)))).upd (.inl ((f _).mpr (by simp)))).upd (.inl ((f _).mpr (by simp)))
    have t5 : LamX.Tabs T.tabs H5 := by
      subst hH5
      have G : ∀ {H1 : Hp} {o : HO} {a : Addr}, LamX.Tabs T.tabs H1 → (∃ xs, H1 a = some (HO.lst xs)) → LamX.Tabs T.tabs (upd H1 a o) := fun t ⟨_, e⟩ => tabs_put t e trivial
      refine tabs_put (u := .dK (hk m.live)) (G (G (G t1 ⟨_, ho1⟩) ⟨_, by walk_at "hp"⟩) ⟨_, by walk_at "hp"⟩) (by walk_at "hp") trivial
    have hp5 := x5.ins
    clear hH5
    walk_at "rd"
    refine ⟨p, m.take v, _, m.slot, rfl, x5.sl, x.ok.slot_lt hl, ?_⟩
    walk_at "rd"
    intro q5 hq5
    refine k q5 _ ⟨dx, lo, la, lt, lh, x5.nil ((Out.refl H5).fresh hq5), f⟩ ?_ upd_same (o5.fresh hq5) (tabs_new t5 hq5)
    exact (o5.new (.of hq5)).resolve_left fun z => by
      have S5 : Sl T.C_Slots H5 p (m.take v) F := ⟨dx, lo, la, lt, lh, x5, f⟩
      exact S5.not (.of hq5) z
/-! use -/
theorem u_take {C : Addr} {Tb : List (Addr × Str)} {K : PySem.W.Frag} {H : Hp} {L L' : List R} {Q : VK} {E : XK} {p : Addr} {v : V} {m : SM} (S : Sep C K Tb H L) (pk : Pick (.sl p m) L L') (hl : m.live.length < m.lim) (k : ∀ q H', Sep C K Tb H' (.tup q [.int (m.slot : Int), .int ((m.take v).gen m.slot)] :: .sl p (m.take v) :: L') → Q (.ref q) H') : spTake C Tb [.ref p, v] H Q E := by
  obtain ⟨F, f⟩ := S.slot pk.mem
  refine ⟨p, v, m, F, rfl, f, hl, S.tb, fun q H' s' nq e o t' => k q H' ?_⟩
  obtain ⟨Φ, F2, f2, h1, h2, h3, t, hh⟩ := S.step pk
  have ff : ∀ a, F a ↔ F2 a := by
    obtain ⟨dx, lo, la, lt, lh, x, g⟩ := f
    obtain ⟨dy, ko, ka, kt, kh, y, g2⟩ := f2
    have e1 := x.ins.symm.trans y.ins
    simp only [Option.some.injEq, HO.ins.injEq, flds, List.cons.injEq, Prod.mk.injEq, V.ref.injEq, true_and, and_true] at e1
    obtain ⟨_, rfl, rfl, rfl, rfl⟩ := e1
    exact fun a => (g a).trans (g2 a).symm
  have e2 : F = F2 := funext fun a => propext (ff a)
  subst e2
  refine hh H' (fun a => Φ a ∨ a = q) [.tup q _, .sl p _] F o t' (fun _ z => .inl z) (fun _ z => z.elim .inl fun z => .inr (by subst z; exact nq)) (fun a z => ?_) ⟨fun _ => False, ⟨e, .inr rfl, fun _ z => z⟩, fun _ z => z.elim, F, s', fun a z => ⟨z, fun w => w⟩, trivial⟩ fun a z => ⟨.inl z, fun w => ?_⟩
  · rcases z with z | z
    · exact (h3 a z).keepF (fun w => h1 a w z) o
    · subst z; exact ⟨_, e, trivial⟩
  · rcases w with w | w
    · exact h1 a z w
    · subst w; exact (h2 _ z).old nq

def spGive (C : Addr) (Tb : List (Addr × Str)) (K : PySem.W.Frag) : Sp := fun vs H Q _ => ∃ (p t : Addr) (m : SM) (F : Addr → Prop) (s : Nat) (v : V), vs = [.ref p, .ref t] ∧ Sl C H p m F ∧ H t = some (.tup [.int s, .int (m.gen s)]) ∧ (s, v) ∈ m.live ∧ LamX.Tabs Tb H ∧
  ∀ (F' : Addr → Prop) (H' : Hp), Sl C H' p (m.give s) F' → (∀ b, F' b → F b ∨ New H b) → Out F H H' → LamX.Tabs Tb H' → Q v H'
theorem ok_Slots_give (T : Txt K mg) (TB : TBs T base) : FnOk P w K mg base CX0 4 T.f_Slots_give T.fd_Slots_give ["self", "handle"] (spGive T.C_Slots T.tabs K) := by
  refine T.F_Slots_give.ok sc_Slots_give (fun vs H Q E h => ?_) (fun cdv A outer s H vs Q E hr h => ?_)
  · obtain ⟨p, t, m, F, s, v, rfl, _⟩ := h; rfl
  · obtain ⟨p, t, m, F, sl, v, rfl, S, ht, hlv, hT, k⟩ := h
    refine ⟨_, (pss_cons (ps_expr (pe_meth (pv 0 rfl vs_Slots_give_0) T.cl_Slots T.mt_Slots_check_handle (ok_Slots_check_handle T TB) (hr.mono (by decide)) T.b_Slots_check_handle .nil pass0 (pa_cons (pv 1 rfl vs_Slots_give_1) pa_nil)))
  (pss_cons (ps_set (i := 2) sc_Slots_give.nd rfl lc_Slots_give_2 (pe_ix (ixT (K := K)) (pv 1 rfl vs_Slots_give_1) pe_int (fun _ _ => rfl)))
  (pss_cons (ps_expr (pe_bm PySem.F.plainAttrs_list PySem.F.slot_list_remove PySem.F.type_list_remove mt_remove (pe_fld (pv 0 rfl vs_Slots_give_0) rfl) (pa_cons (pv 2 rfl vs_Slots_give_2) pa_nil)))
  (pss_cons (ps_fld (pv 0 rfl vs_Slots_give_0) (pe_call (ok_order_behind T TB) (hr.mono (by decide)) rfl T.m_order_behind T.F_order_behind.kp T.b_order_behind .nil pass0 (pa_cons (pe_fld (pv 0 rfl vs_Slots_give_0) rfl) (pa_cons (pe_fld (pv 0 rfl vs_Slots_give_0) rfl) (pa_cons (pv 2 rfl vs_Slots_give_2) pa_nil)))) rfl)
  (pss_one (ps_ret (pe_dpop1 (pe_fld (pv 0) rfl) (pv 2) ⟨rfl, rfl, rfl, rfl⟩))))))), ?_⟩
    have cl := T.cl_Slots
    have n4 := T.n_Slots_rule
    have n5 := T.n_Slots_order
    have n6 := T.n_Slots_ages
    have n8 := T.n_Slots_held
    obtain ⟨dx, lo, la, lt, lh, x, f⟩ := id S
    have hp := x.ins
    walk_at "go"
    walk_at "rd"
    refine ⟨p, t, m, F, _, _, rfl, S, ht, hT, has_live hlv, fun H1 o1 t1 => ?_⟩
    have x1 := x.nil o1
    have hp1 := x1.ins
    have ht1 := o1.tup (fun z => z) ht
    walk_at "rd"
    refine r_ixt (v := .int sl) (SqT.of ht1) (atI0 rfl) ?_
    have ho1 := x1.o
    have ha1 := x1.a
    have htk1 := x1.t
    have hd1 := x1.d
    have oa := x.oa
    have ot := x.ot
    have at1 := x.at_
    obtain ⟨b1, b2, b3, b4, b5, b6, b7⟩ := x1.nes
    have hsm : sl ∈ m.ages := List.mem_map.mpr ⟨_, hlv, rfl⟩
    have hn := x.ok.n64
    have hlen := x.ok.len
    walk_at "rd"
    refine r_rem ha1 hsm ?_
    have t2 : LamX.Tabs T.tabs (upd H1 la (.lst (iv (m.ages.erase sl)))) := tabs_put t1 ha1 trivial
    have o2 : Out F H (upd H1 la (.lst (iv (m.ages.erase sl)))) := (o1.mono fun _ z => z.elim).upd (.inl ((f _).mpr (by simp)))
    generalize hH2 : upd H1 la (.lst (iv (m.ages.erase sl))) = H2 at t2 o2 ⊢
    have hp2 : H2 p = some (.ins T.C_Slots dx (flds m lo la lt lh)) := by rw [← hH2]; walk_at "hp"
    have ho2 : H2 lo = some (.lst (iv m.order)) := by rw [← hH2]; walk_at "hp"
    have ha2 : H2 la = some (.lst (iv (m.ages.erase sl))) := by rw [← hH2]; walk_at "hp"
    have htk2 : H2 lt = some (.lst (iv m.taken)) := by rw [← hH2]; walk_at "hp"
    have hd2 : H2 lh = some (.dK (hk m.live)) := by rw [← hH2]; walk_at "hp"
    clear hH2
    walk_at "rd"
    refine ⟨m.rule, lo, m.order, sl, rfl, ho2, by omega, fun lo' H3 hlo3 e3 s3 => ?_⟩
    have hp3 := s3 _ _ hp2
    have ha3 := s3 _ _ ha2
    have htk3 := s3 _ _ htk2
    have hd3 := s3 _ _ hd2
    have c1 : p ≠ lo' := ne_of_none hp2 hlo3
    have c2 : lo' ≠ la := (ne_of_none ha2 hlo3).symm
    have c3 : lo' ≠ lt := (ne_of_none htk2 hlo3).symm
    have c4 : lo' ≠ lh := (ne_of_none hd2 hlo3).symm
    walk_at "rd"
    refine ⟨lh, rfl, .inl ⟨hk m.live, .inl (by walk_at "hp")⟩, ?_⟩
    walk_at "rd"
    refine ⟨hk m.live, .inl (sl : Int), v, by walk_at "hp", rfl, hk_val x.ok.nodupA hlv, ?_⟩
    rw [hk_drop]
    have x5 : SlAt T.C_Slots (upd (upd H3 p (HO.ins T.C_Slots dx (putF "order" (V.ref lo') (flds m lo la lt lh)))) lh (HO.dK (hk (m.live.filter fun q => decide (q.1 ≠ sl))))) p dx lo' la lt lh (m.give sl) := by
      refine ⟨SM.ok_give x.ok hsm, ?_, ?_, ?_, ?_, ?_, c2, c3, at1⟩
      · have : putF "order" (V.ref lo') (flds m lo la lt lh) = flds (m.give sl) lo' la lt lh := rfl
        rw [this]; walk_at "hp"
      · show _ = some (HO.lst (iv (behind m.rule m.order sl))); walk_at "hp"
      · rw [SM.ages_giveE x.ok]; walk_at "hp"
      · show _ = some (HO.lst (iv m.taken)); walk_at "hp"
      · exact upd_same
    have o3 : Out F H H3 := o2.nil (.same s3)
    refine k _ _ x5.sl ?_ ((o3.upd (.inl ((f _).mpr (by simp)))).upd (.inl ((f _).mpr (by simp)))) ?_
    · rintro b (rfl | rfl | rfl | rfl | rfl)
      · exact .inl ((f _).mpr (by simp))
      · exact o2.new (.of hlo3)
      · exact .inl ((f _).mpr (by simp))
      · exact .inl ((f _).mpr (by simp))
      · exact .inl ((f _).mpr (by simp))
    · exact tabs_put (u := .dK (hk m.live)) (tabs_put (tabs_same t2 s3) hp3 trivial) (by walk_at "hp") trivial
/-! use -/
theorem u_give {C : Addr} {Tb : List (Addr × Str)} {K : PySem.W.Frag} {H : Hp} {L L' : List R} {Q : VK} {E : XK} {p t : Addr} {m : SM} {s : Nat} {g : Int} (v : V) (S : Sep C K Tb H L) (pk : Pick (.sl p m) L L') (ht : R.tup t [.int (s : Int), .int g] ∈ L) (hg : g = m.gen s) (hv : (s, v) ∈ m.live) (k : ∀ H', Sep C K Tb H' (.sl p (m.give s) :: L') → Q v H') : spGive C Tb K [.ref p, .ref t] H Q E := by
  subst hg
  obtain ⟨Φ, F, f, h1, h2, h3, tb, hh⟩ := S.step pk
  refine ⟨p, t, m, F, s, v, rfl, f, S.getT ht, hv, tb, fun F' H' s' g o t' => k H' ?_⟩
  exact hh H' Φ [.sl p _] F' o t' (fun _ z => z) (fun _ z => .inl z) (fun a z => (h3 a z).keepF (fun w => h1 a w z) o) ⟨F', s', fun _ z => z, trivial⟩ fun a z => ⟨g a z, fun w => (g a z).elim (fun y => h1 a y w) fun y => (h3 a w).old y⟩

def spCopy (C : Addr) (Tb : List (Addr × Str)) : Sp := fun vs H Q _ => ∃ (p : Addr) (m : SM) (F : Addr → Prop), vs = [.ref p] ∧ Sl C H p m F ∧ LamX.Tabs Tb H ∧
  ∀ (q : Addr) (F' : Addr → Prop) (H' : Hp), Sl C H' q m F' → (∀ b, F' b → New H b) → Out Nil H H' → LamX.Tabs Tb H' → Q (.ref q) H'
theorem ok_Slots_copy (T : Txt K mg) (TB : TBs T base) : FnOk P w K mg base CX0 6 T.f_Slots_copy T.fd_Slots_copy ["self"] (spCopy T.C_Slots T.tabs) := by
  refine T.F_Slots_copy.ok sc_Slots_copy (fun vs H Q E h => ?_) (fun cdv A outer s H vs Q E hr h => ?_)
  · obtain ⟨p, m, F, rfl, _⟩ := h; rfl
  · obtain ⟨p, m, F, rfl, ⟨dx, lo, la, lt, lh, x, f⟩, hT, k⟩ := h
    refine ⟨_, (pss_cons (ps_set (i := 1) sc_Slots_copy.nd rfl lc_Slots_copy_1 (pe_make T.mk_Slots (ok_Slots___init__ T TB) (hr.mono (by decide)) rfl T.g_Slots T.b_Slots___init__ .nil pass0 (pa_cons (pe_fld (pv 0 rfl vs_Slots_copy_0) rfl) (pa_cons (pe_fld (pv 0 rfl vs_Slots_copy_0) rfl) (pa_cons (pe_fld (pv 0 rfl vs_Slots_copy_0) rfl) (pa_cons (pe_fld (pv 0 rfl vs_Slots_copy_0) rfl) pa_nil))))))
  (pss_cons (ps_fld (pv 1 rfl vs_Slots_copy_1) (pe_callTy (c_list (K := K)) (by rfl) T.z_list (by decide +kernel) (pa_cons (pe_fld (pv 0 rfl vs_Slots_copy_0) rfl) pa_nil)) rfl)
  (pss_cons (ps_fld (pv 1 rfl vs_Slots_copy_1) (pe_callTy (c_list (K := K)) (by rfl) T.z_list (by decide +kernel) (pa_cons (pe_fld (pv 0 rfl vs_Slots_copy_0) rfl) pa_nil)) rfl)
  (pss_cons (ps_fld (pv 1 rfl vs_Slots_copy_1) (pe_callTy (c_list (K := K)) (by rfl) T.z_list (by decide +kernel) (pa_cons (pe_fld (pv 0 rfl vs_Slots_copy_0) rfl) pa_nil)) rfl)
  (pss_cons (ps_fld (pv 1 rfl vs_Slots_copy_1) (pe_callTy call_dictD (by rfl) T.z_dict (by decide +kernel) (pa_cons (pe_fld (pv 0 rfl vs_Slots_copy_0) rfl) pa_nil)) rfl)
  (pss_one (ps_ret (pv 1 rfl vs_Slots_copy_1)))))))), ?_⟩
    have cl := T.cl_Slots
    have n1 := T.n_Slots_n
    have n2 := T.n_Slots_limit
    have n3 := T.n_Slots_generations
    have n4 := T.n_Slots_rule
    have n5 := T.n_Slots_order
    have n6 := T.n_Slots_ages
    have n7 := T.n_Slots_taken
    have n8 := T.n_Slots_held
    have hp := x.ins
    walk_at "go"
    walk_at "rd"
    intro q dq hq hdq hne
    have u8 : Out (fun b => b = q) H (upd (upd H dq (.own q)) q (.ins T.C_Slots dq [])) := ((Out.refl H).fresh hdq).upd (.inl rfl)
    have hq' : upd H dq (.own q) q = none := by rw [upd_ne hne.symm]; exact hq
    refine ⟨q, dq, m.n, m.lim, m.g, m.rule, rfl, upd_same, x.ok.ar, tabs_new (tabs_new hT hdq) hq', fun H1 F1 S1 g1 o1 t1 => ⟨rfl, ?_⟩⟩
    have u1 : Out (fun b => b = q) H H1 := u8.trans o1 fun _ z => .inl z
    have nq : New H q := .of hq
    have v1 : Out Nil H H1 := u1.mono fun b z => .inr (by subst z; exact nq)
    have gN : ∀ b, F1 b → New H b := fun b hb => by
      rcases g1 b hb with z | z
      · subst z; exact nq
      · exact (u8.new z).elim (fun z => by subst z; exact nq) fun z => z
    obtain ⟨dy, jo, ja, jt, jh, y, fy⟩ := id S1
    have x1 := x.nil v1
    have hp1 := x1.ins
    have ho1 := x1.o
    have ha1 := x1.a
    have ht1 := x1.t
    have hd1 := x1.d
    have hq1 := y.ins
    have npq : p ≠ q := fun z => by subst z; rw [hp] at hq; cases hq
    walk_at "rd"
    refine r_listl (SqL.of ho1) fun ko hko => ?_
    have c1 : q ≠ ko := ne_of_none hq1 hko
    have c2 : p ≠ ko := ne_of_none hp1 hko
    have c3 : la ≠ ko := ne_of_none ha1 hko
    have c4 : lt ≠ ko := ne_of_none ht1 hko
    have c5 : lh ≠ ko := ne_of_none hd1 hko
    have d1 : la ≠ q := fun z => by subst z; rw [x.a] at hq; cases hq
    have d2 : lt ≠ q := fun z => by subst z; rw [x.t] at hq; cases hq
    have d3 : lh ≠ q := fun z => by subst z; rw [x.d] at hq; cases hq
    walk_at "rd"
    refine r_listl (xs := iv m.ages) (SqL.of (by walk_at "hp")) fun ka hka => ?_
    have e1 : q ≠ ka := fun z => by subst z; rw [upd_same] at hka; cases hka
    have e2 : ko ≠ ka := fun z => by subst z; rw [upd_ne c1.symm, upd_same] at hka; cases hka
    have hka1 : H1 ka = none := by rw [upd_ne e1.symm, upd_ne e2.symm] at hka; exact hka
    have e3 : p ≠ ka := ne_of_none hp1 hka1
    have e4 : lt ≠ ka := ne_of_none ht1 hka1
    have e5 : lh ≠ ka := ne_of_none hd1 hka1
    walk_at "rd"
    refine r_listl (xs := iv m.taken) (SqL.of (by walk_at "hp")) fun kt hkt => ?_
    have f1 : q ≠ kt := fun z => by subst z; rw [upd_same] at hkt; cases hkt
    have f2 : ka ≠ kt := fun z => by subst z; rw [upd_ne e1.symm, upd_same] at hkt; cases hkt
    have f3 : ko ≠ kt := fun z => by subst z; rw [upd_ne c1.symm, upd_ne e2, upd_ne c1.symm, upd_same] at hkt; cases hkt
    have hkt1 : H1 kt = none := by rw [upd_ne f1.symm, upd_ne f2.symm, upd_ne f1.symm, upd_ne f3.symm] at hkt; exact hkt
    have f4 : p ≠ kt := ne_of_none hp1 hkt1
    have f5 : lh ≠ kt := ne_of_none hd1 hkt1
    walk_at "rd"
    refine ⟨lh, hk m.live, rfl, .inl (by walk_at "hp"), fun kh hkh => ?_⟩
    have g1 : q ≠ kh := fun z => by subst z; rw [upd_same] at hkh; cases hkh
    have g2 : kt ≠ kh := fun z => by subst z; rw [upd_ne f1.symm, upd_same] at hkh; cases hkh
    have g3 : ka ≠ kh := fun z => by subst z; rw [upd_ne e1.symm, upd_ne f2, upd_ne e1.symm, upd_same] at hkh; cases hkh
    have g4 : ko ≠ kh := fun z => by subst z; rw [upd_ne c1.symm, upd_ne f3, upd_ne c1.symm, upd_ne e2, upd_ne c1.symm, upd_same] at hkh; cases hkh
    walk_at "rd"
    have hkh1 : H1 kh = none := by rw [upd_ne g1.symm, upd_ne g2.symm, upd_ne g1.symm, upd_ne g3.symm, upd_ne g1.symm, upd_ne g4.symm] at hkh; exact hkh
    have z1 : New H ko := New.back (.of hko) v1
    have z2 : New H ka := New.back (.of hka1) v1
    have z3 : New H kt := New.back (.of hkt1) v1
    have z4 : New H kh := New.back (.of hkh1) v1
    refine k q _ _ (SlAt.sl (dx := dy) (lo := ko) (la := ka) (lt := kt) (lh := kh) ⟨x.ok, ?_, ?_, ?_, ?_, ?_, e2, f3, f2⟩) ?_ ?_ ?_
    · rw [upd_same]; rfl
    · walk_at "hp"
    · walk_at "hp"
    · walk_at "hp"
    · walk_at "hp"
    · rintro b (rfl | rfl | rfl | rfl | rfl)
      · exact nq
      · exact z1
      · exact z2
      · exact z3
      · exact z4
    · exact (((((((v1.upd (.inr z1)).upd (.inr nq)).upd (.inr z2)).upd (.inr nq)).upd (.inr z3)).upd (.inr nq)).upd (.inr z4)).upd (.inr nq)
    · have G : ∀ {H1 : Hp} {o : HO}, LamX.Tabs T.tabs H1 → (∃ C dx fs, H1 q = some (HO.ins C dx fs)) → LamX.Tabs T.tabs (upd H1 q o) := fun t ⟨_, _, _, e⟩ => tabs_put t e trivial
      refine G (tabs_new (G (tabs_new (G (tabs_new (G (tabs_new t1 hko) ?_) hka) ?_) hkt) ?_) hkh) ?_ <;> exact ⟨_, _, _, by walk_at "hp"⟩
/-! use -/
theorem u_copy {C : Addr} {Tb : List (Addr × Str)} {K : PySem.W.Frag} {H : Hp} {L : List R} {Q : VK} {E : XK} {p : Addr} {m : SM} (S : Sep C K Tb H L) (h : R.sl p m ∈ L) (k : ∀ q H', Sep C K Tb H' (.sl q m :: L) → Q (.ref q) H') : spCopy C Tb [.ref p] H Q E := by
  obtain ⟨F, f⟩ := S.slot h
  exact ⟨p, m, F, rfl, f, S.tb, fun q F' H' s n o t => k q H' (S.readSl o t s n)⟩

def spArgs (C : Addr) (Tb : List (Addr × Str)) : Sp := fun vs H Q _ => ∃ (p : Addr) (m : SM) (F : Addr → Prop), vs = [.ref p] ∧ Sl C H p m F ∧ LamX.Tabs Tb H ∧ ∀ (q : Addr) (H' : Hp), H q = none → H' q = some (.tup [.int m.n, .int m.lim, .int m.g, .str m.rule.s]) → Out Nil H H' → LamX.Tabs Tb H' → Q (.ref q) H'
theorem ok_Slots_arguments (T : Txt K mg) (TB : TBs T base) : FnOk P w K mg base CX0 1 T.f_Slots_arguments T.fd_Slots_arguments ["self"] (spArgs T.C_Slots T.tabs) := by
  refine T.F_Slots_arguments.ok sc_Slots_arguments (fun vs H Q E h => ?_) (fun cdv A outer s H vs Q E hr h => ?_)
  · obtain ⟨p, m, F, rfl, _⟩ := h; rfl
  · obtain ⟨p, m, F, rfl, ⟨dx, lo, la, lt, lh, x, f⟩, hT, k⟩ := h
    refine ⟨_, (pss_one (ps_ret (pe_tup (pa_cons (pe_fld (pv 0 rfl vs_Slots_arguments_0) rfl) (pa_cons (pe_fld (pv 0 rfl vs_Slots_arguments_0) rfl) (pa_cons (pe_fld (pv 0 rfl vs_Slots_arguments_0) rfl) (pa_cons (pe_fld (pv 0 rfl vs_Slots_arguments_0) rfl) pa_nil))))))), ?_⟩
    have cl := T.cl_Slots
    have n1 := T.n_Slots_n
    have n2 := T.n_Slots_limit
    have n3 := T.n_Slots_generations
    have n4 := T.n_Slots_rule
    have hp := x.ins
    walk_at "go"
    walk_at "rd"
    intro q hq
    exact k q _ hq upd_same ((Out.refl H).fresh hq) (tabs_new hT hq)

def spState (C : Addr) (Tb : List (Addr × Str)) : Sp := fun vs H Q _ => ∃ (p dx lo la lt lh : Addr) (m : SM), vs = [.ref p] ∧ SlAt C H p dx lo la lt lh m ∧ LamX.Tabs Tb H ∧ ∀ (t q : Addr) (H' : Hp), H' t = some (.tup [.ref lt, .ref la, .ref q]) → H' q = some (.lst (iv m.free)) → Out Nil H H' → LamX.Tabs Tb H' → Q (.ref t) H'
theorem ok_Slots_state (T : Txt K mg) (TB : TBs T base) : FnOk P w K mg base CX0 5 T.f_Slots_state T.fd_Slots_state ["self"] (spState T.C_Slots T.tabs) := by
  refine T.F_Slots_state.ok sc_Slots_state (fun vs H Q E h => ?_) (fun cdv A outer s H vs Q E hr h => ?_)
  · obtain ⟨p, dx, lo, la, lt, lh, m, rfl, _⟩ := h; rfl
  · obtain ⟨p, dx, lo, la, lt, lh, m, rfl, x, hT, k⟩ := h
    refine ⟨_, (pss_one (ps_ret (pe_tup (pa_cons (pe_fld (pv 0 rfl vs_Slots_state_0) rfl) (pa_cons (pe_fld (pv 0 rfl vs_Slots_state_0) rfl) (pa_cons (pe_meth0 (pv 0 rfl vs_Slots_state_0) T.cl_Slots T.mt_Slots_free (ok_Slots_free T TB) (hr.mono (by decide)) T.b_Slots_free .nil pass0) pa_nil)))))), ?_⟩
    have cl := T.cl_Slots
    have n6 := T.n_Slots_ages
    have n7 := T.n_Slots_taken
    have hp := x.ins
    walk_at "go"
    walk_at "rd"
    refine ⟨p, m, _, rfl, x.sl, hT, fun q H1 nq hq o1 t1 => ?_⟩
    walk_at "rd"
    intro t ht
    exact k t q _ upd_same (by rw [upd_ne (ne_of_none hq ht)]; exact hq) (o1.fresh ht) (tabs_new t1 ht)

/-- arguments and states are equal -/
def SM.like (m m' : SM) : Prop := (m.n = m'.n ∧ m.lim = m'.lim ∧ m.g = m'.g ∧ m.rule = m'.rule) ∧ m.taken = m'.taken ∧ m.ages = m'.ages ∧ m.free = m'.free
instance (m m' : SM) : Decidable (m.like m') := by unfold SM.like; infer_instance
def spEq (C : Addr) (Tb : List (Addr × Str)) (K : PySem.W.Frag) : Sp := fun vs H Q _ => ∃ (p q : Addr) (m m' : SM) (F F' : Addr → Prop) (r : Bool), vs = [.ref p, .ref q] ∧ Sl C H p m F ∧ Sl C H q m' F' ∧ LamX.Tabs Tb H ∧ (m.ages = m'.ages → VEqs K H (m.live.map (·.2)) (m'.live.map (·.2)) r) ∧
  ∀ H' : Hp, Out Nil H H' → LamX.Tabs Tb H' → Q (.bl (decide (m.like m') && r)) H'
theorem rl_s : ∀ {a b : Rl}, a.s = b.s → a = b
  | .last, .last, _ => rfl
  | .first, .first, _ => rfl
  | .lowest, .lowest, _ => rfl
  | .least, .least, _ => rfl
  | .last, .first, h => absurd h (by decide +kernel)
  | .last, .lowest, h => absurd h (by decide +kernel)
  | .last, .least, h => absurd h (by decide +kernel)
  | .first, .last, h => absurd h (by decide +kernel)
  | .first, .lowest, h => absurd h (by decide +kernel)
  | .first, .least, h => absurd h (by decide +kernel)
  | .lowest, .last, h => absurd h (by decide +kernel)
  | .lowest, .first, h => absurd h (by decide +kernel)
  | .lowest, .least, h => absurd h (by decide +kernel)
  | .least, .last, h => absurd h (by decide +kernel)
  | .least, .first, h => absurd h (by decide +kernel)
  | .least, .lowest, h => absurd h (by decide +kernel)
def argD (m : SM) : PyData := .tuple [.int m.n, .int m.lim, .int m.g, .str m.rule.s]
theorem argD_eqv (m m' : SM) : PyData.eqv (argD m) (argD m') = decide (m.n = m'.n ∧ m.lim = m'.lim ∧ m.g = m'.g ∧ m.rule = m'.rule) := by
  show (PyData.eqv (.int m.n) (.int m'.n) && (PyData.eqv (.int m.lim) (.int m'.lim) && (PyData.eqv (.int m.g) (.int m'.g) && (PyData.eqv (.str m.rule.s) (.str m'.rule.s) && true)))) = _
  show (((m.n : Int) == (m'.n : Int)) && (((m.lim : Int) == (m'.lim : Int)) && (((m.g : Int) == (m'.g : Int)) && ((m.rule.s == m'.rule.s) && true)))) = _
  have e : (m.rule.s == m'.rule.s) = decide (m.rule = m'.rule) := by
    by_cases h : m.rule = m'.rule
    · rw [h]; simp
    · have h' : ¬ m.rule.s = m'.rule.s := fun z => h (rl_s z)
      simp [h, h']
  rw [e]
  by_cases h1 : m.n = m'.n <;> by_cases h2 : m.lim = m'.lim <;> by_cases h3 : m.g = m'.g <;> simp [h1, h2, h3] <;> omega
theorem argD_shaped (m : SM) : SeqAt.shaped (argD m) = true := by
  have h : PyData.strOk m.rule.s = true := by cases m.rule <;> decide +kernel
  simp [argD, SeqAt.shaped, PyData.canLay0, PyData.canLayAll0, PyData.depth, PyData.depthAll, h]
def stD (m : SM) : PyData := .tuple [.list ((ci m.taken).map .int), .list ((ci m.ages).map .int), .list ((ci m.free).map .int)]
theorem ci_eq (a b : List Nat) : decide (ci a = ci b) = decide (a = b) := by
  by_cases h : a = b
  · subst h; simp
  · have h' : ¬ ci a = ci b := fun z => h (ci_inj z)
    simp [h, h']
theorem stD_eqv (m m' : SM) : PyData.eqv (stD m) (stD m') = decide (m.taken = m'.taken ∧ m.ages = m'.ages ∧ m.free = m'.free) := by
  show (PyData.eqv _ _ && (PyData.eqv _ _ && (PyData.eqv _ _ && true))) = _
  rw [eqv_ints, eqv_ints, eqv_ints, ci_eq, ci_eq, ci_eq]
  by_cases h1 : m.taken = m'.taken <;> by_cases h2 : m.ages = m'.ages <;> by_cases h3 : m.free = m'.free <;> simp [h1, h2, h3]
theorem stD_shaped (m : SM) : SeqAt.shaped (stD m) = true := by
  have h1 := canLay_ints (ci m.taken)
  have h2 := canLay_ints (ci m.ages)
  have h3 := canLay_ints (ci m.free)
  have d1 := depth_ints (ci m.taken)
  have d2 := depth_ints (ci m.ages)
  have d3 := depth_ints (ci m.free)
  simp [stD, SeqAt.shaped, PyData.canLay0, PyData.canLayAll0, PyData.depth, PyData.depthAll, h1, h2, h3, d1, d2, d3]
theorem dp_out {K : PySem.W.Frag} {H H' : Hp} (o : Out Nil H H') : (∀ {v : V} {d : PyData}, Dp K H v d → Dp K H' v d) ∧ (∀ {v : List V} {d : List PyData}, DpAll K H v d → DpAll K H' v d) := by
  suffices h : ∀ n : Nat, (∀ (d : PyData), sizeOf d < n → ∀ {v : V}, Dp K H v d → Dp K H' v d) ∧ (∀ (d : List PyData), sizeOf d < n → ∀ {v : List V}, DpAll K H v d → DpAll K H' v d) from
    ⟨fun {v d} => (h (sizeOf d + 1)).1 d (Nat.lt_succ_self _), fun {v d} => (h (sizeOf d + 1)).2 d (Nat.lt_succ_self _)⟩
  intro n
  induction n with
  | zero => exact ⟨fun _ h => absurd h (Nat.not_lt_zero _), fun _ h => absurd h (Nat.not_lt_zero _)⟩
  | succ n ih =>
    refine ⟨fun d hd v h => ?_, fun d hd v h => ?_⟩
    · cases h with
      | non => exact .non
      | bl b => exact .bl b
      | int i => exact .int i
      | str x => exact .str x
      | lst e a => exact .lst (o.seq (fun z => z) e) (ih.2 _ (by simp at hd; omega) a)
      | tup e a => exact .tup (o.set (fun z => z) e) (ih.2 _ (by simp at hd; omega) a)
    · cases h with
      | nil => exact .nil
      | cons a b => exact .cons (ih.1 _ (by simp at hd; omega) a) (ih.2 _ (by simp at hd; omega) b)
theorem VEq.out {K : PySem.W.Frag} {H H' : Hp} (o : Out Nil H H') {x y : V} {r : Bool} (h : VEq K H x y r) : VEq K H' x y r := by
  cases h with
  | same f => exact .same f
  | ref a => exact .ref a
  | dp d e sd se => exact .dp ((dp_out o).1 d) ((dp_out o).1 e) sd se
theorem VEqs.out {K : PySem.W.Frag} {H H' : Hp} (o : Out Nil H H') {x y : List V} {r : Bool} (h : VEqs K H x y r) : VEqs K H' x y r := by
  induction h with
  | nil => exact .nil
  | cons a _ ih => exact .cons (a.out o) ih
theorem hit_of {K : PySem.W.Frag} {H : Hp} : ∀ {l l2 : List (Nat × V)} {r : Bool} (pre : List (Nat × V)), ((pre ++ l2).map (·.1)).Nodup → l.map (·.1) = l2.map (·.1) → VEqs K H (l.map (·.2)) (l2.map (·.2)) r → HitV K H (hk (pre ++ l2)) (hk l) r
  | [], [], r, pre, _, _, h => by cases h; exact .nil
  | [], _ :: _, _, _, _, e, _ => by cases e
  | _ :: _, [], _, _, _, e, _ => by cases e
  | (i, x) :: l, (j, y) :: l2, r, pre, nd, e, h => by
    obtain ⟨rfl, e2⟩ := List.cons.inj e
    generalize hx : (((i, x) :: l).map (·.2)) = X at h
    generalize hy : (((i, y) :: l2).map (·.2)) = Y at h
    cases h with
    | nil => cases hx
    | cons a b =>
      cases hx; cases hy
      refine .hit (hk_val nd (List.mem_append_right _ List.mem_cons_self)) a ?_
      have := hit_of (K := K) (H := H) (l := l) (l2 := l2) (pre ++ [(i, y)]) (by simpa using nd) e2 b
      have ee : pre ++ [(i, y)] ++ l2 = pre ++ (i, y) :: l2 := by simp
      rw [ee] at this
      exact this
theorem ok_Slots___eq__ (T : Txt K mg) (TB : TBs T base) : FnOk P w K mg base CX0 6 T.f_Slots___eq__ T.fd_Slots___eq__ ["self", "other"] (spEq T.C_Slots T.tabs K) := by
  refine T.F_Slots___eq__.ok sc_Slots___eq__ (fun vs H Q E h => ?_) (fun cdv A outer s H vs Q E hr h => ?_)
  · obtain ⟨p, q, m, m', F, F', r, rfl, _⟩ := h; rfl
  · obtain ⟨p, q, m, m', F, F', r, rfl, S, S', hT, hv, k⟩ := h
    refine ⟨_, (pss_cons (ps_if (PW.pt (pw_or (pt_not (pt_val (pe_callB (isiK (K := K)) (by rfl) T.z_isinstance (by decide +kernel) (pa_cons (pv 1 rfl vs_Slots___eq___1) (pa_cons (pe_glob (v := .ref T.C_Slots) rfl T.g_Slots rfl) pa_nil))))) (pw_or1 (pt_cmpR (neK hr.units (K := K)) (pe_meth0 (pv 0 rfl vs_Slots___eq___0) T.cl_Slots T.mt_Slots_arguments (ok_Slots_arguments T TB) (hr.mono (by decide)) T.b_Slots_arguments .nil pass0) (pe_meth0 (pv 1 rfl vs_Slots___eq___1) T.cl_Slots T.mt_Slots_arguments (ok_Slots_arguments T TB) (hr.mono (by decide)) T.b_Slots_arguments .nil pass0) (nomark _))))) (pss_one (ps_ret pe_bl)) pss_nil)
  (pss_one (ps_ret (pe_and (pe_cmpR (eqK hr.units (K := K)) (pe_meth0 (pv 0 rfl vs_Slots___eq___0) T.cl_Slots T.mt_Slots_state (ok_Slots_state T TB) (hr.mono (by decide)) T.b_Slots_state .nil pass0) (pe_meth0 (pv 1 rfl vs_Slots___eq___1) T.cl_Slots T.mt_Slots_state (ok_Slots_state T TB) (hr.mono (by decide)) T.b_Slots_state .nil pass0) (nomark _)) (pe_one (pe_cmpR (eqDk (hu65 hr) (K := K)) (pe_fld (pv 0 rfl vs_Slots___eq___0) rfl) (pe_fld (pv 1 rfl vs_Slots___eq___1) rfl) (nomark _))))))), ?_⟩
    have cl := T.cl_Slots
    have n8 := T.n_Slots_held
    obtain ⟨dx, lo, la, lt, lh, x, f⟩ := id S
    obtain ⟨dy, ko, ka, kt, kh, y, g⟩ := id S'
    have hp := x.ins
    have hq := y.ins
    walk_at "go"
    walk_at "rd"
    refine r_isiOwn T.it_Slots cl hq ?_
    walk_at "rd"
    refine ⟨p, m, F, rfl, S, hT, fun t1 H1 nt1 ht1 o1 tb1 => ?_⟩
    have hq1 := o1.ins (fun z => z) hq
    walk_at "rd"
    refine ⟨q, m', F', rfl, S'.nil o1, tb1, fun t2 H2 nt2 ht2 o2 tb2 => ?_⟩
    have o12 := o1.nil o2
    have hp2 := o12.ins (fun z => z) hp
    have hq2 := o12.ins (fun z => z) hq
    have ht12 := o2.tup (fun z => z) ht1
    refine ⟨argD m, argD m', .tup (SqT.of ht12) (.cons (.int _) (.cons (.int _) (.cons (.int _) (.cons (.str _) .nil)))), .tup (SqT.of ht2) (.cons (.int _) (.cons (.int _) (.cons (.int _) (.cons (.str _) .nil)))), argD_shaped m, argD_shaped m', ?_⟩
    rw [argD_eqv]
    walk_at "rd"
    refine if_nd (fun c => ?_) (fun c => ?_)
    · walk_at "rd"
      have e : (decide (m.like m') && r) = false := by
        have : ¬ m.like m' := fun z => c z.1
        simp [this]
      rw [← e]
      exact k _ o12 tb2
    · walk_at "rd"
      refine ⟨p, dx, lo, la, lt, lh, m, rfl, x.nil o12, tb2, fun t3 q3 H3 ht3 hq3 o3 tb3 => ?_⟩
      have o13 := o12.nil o3
      have hq3' := o13.ins (fun z => z) hq
      walk_at "rd"
      refine ⟨q, dy, ko, ka, kt, kh, m', rfl, y.nil o13, tb3, fun t4 q4 H4 ht4 hq4 o4 tb4 => ?_⟩
      have o14 := o13.nil o4
      have x4 := x.nil o14
      have y4 := y.nil o14
      refine ⟨stD m, stD m', .tup (SqT.of (o4.tup (fun z => z) ht3)) (.cons (.lst (SqL.of x4.t) (dpall_ints _)) (.cons (.lst (SqL.of x4.a) (dpall_ints _)) (.cons (.lst (SqL.of (o4.lst (fun z => z) hq3)) (dpall_ints _)) .nil))), .tup (SqT.of ht4) (.cons (.lst (SqL.of y4.t) (dpall_ints _)) (.cons (.lst (SqL.of y4.a) (dpall_ints _)) (.cons (.lst (SqL.of hq4) (dpall_ints _)) .nil))), stD_shaped m, stD_shaped m', ?_⟩
      rw [stD_eqv]
      have hp4 := x4.ins
      have hq4' := y4.ins
      walk_at "rd"
      refine if_d (fun d => ?_) (fun d => ?_)
      · walk_at "rd"
        have lk : m.like m' := ⟨c, d⟩
        have hl : (hk m.live).length = (hk m'.live).length := by
          have := congrArg List.length d.2.1
          simpa [hk, SM.ages] using this
        refine ⟨lh, kh, hk m.live, hk m'.live, r, rfl, rfl, x4.d, y4.d, fun _ => ?_, ?_⟩
        · exact hit_of (l := m.live) [] y.ok.nodupA d.2.1 ((hv d.2.1).out o14)
        · have e : (decide (m.like m') && r) = ((hk m.live).length == (hk m'.live).length && r) := by rw [decide_eq_true lk, hl]; simp
          rw [← e]
          exact k _ o14 tb4
      · have e : (decide (m.like m') && r) = false := by
          have : ¬ m.like m' := fun z => d z.2
          simp [this]
        rw [← e]
        exact k _ o14 tb4
/-! use -/
theorem u_eqO {C : Addr} {Tb : List (Addr × Str)} {K : PySem.W.Frag} {H : Hp} {L : List R} {Q : VK} {E : XK} {p q : Addr} {m m' : SM} (neg : Bool) {r : Bool} (S : Sep C K Tb H L) (h : R.sl p m ∈ L) (h' : R.sl q m' ∈ L) (hv : m.ages = m'.ages → VEqs K H (m.live.map (·.2)) (m'.live.map (·.2)) r) (k : ∀ H', Sep C K Tb H' L → Q (.bl (if neg then !(decide (m.like m') && r) else (decide (m.like m') && r))) H') : rEqOwn C (spEq C Tb K) E neg (.ref p) (.ref q) H Q := by
  obtain ⟨F, f⟩ := S.slot h
  obtain ⟨F', f'⟩ := S.slot h'
  obtain ⟨dx, lo, la, lt, lh, x, _⟩ := id f
  obtain ⟨dy, ko, ka, kt, kh, y, _⟩ := id f'
  exact ⟨p, q, dx, dy, _, _, rfl, rfl, x.ins, y.ins, p, q, m, m', F, F', r, rfl, f, f', S.tb, hv, fun H' o t' => ⟨_, rfl, k H' (S.read o t')⟩⟩
def Plv : V → Prop
  | .ref _ => True
  | v => flatB v = true
theorem veqs_same {K : PySem.W.Frag} {H : Hp} : ∀ {l : List V}, (∀ v ∈ l, Plv v) → VEqs K H l l true
  | [], _ => .nil
  | v :: l, h => by
    have h1 := h v List.mem_cons_self
    have h2 : VEq K H v v true := by
      cases v <;> first | exact .ref _ | exact .same h1
    exact .cons h2 (veqs_same fun u hu => h u (List.mem_cons_of_mem _ hu))

def spCell (K : PySem.W.Frag) : Sp := fun vs H Q _ => ∃ (a : Addr) (ns : List Int) (i : Nat), vs = [.ref a, .int i] ∧ SqL K H a (ns.map V.int) ∧ ∀ z : Int, Q (.int z) H
theorem ok__law_cell_at (T : Txt K mg) (TB : TBs T base) : FnOk P w K mg base CX0 1 T.f__law_cell_at T.fd__law_cell_at ["_law_script", "_law_k"] (spCell K) := by
  refine T.F__law_cell_at.ok sc__law_cell_at (fun vs H Q E h => ?_) (fun cdv A outer s H vs Q E hr h => ?_)
  · obtain ⟨a, ns, i, rfl, _⟩ := h; rfl
  · obtain ⟨a, ns, i, rfl, hl, k⟩ := h
    refine ⟨_, (pss_cons (ps_if (pt_cmpR op_lt (pv 1 rfl vs__law_cell_at_1) (pe_callB (c_len (K := K)) (by rfl) T.z_len (by decide +kernel) (pa_cons (pv 0 rfl vs__law_cell_at_0) pa_nil)) (nomark _)) (pss_one (ps_ret (pe_ix (ixL (K := K)) (pv 0 rfl vs__law_cell_at_0) (pv 1 rfl vs__law_cell_at_1) (fun _ _ => rfl)))) pss_nil)
  (pss_one (ps_ret pe_int))), ?_⟩
    walk_at "go"
    walk_at "rd"
    refine r_lenl hl ?_
    walk_at "rd"
    refine if_d (fun c0 => ?_) (fun c0 => ?_)
    · walk_at "rd"
      rw [List.length_map] at c0
      have hi : i < ns.length := by omega
      refine r_ixl hl (atI_nat (v := V.int ns[i]) (by simp [hi])) ?_
      exact k _
    · walk_at "rd"
      exact k _

def spSource : Sp := fun vs H Q _ => ∃ c : Int, vs = [.int c] ∧ ∀ (p : Addr) (H' : Hp), H p = none → Src H' p → Same H H' → Q (.ref p) H'
theorem ok__law_source_of (T : Txt K mg) (TB : TBs T base) : FnOk P w K mg base CX0 1 T.f__law_source_of T.fd__law_source_of ["_law_cell"] spSource := by
  refine T.F__law_source_of.ok sc__law_source_of (fun vs H Q E h => ?_) (fun cdv A outer s H vs Q E hr h => ?_)
  · obtain ⟨c, rfl, _⟩ := h; rfl
  · obtain ⟨c, rfl, k⟩ := h
    refine ⟨_, (pss_cons (ps_set (i := 0) sc__law_source_of.nd rfl lc__law_source_of_0 (pe_ifExp (pt_cmpR op_ge (pv 0 rfl vs__law_source_of_0) pe_int (nomark _)) (pv 0 rfl vs__law_source_of_0) (pe_op op_sub (pe_op op_sub pe_int (pe_op op_mul pe_int (pv 0 rfl vs__law_source_of_0))) pe_int)))
  (pss_one (ps_ret (pe_lst (pa_cons (pe_op op_mul (pv 0 rfl vs__law_source_of_0) (pe_callTy c_int (by rfl) T.z_int (by decide +kernel) (pa_cons (pe_cmpR op_ge (pv 0 rfl vs__law_source_of_0) (pe_op op_pow pe_int pe_int) (nomark _)) pa_nil))) (pa_cons (pe_op op_mod (pe_callTy c_int (by rfl) T.z_int (by decide +kernel) (pa_cons (pv 0 rfl vs__law_source_of_0) pa_nil)) pe_int) (pa_cons pe_int pa_nil))))))), ?_⟩
    walk_at "go"
    walk_at "rd"
    refine if_d (fun c0 => ?_) (fun c0 => ?_)
    · walk_at "rd"
      exact fun p hp => k p _ hp ⟨_, _, _, upd_same⟩ (Same.upd (Same.refl H) hp)
    · walk_at "rd"
      exact fun p hp => k p _ hp ⟨_, _, _, upd_same⟩ (Same.upd (Same.refl H) hp)
/-! use -/
theorem u_source {C : Addr} {Tb : List (Addr × Str)} {K : PySem.W.Frag} {H : Hp} {L : List R} {Q : VK} {E : XK} {c : Int} (S : Sep C K Tb H L) (k : ∀ p H', Sep C K Tb H' (.src p :: L) → Q (.ref p) H') : spSource [.int c] H Q E := ⟨c, rfl, fun p H' n s o => k p H' (S.readSrc n s o)⟩

theorem ok__law_next (T : Txt K mg) (TB : TBs T base) : FnOk P w K mg base CX0 1 T.f__law_next T.fd__law_next ["_law_source", "_law_many"] spNext := by
  refine T.F__law_next.ok sc__law_next (fun vs H Q E h => ?_) (fun cdv A outer s H vs Q E hr h => ?_)
  · obtain ⟨s, m, rfl, _⟩ := h; rfl
  · obtain ⟨s, m, rfl, ⟨a, b, c, hs⟩, h0, h1, k⟩ := h
    refine ⟨_, (pss_cons (ps_if (pt_cmpR op_gt (pe_ix (ixL (K := K)) (pv 0 rfl vs__law_next_0) pe_int (fun _ _ => rfl)) pe_int (nomark _)) (pss_cons (ps_set (i := 2) sc__law_next.nd rfl lc__law_next_2 (pe_op op_mod (pe_callTy c_int (by rfl) T.z_int (by decide +kernel) (pa_cons (pe_ix (ixL (K := K)) (pv 0 rfl vs__law_next_0) pe_int (fun _ _ => rfl)) pa_nil)) (pv 1 rfl vs__law_next_1)))
  (pss_cons (ps_asg (pe_op op_fdiv (pe_ix (ixL (K := K)) (pv 0 rfl vs__law_next_0) pe_int (fun _ _ => rfl)) (pv 1 rfl vs__law_next_1)) (pg_sub (pv 0 rfl vs__law_next_0) pe_int set_list))
  (pss_one (ps_ret (pv 2 rfl vs__law_next_2))))) pss_nil)
  (pss_cons (ps_asg (pe_op op_add (pe_ix (ixL (K := K)) (pv 0 rfl vs__law_next_0) pe_int (fun _ _ => rfl)) pe_int) (pg_sub (pv 0 rfl vs__law_next_0) pe_int set_list))
  (pss_cons (ps_set (i := 3) sc__law_next.nd rfl lc__law_next_3 pe_int)
  (pss_cons (ps_set (i := 4) sc__law_next.nd rfl lc__law_next_4 (pe_op op_mod (pe_callTy c_int (by rfl) T.z_int (by decide +kernel) (pa_cons (pe_op op_add (pe_op op_add (pe_ix (ixL (K := K)) (pv 0 rfl vs__law_next_0) pe_int (fun _ _ => rfl)) (pe_op op_mul pe_int (pe_ix (ixL (K := K)) (pv 0 rfl vs__law_next_0) pe_int (fun _ _ => rfl)))) pe_int) pa_nil)) (pv 3 rfl vs__law_next_3)))
  (pss_cons (ps_set (i := 4) sc__law_next.nd rfl lc__law_next_4 (pe_op op_mod (pe_callTy c_int (by rfl) T.z_int (by decide +kernel) (pa_cons (pe_op op_mul (pv 4 rfl vs__law_next_4) pe_int) pa_nil)) (pv 3 rfl vs__law_next_3)))
  (pss_cons (ps_set (i := 4) sc__law_next.nd rfl lc__law_next_4 (pe_op op_mod (pe_callTy c_int (by rfl) T.z_int (by decide +kernel) (pa_cons (pe_op op_mul (pv 4 rfl vs__law_next_4) (pe_op op_add (pe_op op_fdiv (pv 4 rfl vs__law_next_4) pe_int) pe_int)) pa_nil)) (pv 3 rfl vs__law_next_3)))
  (pss_cons (ps_set (i := 4) sc__law_next.nd rfl lc__law_next_4 (pe_op op_mod (pe_callTy c_int (by rfl) T.z_int (by decide +kernel) (pa_cons (pe_op op_mul (pv 4 rfl vs__law_next_4) (pe_op op_add (pe_op op_fdiv (pv 4 rfl vs__law_next_4) pe_int) pe_int)) pa_nil)) pe_int))
  (pss_one (ps_ret (pe_op op_mod (pe_callTy c_int (by rfl) T.z_int (by decide +kernel) (pa_cons (pe_op op_fdiv (pv 4 rfl vs__law_next_4) pe_int) pa_nil)) (pv 1 rfl vs__law_next_1))))))))))), ?_⟩
    walk_at "go"
    walk_at "rd"
    refine if_d (fun c0 => ?_) (fun c0 => ?_)
    · walk_at "rd"
      exact k _ _ (Int.emod_nonneg _ (by omega)) (Int.emod_lt_of_pos _ h0) ⟨_, _, _, upd_same⟩ fun b hb => upd_ne hb
    · walk_at "rd"
      exact k _ _ (Int.emod_nonneg _ (by omega)) (Int.emod_lt_of_pos _ h0) ⟨_, _, _, upd_same⟩ fun b hb => upd_ne hb
/-! use -/
theorem u_next {C : Addr} {Tb : List (Addr × Str)} {K : PySem.W.Frag} {H : Hp} {L L' : List R} {Q : VK} {E : XK} {s : Addr} {m : Int} (S : Sep C K Tb H L) (pk : Pick (.src s) L L') (h0 : 0 < m) (h1 : m < 1073741824) (k : ∀ (r : Nat) H', (r : Int) < m → Sep C K Tb H' (.src s :: L') → Q (.int (r : Int)) H') : spNext [.ref s, .int m] H Q E :=
  ⟨s, m, rfl, S.getS pk.mem, h0, h1, fun r H' r0 r1 s' o => by
    obtain ⟨j, rfl⟩ : ∃ j : Nat, r = (j : Int) := ⟨r.toNat, by omega⟩
    exact k j H' r1 (S.draw pk s' o)⟩

def spOne (K : PySem.W.Frag) : Sp := fun vs H Q _ => ∃ (s l : Addr) (xs : List V), vs = [.ref s, .ref l] ∧ Src H s ∧ l ≠ s ∧ SqL K H l xs ∧ 0 < xs.length ∧ xs.length < 1073741824 ∧ ∀ (v : V) (H' : Hp), v ∈ xs → Src H' s → Off s H H' → Q v H'
theorem ok__law_one (T : Txt K mg) (TB : TBs T base) : FnOk P w K mg base CX0 2 T.f__law_one T.fd__law_one ["_law_source", "_law_some"] (spOne K) := by
  refine T.F__law_one.ok sc__law_one (fun vs H Q E h => ?_) (fun cdv A outer s H vs Q E hr h => ?_)
  · obtain ⟨s, l, xs, rfl, _⟩ := h; rfl
  · obtain ⟨s, l, xs, rfl, hs, hn, hl, h0, h1, k⟩ := h
    refine ⟨_, (pss_one (ps_ret (pe_ix (ixL (K := K)) (pv 1 rfl vs__law_one_1) (pe_call (ok__law_next T TB) (hr.mono (by decide)) rfl T.m__law_next T.F__law_next.kp T.b__law_next .nil pass0 (pa_cons (pv 0 rfl vs__law_one_0) (pa_cons (pe_callB (c_len (K := K)) (by rfl) T.z_len (by decide +kernel) (pa_cons (pv 1 rfl vs__law_one_1) pa_nil)) pa_nil))) (fun _ _ => rfl)))), ?_⟩
    walk_at "go"
    walk_at "rd"
    refine r_lenl hl ?_
    walk_at "rd"
    refine ⟨s, _, rfl, hs, by omega, by omega, fun r H' r0 r1 hs' off => ?_⟩
    obtain ⟨j, rfl⟩ : ∃ j : Nat, r = (j : Int) := ⟨r.toNat, by omega⟩
    have hj : j < xs.length := by omega
    refine r_ixl (off.kp.seq hn hl) (atI_nat (List.getElem?_eq_getElem hj)) ?_
    exact k _ _ (List.getElem_mem hj) hs' off
/-! use -/
theorem u_one {C : Addr} {Tb : List (Addr × Str)} {K : PySem.W.Frag} {H : Hp} {L L' : List R} {Q : VK} {E : XK} {s l : Addr} {xs : List V} (S : Sep C K Tb H L) (pk : Pick (.src s) L L') (hl : R.cell l (.lst xs) ∈ L') (h0 : 0 < xs.length) (h1 : xs.length ≤ 1000000) (k : ∀ v H', v ∈ xs → Sep C K Tb H' (.src s :: L') → Q v H') : spOne K [.ref s, .ref l] H Q E := by
  have S' := S.pick pk
  refine ⟨s, l, xs, rfl, S.getS pk.mem, ?_, SqL.of (S'.get (List.mem_cons_of_mem _ hl)), h0, by omega, fun v H' m s' o => k v H' m (S.draw pk s' o)⟩
  obtain ⟨⟨Φ, _, F, f, _, h3⟩, _⟩ := S'
  obtain ⟨G, g, u⟩ := h3.at hl
  intro e
  exact (u l ((g.2.2 l).mpr rfl)).2 ((f.2 l).mpr e)

def spNumbers (C : Addr) (K : PySem.W.Frag) (Tb : List (Addr × Str)) : Sp := fun vs H Q _ => ∃ (L : List R) (s : Addr) (most : Nat), vs = [.ref s, .int most] ∧ Sep C K Tb H (.src s :: L) ∧ 1 ≤ most ∧ most ≤ 64 ∧
  ∀ (q : Addr) (n l g : Nat) (r : Rl) (H' : Hp), Args n l g → n ≤ most → Sep C K Tb H' (.tup q [.int n, .int l, .int g, .str r.s] :: .src s :: L) → Q (.ref q) H'
theorem ok__law_numbers (T : Txt K mg) (TB : TBs T base) : FnOk P w K mg base CX0 3 T.f__law_numbers T.fd__law_numbers ["_law_source", "_law_most"] (spNumbers T.C_Slots K T.tabs) := by
  refine T.F__law_numbers.ok sc__law_numbers (fun vs H Q E h => ?_) (fun cdv A outer s H vs Q E hr h => ?_)
  · obtain ⟨L, s, most, rfl, _⟩ := h; rfl
  · obtain ⟨L, s, most, rfl, S, m1, m2, k⟩ := h
    refine ⟨_, (pss_cons (ps_set (i := 2) sc__law_numbers.nd rfl lc__law_numbers_2 (pe_op op_add pe_int (pe_call (ok__law_next T TB) (hr.mono (by decide)) rfl T.m__law_next T.F__law_next.kp T.b__law_next .nil pass0 (pa_cons (pv 0 rfl vs__law_numbers_0) (pa_cons (pv 1 rfl vs__law_numbers_1) pa_nil)))))
  (pss_cons (ps_set (i := 3) sc__law_numbers.nd rfl lc__law_numbers_3 (pe_call (ok__law_one T TB) (hr.mono (by decide)) rfl T.m__law_one T.F__law_one.kp T.b__law_one .nil pass0 (pa_cons (pv 0 rfl vs__law_numbers_0) (pa_cons (pe_lst (pa_cons pe_int (pa_cons (pv 2 rfl vs__law_numbers_2) (pa_cons (pe_op op_add pe_int (pe_call (ok__law_next T TB) (hr.mono (by decide)) rfl T.m__law_next T.F__law_next.kp T.b__law_next .nil pass0 (pa_cons (pv 0 rfl vs__law_numbers_0) (pa_cons (pv 2 rfl vs__law_numbers_2) pa_nil)))) pa_nil)))) pa_nil))))
  (pss_cons (ps_set (i := 4) sc__law_numbers.nd rfl lc__law_numbers_4 (pe_call (ok__law_one T TB) (hr.mono (by decide)) rfl T.m__law_one T.F__law_one.kp T.b__law_one .nil pass0 (pa_cons (pv 0 rfl vs__law_numbers_0) (pa_cons (pe_lst (pa_cons pe_int (pa_cons pe_int (pa_cons pe_int (pa_cons pe_int (pa_cons pe_int (pa_cons (pe_op op_pow pe_int pe_int) pa_nil))))))) pa_nil))))
  (pss_one (ps_ret (pe_tup (pa_cons (pv 2 rfl vs__law_numbers_2) (pa_cons (pv 3 rfl vs__law_numbers_3) (pa_cons (pv 4 rfl vs__law_numbers_4) (pa_cons (pe_call (ok__law_one T TB) (hr.mono (by decide)) rfl T.m__law_one T.F__law_one.kp T.b__law_one .nil pass0 (pa_cons (pv 0 rfl vs__law_numbers_0) (pa_cons (pe_lst (pa_cons pe_str (pa_cons pe_str (pa_cons pe_str (pa_cons pe_str pa_nil))))) pa_nil))) pa_nil)))))))))), ?_⟩
    walk_at "go"
    walk_at "sd"
    refine u_next S (by walk_at "pk") (by omega) (by omega) fun n H1 hn S1 => ?_
    walk_at "sd"
    refine u_next S1 (by walk_at "pk") (by omega) (by omega) fun j H2 hj S2 => ?_
    walk_at "sd"
    rename_i a1 H3 S3
    refine u_one S3 (by walk_at "pk") (by walk_at "mm") (by simp) (by walk_at "sz") fun v H4 hv S4 => ?_
    obtain ⟨l, rfl, l1, l2⟩ := lim_mem (n := n + 1) (k := j) (by omega) (by simpa using hv)
    walk_at "sd"
    rename_i a2 H5 S5
    refine u_one S5 (by walk_at "pk") (by walk_at "mm") (by simp) (by walk_at "sz") fun v H6 hv S6 => ?_
    obtain ⟨g, rfl, g1, g2⟩ : ∃ g : Nat, v = .int (g : Int) ∧ 1 ≤ g ∧ g ≤ 1000000000 := by
      simp only [List.mem_cons, List.not_mem_nil, or_false] at hv
      rcases hv with rfl | rfl | rfl | rfl | rfl | rfl
      · exact ⟨1, rfl, by decide, by decide⟩
      · exact ⟨2, rfl, by decide, by decide⟩
      · exact ⟨3, rfl, by decide, by decide⟩
      · exact ⟨5, rfl, by decide, by decide⟩
      · exact ⟨1000, rfl, by decide, by decide⟩
      · exact ⟨1000000000, rfl, by decide, by decide⟩
    walk_at "sd"
    rename_i a3 H7 S7
    refine u_one S7 (by walk_at "pk") (by walk_at "mm") (by simp) (by walk_at "sz") fun v H8 hv S8 => ?_
    obtain ⟨r, rfl⟩ := rl_mem hv
    walk_at "sd"
    rename_i q H9 S9
    refine k q (n + 1) l g r _ ⟨by omega, by omega, by omega, by omega, by omega, by omega⟩ (by omega) ?_
    have e : ((n + 1 : Nat) : Int) = 1 + (n : Int) := by omega
    rw [e]
    exact S9.fit (by walk_at "ft")
/-! use -/
theorem u_numbers {C : Addr} {Tb : List (Addr × Str)} {K : PySem.W.Frag} {H : Hp} {L L' : List R} {Q : VK} {E : XK} {s : Addr} {most : Nat} (S : Sep C K Tb H L) (pk : Pick (.src s) L L') (h1 : 1 ≤ most) (h2 : most ≤ 64)
    (k : ∀ (q : Addr) (n l g : Nat) (r : Rl) (H' : Hp), Args n l g → n ≤ most → Sep C K Tb H' (.tup q [.int n, .int l, .int g, .str r.s] :: .src s :: L') → Q (.ref q) H') : spNumbers C K Tb [.ref s, .int (most : Int)] H Q E := ⟨L', s, most, rfl, S.pick pk, h1, h2, k⟩

def spDeeds (C : Addr) (K : PySem.W.Frag) (Tb : List (Addr × Str)) : Sp := fun vs H Q _ => ∃ (L : List R) (s : Addr) (lim many : Nat), vs = [.ref s, .int lim, .int many] ∧ Sep C K Tb H (.src s :: L) ∧ 1 ≤ lim ∧ lim ≤ 64 ∧ many ≤ 1000 ∧
  ∀ (q : Addr) (xs : List V) (ds : List Deed) (H' : Hp), ds.length = many → (∃ b, goD lim 0 ds = some b) → Sep C K Tb H' (.cell q (.lst xs) :: .dats xs (ds.map dD) :: .src s :: L) → Q (.ref q) H'
theorem goD_le {lim : Nat} : ∀ {ds : List Deed} {a b : Nat}, goD lim a ds = some b → b ≤ a + ds.length
  | [], a, b, h => by
    have : a = b := Option.some.inj h
    simp; omega
  | none :: r, a, b, h => by
    have h' : (if a < lim then goD lim (a + 1) r else none) = some b := h
    split at h'
    · have := goD_le h'; simp; omega
    · cases h'
  | some k :: r, a, b, h => by
    have h' : (if k < a then goD lim (a - 1) r else none) = some b := h
    split at h'
    · have := goD_le h'; simp; omega
    · cases h'
theorem ok__law_deeds (T : Txt K mg) (TB : TBs T base) : FnOk P w K mg base CX0 2 T.f__law_deeds T.fd__law_deeds ["_law_source", "_law_limit", "_law_many"] (spDeeds T.C_Slots K T.tabs) := by
  refine T.F__law_deeds.ok sc__law_deeds (fun vs H Q E h => ?_) (fun cdv A outer s H vs Q E hr h => ?_)
  · obtain ⟨L, s, l, n, rfl, _⟩ := h; rfl
  · obtain ⟨L, s, lim, many, rfl, S, l1, l2, n1, k⟩ := h
    refine ⟨_, (pss_cons (ps_par (i := 3) (j := 4) (by rfl) sc__law_deeds.nd rfl rfl (by decide) rfl rfl (pa_cons (pe_lst pa_nil) (pa_cons pe_int pa_nil)) (by rfl))
  (pss_cons (ps_for PassesOwn.never rfl (pi_range1 (by rfl) T.z_range (pa_cons (pv 2 rfl vs__law_deeds_2) pa_nil)) (pg_name (i := 5) sc__law_deeds.nd rfl lc__law_deeds_5) (pss_one (ifJ (ps_if (PW.pt (pw_and (pt_cmpR op_lt (pv 4 rfl vs__law_deeds_4) (pv 1 rfl vs__law_deeds_1) (nomark _)) (pw_and1 (PW.pt (pw_or (pt_cmpR op_eq (pv 4 rfl vs__law_deeds_4) pe_int (nomark _)) (pw_or1 (pt_cmpR op_eq (pe_call (ok__law_next T TB) (hr.mono (by decide)) rfl T.m__law_next T.F__law_next.kp T.b__law_next .nil pass0 (pa_cons (pv 0 rfl vs__law_deeds_0) (pa_cons pe_int pa_nil))) pe_int (nomark _)))))))) (pss_cons (ps_expr (pe_bm PySem.F.plainAttrs_list PySem.F.slot_list_append PySem.F.type_list_append mt_append (pv 3 rfl vs__law_deeds_3) (pa_cons pe_str pa_nil)))
  (pss_one (ps_set (i := 4) sc__law_deeds.nd rfl lc__law_deeds_4 (pe_op op_add (pv 4 rfl vs__law_deeds_4) pe_int)))) (pss_cons (ps_expr (pe_bm PySem.F.plainAttrs_list PySem.F.slot_list_append PySem.F.type_list_append mt_append (pv 3 rfl vs__law_deeds_3) (pa_cons (pe_tup (pa_cons pe_str (pa_cons (pe_call (ok__law_next T TB) (hr.mono (by decide)) rfl T.m__law_next T.F__law_next.kp T.b__law_next .nil pass0 (pa_cons (pv 0 rfl vs__law_deeds_0) (pa_cons (pv 4 rfl vs__law_deeds_4) pa_nil))) pa_nil))) pa_nil)))
  (pss_one (ps_set (i := 4) sc__law_deeds.nd rfl lc__law_deeds_4 (pe_op op_sub (pv 4 rfl vs__law_deeds_4) pe_int))))))))
  (pss_one (ps_ret (pv 3 rfl vs__law_deeds_3))))), ?_⟩
    walk_at "go"
    walk_at "sd"
    rename_i q H0 S0
    refine rng1L many rfl (by omega) ?_
    refine loop_range (fun i σ H' => ∃ (v5 : Option V) (xs : List V) (ds : List Deed) (al : Nat), σ = [some (.ref s), some (.int lim), some (.int many), some (.ref q), some (.int al), v5] ∧ ds.length = i ∧ goD lim 0 ds = some al ∧ Sep T.C_Slots K T.tabs H' (.cell q (.lst xs) :: .dats xs (ds.map dD) :: .src s :: L)) ⟨_, [], [], 0, rfl, rfl, rfl, (S0.dats (v := []) (d := ([] : List Deed).map dD) .nil).fit (by walk_at "ft")⟩ ?_ ?_
    · rintro i σ H1 hi ⟨v5, xs, ds, al, rfl, hl, hg, S1⟩
      have hga := goD_le hg
      have hxs : xs.length ≤ 1000 := by
        have := S1.len (.dats (by walk_at "mm")); simp at this; omega
      walk_at "sd"
      refine r_join (fun H2 => al < lim ∧ Sep T.C_Slots K T.tabs H2 (.cell q (.lst xs) :: .dats xs (ds.map dD) :: .src s :: L)) (fun H2 => 0 < al ∧ Sep T.C_Slots K T.tabs H2 (.cell q (.lst xs) :: .dats xs (ds.map dD) :: .src s :: L)) (fun A B hA hB => ?_) ?_ ?_
      · walk_at "sd"
        refine if_d (fun c => ?_) (fun c => ?_)
        · walk_at "sd"
          refine if_d (fun c0 => ?_) (fun c0 => ?_)
          · walk_at "sd"
            exact hA _ ⟨by omega, S1⟩
          · walk_at "sd"
            refine u_next S1 (by walk_at "pk") (by omega) (by omega) fun r H2 hr2 S2 => ?_
            walk_at "sd"
            refine if_d (fun c1 => ?_) (fun c1 => ?_)
            · exact hA _ ⟨by omega, by walk_at "sp"⟩
            · exact hB _ ⟨by omega, by walk_at "sp"⟩
        · walk_at "sd"
          exact hB _ ⟨by omega, S1⟩
      · rintro H2 ⟨ha, S2⟩
        walk_at "sd"
        rename_i H3 S3
        refine ⟨some (.int i), xs ++ [.str "take"], ds ++ [none], al + 1, by simp, by simp; omega, goD_take hg ha, ?_⟩
        have S4 := S3.dats (v := xs ++ [.str "take"]) (d := (ds ++ [none]).map dD) (by rw [List.map_append]; exact .app (.dats (by walk_at "mm")) (.cons (.str _) .nil))
        exact S4.fit (by walk_at "ft")
      · rintro H2 ⟨ha, S2⟩
        walk_at "sd"
        refine u_next S2 (by walk_at "pk") (by omega) (by omega) fun r H3 hr3 S3 => ?_
        walk_at "sd"
        rename_i t H4 S4 H5 S5
        refine ⟨some (.int i), xs ++ [.ref t], ds ++ [some r], al - 1, by simp; omega, by simp; omega, goD_give hg (by omega), ?_⟩
        have S6 := S5.dats (v := xs ++ [.ref t]) (d := (ds ++ [some r]).map dD) (by rw [List.map_append]; exact .app (.dats (by walk_at "mm")) (.cons (show Has true _ (.ref t) (.tuple [.str "give", .int (r : Int)]) from by walk_at "hs") .nil))
        exact S6.fit (by walk_at "ft")
    · rintro σ H1 ⟨v5, xs, ds, al, rfl, hl, hg, S1⟩
      walk_at "sd"
      exact k q xs ds H1 hl ⟨_, hg⟩ S1
/-! use -/
theorem u_deeds {C : Addr} {Tb : List (Addr × Str)} {K : PySem.W.Frag} {H : Hp} {L L' : List R} {Q : VK} {E : XK} {s : Addr} {lim many : Nat} (S : Sep C K Tb H L) (pk : Pick (.src s) L L') (h1 : 1 ≤ lim) (h2 : lim ≤ 64) (h3 : many ≤ 1000)
    (k : ∀ (q : Addr) (xs : List V) (ds : List Deed) (H' : Hp), ds.length = many → (∃ b, goD lim 0 ds = some b) → Sep C K Tb H' (.cell q (.lst xs) :: .dats xs (ds.map dD) :: .src s :: L') → Q (.ref q) H') : spDeeds C K Tb [.ref s, .int (lim : Int), .int (many : Int)] H Q E := ⟨L', s, lim, many, rfl, S.pick pk, h1, h2, h3, k⟩

def spExec (C : Addr) (K : PySem.W.Frag) (Tb : List (Addr × Str)) : Sp := fun vs H Q _ => ∃ (L : List R) (p d v : Addr) (m : SM) (xs us : List V) (ds : List Deed), vs = [.ref p, .ref d, .ref v] ∧ Sep C K Tb H (.sl p m :: .cell d (.lst xs) :: .dats xs (ds.map dD) :: .cell v (.lst us) :: L) ∧ (∃ b, goD m.lim m.live.length ds = some b) ∧ ds.length ≤ 1000 ∧
  ∀ (q : Addr) (hs : List V) (H' : Hp), (exD us m 0 ds).Ok → Sep C K Tb H' (.sl p (exD us m 0 ds) :: .cell q (.lst hs) :: .dats hs ((exH m ds).map pd) :: .cell d (.lst xs) :: .dats xs (ds.map dD) :: .cell v (.lst us) :: L) → Q (.ref q) H'
theorem exD_app (us : List V) : ∀ (ds es : List Deed) (m : SM) (j : Nat), exD us m j (ds ++ es) = exD us (exD us m j ds) (j + (ds.filter fun d => d = none).length) es
  | [], es, m, j => rfl
  | none :: r, es, m, j => by
    show exD us (m.take _) (j + 1) (r ++ es) = exD us (exD us (m.take _) (j + 1) r) _ es
    rw [exD_app us r es]
    congr 1
    simp; omega
  | some k :: r, es, m, j => by
    show exD us (m.give _) j (r ++ es) = exD us (exD us (m.give _) j r) _ es
    rw [exD_app us r es]
    congr 1
theorem SM.take_slot (m : SM) (u v : V) : (m.take u).taken = (m.take v).taken ∧ (m.take u).order = (m.take v).order ∧ (m.take u).ages = (m.take v).ages := ⟨rfl, rfl, by simp [SM.ages, SM.take]⟩
/-- equal but for the values -/
def SM.sim (m m' : SM) : Prop := m.n = m'.n ∧ m.lim = m'.lim ∧ m.g = m'.g ∧ m.rule = m'.rule ∧ m.order = m'.order ∧ m.ages = m'.ages ∧ m.taken = m'.taken
theorem SM.sim.refl (m : SM) : m.sim m := ⟨rfl, rfl, rfl, rfl, rfl, rfl, rfl⟩
theorem SM.sim.free {m m' : SM} (h : m.sim m') : m.free = m'.free := by
  obtain ⟨_, _, _, h4, h5, _, h7⟩ := h
  unfold SM.free; rw [h4, h5, h7]
theorem SM.sim.gen {m m' : SM} (h : m.sim m') (s : Nat) : m.gen s = m'.gen s := by
  obtain ⟨_, _, h3, _, _, _, h7⟩ := h
  unfold SM.gen SM.cnt; rw [h3, h7]
theorem SM.sim.slot {m m' : SM} (h : m.sim m') : m.slot = m'.slot := by unfold SM.slot; rw [h.free]
theorem SM.sim.liveH {m m' : SM} (h : m.sim m') : m.liveH = m'.liveH := by
  unfold SM.liveH
  rw [h.2.2.2.2.2.1]
  exact List.map_congr_left fun s _ => by rw [h.gen]
theorem SM.sim.take {m m' : SM} (h : m.sim m') (u v : V) : (m.take u).sim (m'.take v) := by
  have hs := h.slot
  obtain ⟨h1, h2, h3, h4, h5, h6, h7⟩ := h
  refine ⟨h1, h2, h3, h4, ?_, ?_, ?_⟩
  · show m.order.erase m.slot = m'.order.erase m'.slot; rw [hs, h5]
  · have e1 : (m.take u).ages = m.ages ++ [m.slot] := by simp [SM.ages, SM.take]
    have e2 : (m'.take v).ages = m'.ages ++ [m'.slot] := by simp [SM.ages, SM.take]
    rw [e1, e2, h6, hs]
  · show m.taken.set m.slot (m.cnt m.slot + 1) = m'.taken.set m'.slot (m'.cnt m'.slot + 1)
    unfold SM.cnt; rw [hs, h7]
theorem SM.sim.give {m m' : SM} (h : m.sim m') (s : Nat) : (m.give s).sim (m'.give s) := by
  obtain ⟨h1, h2, h3, h4, h5, h6, h7⟩ := h
  refine ⟨h1, h2, h3, h4, ?_, ?_, h7⟩
  · show behind m.rule m.order s = behind m'.rule m'.order s; rw [h4, h5]
  · rw [SM.ages_give, SM.ages_give, h6]
theorem exH_sim : ∀ (ds : List Deed) {m m' : SM}, m.sim m' → exH m ds = exH m' ds
  | [], _, _, _ => rfl
  | none :: r, m, m', h => by
    show ((m.slot : Int), (m.take .non).gen m.slot) :: exH (m.take .non) r = ((m'.slot : Int), (m'.take .non).gen m'.slot) :: exH (m'.take .non) r
    rw [exH_sim r (h.take .non .non), h.slot, (h.take .non .non).gen]
  | some k :: r, m, m', h => by
    show exH (m.give (m.ages.getD k 0)) r = exH (m'.give (m'.ages.getD k 0)) r
    rw [h.2.2.2.2.2.1]
    exact exH_sim r (h.give _)
theorem exH_app (us : List V) : ∀ (ds es : List Deed) (m m' : SM) (j : Nat), m.sim m' → exH m (ds ++ es) = exH m ds ++ exH (exD us m' j ds) es
  | [], es, m, m', j, h => exH_sim es h
  | none :: r, es, m, m', j, h => by
    show _ :: exH (m.take .non) (r ++ es) = _ :: (exH (m.take .non) r ++ exH (exD us (m'.take _) (j + 1) r) es)
    rw [exH_app us r es _ _ (j + 1) (h.take .non (us.getD j .non))]
  | some k :: r, es, m, m', j, h => by
    show exH (m.give (m.ages.getD k 0)) (r ++ es) = exH (m.give (m.ages.getD k 0)) r ++ exH (exD us (m'.give (m'.ages.getD k 0)) j r) es
    rw [h.2.2.2.2.2.1]
    exact exH_app us r es _ _ j (h.give _)
theorem exH_len : ∀ (ds : List Deed) (m : SM), (exH m ds).length = (ds.filter fun d => d = none).length
  | [], _ => rfl
  | none :: r, m => by simp [exH, exH_len r]
  | some k :: r, m => by simp [exH, exH_len r]
theorem ok__law_execute (T : Txt K mg) (TB : TBs T base) : FnOk P w K mg base CX0 6 T.f__law_execute T.fd__law_execute ["_law_slots", "_law_deeds_here", "_law_values"] (spExec T.C_Slots K T.tabs) := by
  refine T.F__law_execute.ok sc__law_execute (fun vs H Q E h => ?_) (fun cdv A outer s H vs Q E hr h => ?_)
  · obtain ⟨L, p, d, v, m, xs, us, ds, rfl, _⟩ := h; rfl
  · obtain ⟨L, p, d, v, m, xs, us, ds, rfl, S, ⟨b, hb⟩, hn, k⟩ := h
    refine ⟨_, (pss_cons (ps_set (i := 3) sc__law_execute.nd rfl lc__law_execute_3 (pe_lst pa_nil))
  (pss_cons (ps_for PassesOwn.never rfl (pi_list (pv 1 rfl vs__law_execute_1)) (pg_name (i := 4) sc__law_execute.nd rfl lc__law_execute_4) (pss_one (ps_if (pt_cmpR (eqK hr.units (K := K)) (pv 4 rfl vs__law_execute_4) pe_str (nomark _)) (pss_one (ps_expr (pe_bm PySem.F.plainAttrs_list PySem.F.slot_list_append PySem.F.type_list_append mt_append (pv 3 rfl vs__law_execute_3) (pa_cons (pe_meth (pv 0 rfl vs__law_execute_0) T.cl_Slots T.mt_Slots_take (ok_Slots_take T TB) (hr.mono (by decide)) T.b_Slots_take .nil pass0 (pa_cons (pe_ifExp (pt_cmpR op_lt (pe_callB (c_len (K := K)) (by rfl) T.z_len (by decide +kernel) (pa_cons (pv 3 rfl vs__law_execute_3) pa_nil)) (pe_callB (c_len (K := K)) (by rfl) T.z_len (by decide +kernel) (pa_cons (pv 2 rfl vs__law_execute_2) pa_nil)) (nomark _)) (pe_ix (ixL (K := K)) (pv 2 rfl vs__law_execute_2) (pe_callB (c_len (K := K)) (by rfl) T.z_len (by decide +kernel) (pa_cons (pv 3 rfl vs__law_execute_3) pa_nil)) (fun _ _ => rfl)) pe_non) pa_nil)) pa_nil)))) (pss_one (ps_expr (pe_meth (pv 0 rfl vs__law_execute_0) T.cl_Slots T.mt_Slots_give (ok_Slots_give T TB) (hr.mono (by decide)) T.b_Slots_give .nil pass0 (pa_cons (pe_ix (ixL (K := K)) (pe_meth0 (pv 0 rfl vs__law_execute_0) T.cl_Slots T.mt_Slots_live (ok_Slots_live T TB) (hr.mono (by decide)) T.b_Slots_live .nil pass0) (pe_ix (ixT (K := K)) (pv 4 rfl vs__law_execute_4) pe_int (fun _ _ => rfl)) (fun _ _ => rfl)) pa_nil)))))))
  (pss_one (ps_ret (pv 3 rfl vs__law_execute_3))))), ?_⟩
    have cl := T.cl_Slots
    have hxs : xs.length = ds.length := by
      have := S.len (.dats (by walk_at "mm")); simpa using this
    have okm := S.ok (by walk_at "mm")
    walk_at "go"
    walk_at "sd"
    rename_i q H0 S0
    refine loop_list (xs := xs) (fun i σ H' => ∃ (v4 : Option V) (hs : List V) (al : Nat), σ = [some (.ref p), some (.ref d), some (.ref v), some (.ref q), v4] ∧ goD m.lim al (ds.drop i) = some b ∧ (exD us m 0 (ds.take i)).live.length = al ∧ (exD us m 0 (ds.take i)).lim = m.lim ∧
      Sep T.C_Slots K T.tabs H' (.sl p (exD us m 0 (ds.take i)) :: .cell q (.lst hs) :: .dats hs ((exH m (ds.take i)).map pd) :: .cell d (.lst xs) :: .dats xs (ds.map dD) :: .cell v (.lst us) :: L)) ⟨_, [], m.live.length, rfl, hb, rfl, rfl, by
      show Sep T.C_Slots K T.tabs H0 (.sl p m :: .cell q (.lst []) :: .dats [] [] :: .cell d (.lst xs) :: .dats xs (ds.map dD) :: .cell v (.lst us) :: L)
      exact (S0.dats (v := []) (d := []) .nil).fit (by walk_at "ft")⟩ ?_ ?_ ?_
    · rintro i σ H1 _ ⟨v4, hs, al, rfl, h1, h2, h3, S1⟩
      exact SqL.of (S1.get (by walk_at "mm"))
    · rintro i x σ H1 hx ⟨v4, hs, al, rfl, h1, h2, h3, S1⟩
      have hi : i < ds.length := by rw [← hxs]; exact (List.getElem?_eq_some_iff.mp hx).1
      obtain ⟨e, he⟩ : ∃ e, ds[i]? = some e := ⟨_, List.getElem?_eq_getElem hi⟩
      have hdr : ds.drop i = e :: ds.drop (i + 1) := by
        rw [List.drop_eq_getElem_cons hi]
        rw [List.getElem?_eq_getElem hi] at he
        rw [Option.some.inj he]
      have htk : ds.take (i + 1) = ds.take i ++ [e] := by rw [List.take_succ, he]; rfl
      have hhs : hs.length = ((ds.take i).filter fun d => d = none).length := by
        have := S1.len (.dats (vs := hs) (ds := (exH m (ds.take i)).map pd) (by walk_at "mm"))
        rw [List.length_map, exH_len] at this
        exact this
      have hhs2 : hs.length ≤ 1000 := by
        rw [hhs]
        exact Nat.le_trans (List.length_filter_le _ _) (by rw [List.length_take]; omega)
      have ha : Has true (.sl p (exD us m 0 (ds.take i)) :: .cell q (.lst hs) :: .dats hs ((exH m (ds.take i)).map pd) :: .cell d (.lst xs) :: .dats xs (ds.map dD) :: .cell v (.lst us) :: L) x (dD e) :=
        .item (i := i) (vs := xs) (ds := ds.map dD) (by walk_at "mm") hx (by rw [List.getElem?_map, he]; rfl)
      have okx := S1.ok (m := exD us m 0 (ds.take i)) (by walk_at "mm")
      generalize hM : exD us m 0 (ds.take i) = M at *
      rw [hdr] at h1
      walk_at "sd"
      refine s_eqD S1 ha (Has.str (fz := false) _) (dD_shaped e) take_shaped ?_
      rw [dD_take]
      walk_at "sd"
      cases e with
      | none =>
        have hal : al < m.lim := by
          apply Classical.byContradiction
          intro z
          have : goD m.lim al (none :: ds.drop (i + 1)) = none := by show (if al < m.lim then _ else none) = _; rw [if_neg z]
          rw [this] at h1; cases h1
        have h1' : goD m.lim (al + 1) (ds.drop (i + 1)) = some b := by
          have : goD m.lim al (none :: ds.drop (i + 1)) = goD m.lim (al + 1) (ds.drop (i + 1)) := by show (if al < m.lim then _ else none) = _; rw [if_pos hal]
          rw [← this]; exact h1
        refine if_T (by simp) ?_
        have EX : exD us m 0 (ds.take (i + 1)) = M.take (us.getD hs.length .non) := by
          rw [htk, exD_app, hM, ← hhs, Nat.zero_add]; rfl
        have EH : exH m (ds.take (i + 1)) = exH m (ds.take i) ++ [((M.slot : Int), (M.take (us.getD hs.length .non)).gen M.slot)] := by
          rw [htk, exH_app us (ds.take i) [none] m m 0 (.refl m), hM]
          show _ ++ [((M.slot : Int), (M.take .non).gen M.slot)] = _
          rw [((SM.sim.refl M).take (us.getD hs.length .non) .non).gen]
        have fin : ∀ (w : V) (t : Addr) H4, w = us.getD hs.length .non → Sep T.C_Slots K T.tabs H4 (.cell q (.lst (hs ++ [.ref t])) :: .tup t [.int (M.slot : Int), .int ((M.take w).gen M.slot)] :: .sl p (M.take w) :: .dats hs ((exH m (ds.take i)).map pd) :: .cell d (.lst xs) :: .dats xs (ds.map dD) :: .cell v (.lst us) :: L) →
            Sep T.C_Slots K T.tabs H4 (.sl p (exD us m 0 (ds.take (i + 1))) :: .cell q (.lst (hs ++ [.ref t])) :: .dats (hs ++ [.ref t]) ((exH m (ds.take (i + 1))).map pd) :: .cell d (.lst xs) :: .dats xs (ds.map dD) :: .cell v (.lst us) :: L) := by
          intro w t H4 hw S4
          have S5 := S4.dats (v := hs ++ [.ref t]) (d := (exH m (ds.take (i + 1))).map pd) (by
            rw [EH, List.map_append]
            exact .app (.dats (by walk_at "mm")) (.cons (show Has true _ (.ref t) (.tuple [.int (M.slot : Int), .int ((M.take (us.getD hs.length .non)).gen M.slot)]) from by rw [← hw]; walk_at "hs") .nil))
          rw [EX, ← hw]
          exact S5.fit (by walk_at "ft")
        walk_at "sd"
        refine if_d (fun c => ?_) (fun c => ?_)
        · walk_at "sd"
          have hu : us[hs.length]? = some (us.getD hs.length .non) := by
            rw [List.getD_eq_getElem?_getD, List.getElem?_eq_getElem (by omega)]; rfl
          refine r_ixl (SqL.of (by walk_at "hp")) (atI_nat hu) ?_
          walk_at "sd"
          refine u_take S1 (by walk_at "pk") (by omega) fun t H3 S3 => ?_
          walk_at "sd"
          rename_i H4 S4
          exact ⟨some x, _, _, rfl, h1', by rw [EX, SM.take_len]; omega, by rw [EX]; exact h3, fin _ t H4 rfl S4⟩
        · walk_at "sd"
          refine u_take S1 (by walk_at "pk") (by omega) fun t H3 S3 => ?_
          walk_at "sd"
          rename_i H4 S4
          exact ⟨some x, _, _, rfl, h1', by rw [EX, SM.take_len]; omega, by rw [EX]; exact h3, fin _ t H4 (by rw [List.getD_eq_getElem?_getD, List.getElem?_eq_none (by omega)]; rfl) S4⟩
      | some j =>
        have hja : j < al := by
          apply Classical.byContradiction
          intro z
          have : goD m.lim al (some j :: ds.drop (i + 1)) = none := by show (if j < al then _ else none) = _; rw [if_neg z]
          rw [this] at h1; cases h1
        have h1' : goD m.lim (al - 1) (ds.drop (i + 1)) = some b := by
          have : goD m.lim al (some j :: ds.drop (i + 1)) = goD m.lim (al - 1) (ds.drop (i + 1)) := by show (if j < al then _ else none) = _; rw [if_pos hja]
          rw [← this]; exact h1
        obtain ⟨sl, w, g1, g2, g3, g4, g5⟩ := SM.live_at (m := M) (k := j) (by omega)
        have EX : exD us m 0 (ds.take (i + 1)) = M.give sl := by
          rw [htk, exD_app, hM, Nat.zero_add]
          show M.give (M.ages.getD j 0) = _
          rw [g4]
        have EH : exH m (ds.take (i + 1)) = exH m (ds.take i) := by
          rw [htk, exH_app us (ds.take i) [some j] m m 0 (.refl m)]
          exact List.append_nil _
        obtain ⟨t, rfl, S2⟩ := S1.deed ha
        refine if_F (by simp) ?_
        walk_at "sd"
        refine u_live S2 (by walk_at "mm") fun ql ys H3 S3 => ?_
        walk_at "sd"
        try refine r_ixt (v := .int (j : Int)) (SqT.of (by walk_at "hp")) (by rfl) ?_
        have hys : ys.length = M.live.length := by
          have := S3.len (.dats (vs := ys) (ds := M.liveH.map pd) (by walk_at "mm"))
          rw [List.length_map, SM.liveH_len] at this; exact this
        obtain ⟨y, hy⟩ : ∃ y, ys[j]? = some y := ⟨_, List.getElem?_eq_getElem (by omega)⟩
        refine r_ixl (SqL.of (by walk_at "hp")) (atI_nat hy) ?_
        obtain ⟨ht, rfl, S4⟩ := S3.pair (a := (sl : Int)) (b := M.gen sl) (.item (vs := ys) (ds := M.liveH.map pd) (i := j) (by walk_at "mm") hy (by rw [List.getElem?_map, g5]; rfl))
        walk_at "sd"
        refine u_give w S4 (by walk_at "pk") (by walk_at "mm") rfl g2 fun H5 S5 => ?_
        refine ⟨some (.ref t), hs, _, rfl, h1', by rw [EX, SM.give_len okx (SM.mem_ages g2)]; omega, by rw [EX]; exact h3, ?_⟩
        rw [EX, EH]
        exact S5.fit (by walk_at "ft")
    · rintro σ H1 ⟨v4, hs, al, rfl, h1, h2, h3, S1⟩
      rw [hxs, List.take_length] at S1
      walk_at "sd"
      exact k q hs H1 (S1.ok (by walk_at "mm")) S1
/-! use -/
theorem u_exec {C : Addr} {Tb : List (Addr × Str)} {K : PySem.W.Frag} {H : Hp} {L L' : List R} {Q : VK} {E : XK} {p d v : Addr} {m : SM} {xs us : List V} {ds : List Deed} (S : Sep C K Tb H L) (ft : Fit (.sl p m :: .cell d (.lst xs) :: .dats xs (ds.map dD) :: .cell v (.lst us) :: L') L) (hg : ∃ b, goD m.lim m.live.length ds = some b) (hn : ds.length ≤ 1000)
    (k : ∀ (q : Addr) (hs : List V) (H' : Hp), (exD us m 0 ds).Ok → Sep C K Tb H' (.sl p (exD us m 0 ds) :: .cell q (.lst hs) :: .dats hs ((exH m ds).map pd) :: .cell d (.lst xs) :: .dats xs (ds.map dD) :: .cell v (.lst us) :: L') → Q (.ref q) H') : spExec C K Tb [.ref p, .ref d, .ref v] H Q E := ⟨L', p, d, v, m, xs, us, ds, rfl, S.fit ft, hg, hn, k⟩
theorem exD_vals {us : List V} {P : V → Prop} (hu : ∀ v ∈ us, P v) (hn : P .non) : ∀ (ds : List Deed) (m : SM) (j : Nat), (∀ v ∈ m.vals, P v) → ∀ v ∈ (exD us m j ds).vals, P v
  | [], _, _, h => h
  | none :: r, m, j, h => exD_vals hu hn r _ _ (vals_take h (by
    rw [List.getD_eq_getElem?_getD]
    cases e : us[j]? with
    | none => exact hn
    | some w => exact hu w (List.mem_of_getElem? e)))
  | some k :: r, m, j, h => exD_vals hu hn r _ _ (vals_give h)
theorem exD_args {us : List V} : ∀ (ds : List Deed) (m : SM) (j : Nat), (exD us m j ds).n = m.n ∧ (exD us m j ds).lim = m.lim ∧ (exD us m j ds).g = m.g ∧ (exD us m j ds).rule = m.rule
  | [], _, _ => ⟨rfl, rfl, rfl, rfl⟩
  | none :: r, m, j => exD_args r _ _
  | some k :: r, m, j => exD_args r _ _

def leastLast (m : SM) (s : Nat) (t : Int) : V := if s ∈ m.free then (if m.live.length + m.free.idxOf s < m.lim then .int ((m.free.idxOf s : Nat) + t) else .non) else .int t
def spLeastLast (C : Addr) (Tb : List (Addr × Str)) : Sp := fun vs H Q _ => ∃ (p : Addr) (m : SM) (F : Addr → Prop) (s : Nat) (t : Int), vs = [.ref p, .int s, .int t] ∧ Sl C H p m F ∧ LamX.Tabs Tb H ∧ ∀ H' : Hp, Out Nil H H' → LamX.Tabs Tb H' → Q (leastLast m s t) H'
theorem ok_least_for_last (T : Txt K mg) (TB : TBs T base) : FnOk P w K mg base CX0 5 T.f_least_for_last T.fd_least_for_last ["slots", "slot", "times"] (spLeastLast T.C_Slots T.tabs) := by
  refine T.F_least_for_last.ok sc_least_for_last (fun vs H Q E h => ?_) (fun cdv A outer s H vs Q E hr h => ?_)
  · obtain ⟨p, m, F, sl, t, rfl, _⟩ := h; rfl
  · obtain ⟨p, m, F, sl, t, rfl, S, hT, k⟩ := h
    refine ⟨_, (pss_cons (ps_set (i := 3) sc_least_for_last.nd rfl lc_least_for_last_3 (pe_meth0 (pv 0 rfl vs_least_for_last_0) T.cl_Slots T.mt_Slots_free (ok_Slots_free T TB) (hr.mono (by decide)) T.b_Slots_free .nil pass0))
  (pss_cons (ps_if (pt_cmpR (ninK (K := K)) (pv 1 rfl vs_least_for_last_1) (pv 3 rfl vs_least_for_last_3) (by rfl)) (pss_one (ps_ret (pv 2 rfl vs_least_for_last_2))) pss_nil)
  (pss_cons (ps_set (i := 4) sc_least_for_last.nd rfl lc_least_for_last_4 (pe_bm PySem.F.plainAttrs_list PySem.F.slot_list_index PySem.F.type_list_index mt_index (pv 3 rfl vs_least_for_last_3) (pa_cons (pv 1 rfl vs_least_for_last_1) pa_nil)))
  (pss_one (ps_ret (pe_ifExp (pt_cmpR op_lt (pe_op op_add (pe_callB (c_lenOwn (ok_Slots___len__ T TB) (hr.mono (by decide)) T.mt_Slots___len__ T.b_Slots___len__ pass0) (by rfl) T.z_len (by decide +kernel) (pa_cons (pv 0 rfl vs_least_for_last_0) pa_nil)) (pv 4 rfl vs_least_for_last_4)) (pe_fld (pv 0 rfl vs_least_for_last_0) rfl) (nomark _)) (pe_op op_add (pv 4 rfl vs_least_for_last_4) (pv 2 rfl vs_least_for_last_2)) pe_non)))))), ?_⟩
    have cl := T.cl_Slots
    have n2 := T.n_Slots_limit
    obtain ⟨dx, lo, la, lt, lh, x, f⟩ := id S
    have hp := x.ins
    walk_at "go"
    walk_at "rd"
    refine ⟨p, m, F, rfl, S, hT, fun q H1 nq hq o1 t1 => ?_⟩
    have hp1 := o1.ins (fun z => z) hp
    walk_at "rd"
    refine r_ninL (SqL.of hq) rfl (flat_ints _) ?_
    unfold iv
    rw [inV_ints]
    walk_at "rd"
    by_cases c : sl ∈ m.free
    · refine if_F (by simp [mem_ci, c]) ?_
      walk_at "rd"
      obtain ⟨j, hj⟩ : ∃ j, m.free.idxOf sl = j := ⟨_, rfl⟩
      have hjl : j < m.free.length := by rw [← hj]; exact List.idxOf_lt_length_iff.mpr c
      have hget : m.free[j]? = some sl := by
        subst hj
        rw [List.getElem?_eq_getElem hjl, List.getElem_idxOf]
      refine ⟨q, iv m.free, .int (sl : Int), j, .int (sl : Int), rfl, rfl, SqL.of hq, rfl, flat_ints _, iv_get hget, by simp [eqV], fun i z hi hz => ?_, ?_⟩
      · rw [iv_map, List.getElem?_map] at hz
        cases e : m.free[i]? with
        | none => rw [e] at hz; cases hz
        | some y =>
          rw [e] at hz
          obtain rfl := Option.some.inj hz
          have ne : y ≠ sl := fun z => by
            subst z
            have h1 := List.getElem?_eq_some_iff.mp e
            obtain ⟨h2, h3⟩ := h1
            have hj' : m.free.findIdx (fun x => x == y) = j := hj
            have := List.not_of_lt_findIdx (xs := m.free) (p := fun x => x == y) (i := i) (by omega)
            simp [h3] at this
          have : ¬ (y : Int) = (sl : Int) := by omega
          simp [eqV, this]
      walk_at "rd"
      refine r_lenO (S.nil o1) ?_
      walk_at "rd"
      refine if_d (fun d => ?_) (fun d => ?_)
      · walk_at "rd"
        have e : leastLast m sl t = .int ((j : Nat) + t) := by
          unfold leastLast
          rw [if_pos c, hj, if_pos (by omega)]
        rw [← e]
        exact k _ o1 t1
      · walk_at "rd"
        have e : leastLast m sl t = .non := by
          unfold leastLast
          rw [if_pos c, hj, if_neg (by omega)]
        rw [← e]
        exact k _ o1 t1
    · refine if_T (by simp [mem_ci, c]) ?_
      walk_at "rd"
      have e : leastLast m sl t = .int t := if_neg c
      rw [← e]
      exact k _ o1 t1

def leastLow (m : SM) (s : Nat) (t : Int) : V := if m.lim ≤ s then .non else .int (((m.free.filter fun x => decide (x < s)).length : Nat) + t)
def spLeastLow (C : Addr) (Tb : List (Addr × Str)) : Sp := fun vs H Q _ => ∃ (p : Addr) (m : SM) (F : Addr → Prop) (s : Nat) (t : Int), vs = [.ref p, .int s, .int t] ∧ Sl C H p m F ∧ LamX.Tabs Tb H ∧ ∀ H' : Hp, Out Nil H H' → LamX.Tabs Tb H' → Q (leastLow m s t) H'
theorem ok_least_for_lowest (T : Txt K mg) (TB : TBs T base) : FnOk P w K mg base CX0 5 T.f_least_for_lowest T.fd_least_for_lowest ["slots", "slot", "times"] (spLeastLow T.C_Slots T.tabs) := by
  refine T.F_least_for_lowest.ok sc_least_for_lowest (fun vs H Q E h => ?_) (fun cdv A outer s H vs Q E hr h => ?_)
  · obtain ⟨p, m, F, sl, t, rfl, _⟩ := h; rfl
  · obtain ⟨p, m, F, sl, t, rfl, S, hT, k⟩ := h
    refine ⟨_, (pss_cons (ps_if (pt_cmpR op_ge (pv 1 rfl vs_least_for_lowest_1) (pe_fld (pv 0 rfl vs_least_for_lowest_0) rfl) (nomark _)) (pss_one (ps_ret pe_non)) pss_nil)
  (pss_one (ps_ret (pe_op op_add (pe_callB (c_len (K := K)) (by rfl) T.z_len (by decide +kernel) (pa_cons (pe_lc (own := [("one", 3)]) (g := gName 3) rfl sc_least_for_lowest.nd (pi_list (pe_meth0 (pv 0 rfl vs_least_for_lowest_0) T.cl_Slots T.mt_Slots_free (ok_Slots_free T TB) (hr.mono (by decide)) T.b_Slots_free .nil pass0)) (blkOk_by (own := [("one", 3)]) (N := ["slots", "slot", "times", "one"]) (sc := defScope s_least_for_lowest) (by decide +kernel)) (fun _ _ _ _ _ => (pg_name (i := 3) sc_least_for_lowest.nd rfl (Or.inl rfl))) (fun _ _ _ _ _ => (pts_one (pt_cmpR op_lt (pv 3) (pv 1) (nomark _)))) (fun _ _ _ _ _ => (pv 3))) pa_nil)) (pv 2 rfl vs_least_for_lowest_2))))), ?_⟩
    have cl := T.cl_Slots
    have n2 := T.n_Slots_limit
    obtain ⟨dx, lo, la, lt, lh, x, f⟩ := id S
    have hp := x.ins
    walk_at "go"
    walk_at "rd"
    by_cases c : m.lim ≤ sl
    · refine if_T (decide_eq_true (by omega)) ?_
      walk_at "rd"
      have e : leastLow m sl t = .non := if_pos c
      rw [← e]
      exact k _ (Out.refl H) hT
    · refine if_F (decide_eq_false (by omega)) ?_
      walk_at "rd"
      refine ⟨p, m, F, rfl, S, hT, fun q H1 nq hq o1 t1 => ?_⟩
      have hfl : m.free.length = m.order.length := (SM.Ok.free_perm m).length_eq
      have hn := x.ok.n64
      have hle := x.ok.len
      refine overLC (SqL.of hq) ?_
      refine lc_pureL (fun v => match v with | .int i => decide (i < (sl : Int)) | _ => false) (fun v => v) (SqL.of hq) (by rw [iv_len]; omega) (fun D acc i v N hD hi hacc hT' hF' => ?_) (fun D hD => ?_)
      · obtain ⟨y, rfl⟩ : ∃ y : Nat, v = .int (y : Int) := by
          rw [iv_map, List.getElem?_map] at hi
          cases e : m.free[i]? with
          | none => rw [e] at hi; cases hi
          | some y => rw [e] at hi; exact ⟨y, (Option.some.inj hi).symm⟩
        walk_at "rd"
        refine if_d (fun d => ?_) (fun d => ?_)
        · walk_at "rd"
          exact r_kept hacc (hT' (by simp; omega))
        · exact hF' (by simp; omega)
      · walk_at "rd"
        refine r_lenl (SqL.of upd_same) ?_
        walk_at "rd"
        have e : leastLow m sl t = .int ((((((iv m.free).filter fun v => match v with | .int i => decide (i < (sl : Int)) | _ => false).map fun v => v).length : Nat) : Int) + t) := by
          unfold leastLow
          rw [if_neg c, iv_map, List.filter_map, List.length_map, List.length_map]
          congr 4
          refine List.filter_congr fun y _ => ?_
          simp
        rw [← e]
        exact k _ (o1.fresh hD) (tabs_new t1 hD)

def leastFirst (m : SM) (s : Nat) (t : Int) : Int :=
  let b : Int := (m.n : Int) - m.lim + 1
  if s ∈ m.free then (let a : Int := (m.free.idxOf s : Nat) + 1; if t = 1 then a else a + m.n - min (m.lim : Int) ((m.live.length : Nat) + a) + 1 + (t - 2) * b)
  else (m.free.length : Nat) + 1 + (t - 1) * b
def spLeastFirst (C : Addr) (Tb : List (Addr × Str)) : Sp := fun vs H Q _ => ∃ (p : Addr) (m : SM) (F : Addr → Prop) (s : Nat) (t : Int), vs = [.ref p, .int s, .int t] ∧ Sl C H p m F ∧ LamX.Tabs Tb H ∧ ∀ H' : Hp, Out Nil H H' → LamX.Tabs Tb H' → Q (.int (leastFirst m s t)) H'
theorem r_indexN {K : PySem.W.Frag} {H : Hp} {Q : VK} {q : Addr} {l : List Nat} {s j : Nat} (hq : H q = some (.lst (iv l))) (c : s ∈ l) (hj : l.idxOf s = j) (h : Q (.int (j : Int)) H) : rIndex K (.ref q) [.int s] H Q := by
  have hjl : j < l.length := by rw [← hj]; exact List.idxOf_lt_length_iff.mpr c
  have hget : l[j]? = some s := by
    subst hj
    rw [List.getElem?_eq_getElem hjl, List.getElem_idxOf]
  refine ⟨q, iv l, .int (s : Int), j, .int (s : Int), rfl, rfl, SqL.of hq, rfl, flat_ints _, iv_get hget, by simp [eqV], fun i z hi hz => ?_, h⟩
  rw [iv_map, List.getElem?_map] at hz
  cases e : l[i]? with
  | none => rw [e] at hz; cases hz
  | some y =>
    rw [e] at hz
    obtain rfl := Option.some.inj hz
    have ne : y ≠ s := fun z => by
      subst z
      have h1 := List.getElem?_eq_some_iff.mp e
      obtain ⟨h2, h3⟩ := h1
      have hj' : l.findIdx (fun x => x == y) = j := hj
      have := List.not_of_lt_findIdx (xs := l) (p := fun x => x == y) (i := i) (by omega)
      simp [h3] at this
    have : ¬ (y : Int) = (s : Int) := by omega
    simp [eqV, this]
theorem ok_least_for_first (T : Txt K mg) (TB : TBs T base) : FnOk P w K mg base CX0 5 T.f_least_for_first T.fd_least_for_first ["slots", "slot", "times"] (spLeastFirst T.C_Slots T.tabs) := by
  refine T.F_least_for_first.ok sc_least_for_first (fun vs H Q E h => ?_) (fun cdv A outer s H vs Q E hr h => ?_)
  · obtain ⟨p, m, F, sl, t, rfl, _⟩ := h; rfl
  · obtain ⟨p, m, F, sl, t, rfl, S, hT, k⟩ := h
    refine ⟨_, (pss_cons (ps_set (i := 3) sc_least_for_first.nd rfl lc_least_for_first_3 (pe_meth0 (pv 0 rfl vs_least_for_first_0) T.cl_Slots T.mt_Slots_free (ok_Slots_free T TB) (hr.mono (by decide)) T.b_Slots_free .nil pass0))
  (pss_cons (ps_set (i := 4) sc_least_for_first.nd rfl lc_least_for_first_4 (pe_op op_add (pe_op op_sub (pe_fld (pv 0 rfl vs_least_for_first_0) rfl) (pe_fld (pv 0 rfl vs_least_for_first_0) rfl)) pe_int))
  (pss_cons (ps_if (pt_cmpR (ninK (K := K)) (pv 1 rfl vs_least_for_first_1) (pv 3 rfl vs_least_for_first_3) (by rfl)) (pss_one (ps_ret (pe_op op_add (pe_op op_add (pe_callB (c_len (K := K)) (by rfl) T.z_len (by decide +kernel) (pa_cons (pv 3 rfl vs_least_for_first_3) pa_nil)) pe_int) (pe_op op_mul (pe_op op_sub (pv 2 rfl vs_least_for_first_2) pe_int) (pv 4 rfl vs_least_for_first_4))))) pss_nil)
  (pss_cons (ps_set (i := 5) sc_least_for_first.nd rfl lc_least_for_first_5 (pe_op op_add (pe_bm PySem.F.plainAttrs_list PySem.F.slot_list_index PySem.F.type_list_index mt_index (pv 3 rfl vs_least_for_first_3) (pa_cons (pv 1 rfl vs_least_for_first_1) pa_nil)) pe_int))
  (pss_cons (ps_if (pt_cmpR op_eq (pv 2 rfl vs_least_for_first_2) pe_int (nomark _)) (pss_one (ps_ret (pv 5 rfl vs_least_for_first_5))) pss_nil)
  (pss_cons (ps_set (i := 6) sc_least_for_first.nd rfl lc_least_for_first_6 (pe_callB (c_min2 rfl) (by rfl) T.z_min (by decide +kernel) (pa_cons (pe_fld (pv 0 rfl vs_least_for_first_0) rfl) (pa_cons (pe_op op_add (pe_callB (c_lenOwn (ok_Slots___len__ T TB) (hr.mono (by decide)) T.mt_Slots___len__ T.b_Slots___len__ pass0) (by rfl) T.z_len (by decide +kernel) (pa_cons (pv 0 rfl vs_least_for_first_0) pa_nil)) (pv 5 rfl vs_least_for_first_5)) pa_nil))))
  (pss_one (ps_ret (pe_op op_add (pe_op op_add (pe_op op_sub (pe_op op_add (pv 5 rfl vs_least_for_first_5) (pe_fld (pv 0 rfl vs_least_for_first_0) rfl)) (pv 6 rfl vs_least_for_first_6)) pe_int) (pe_op op_mul (pe_op op_sub (pv 2 rfl vs_least_for_first_2) pe_int) (pv 4 rfl vs_least_for_first_4))))))))))), ?_⟩
    have cl := T.cl_Slots
    have n1 := T.n_Slots_n
    have n2 := T.n_Slots_limit
    obtain ⟨dx, lo, la, lt, lh, x, f⟩ := id S
    have hp := x.ins
    have l1 := x.ok.ar.l1
    have l2 := x.ok.ar.l2
    have h64 := x.ok.n64
    have cm1 : CMul (t - 1) ((m.n : Int) - m.lim + 1) := CMul.r (by omega) (by omega)
    have cm2 : CMul (t - 2) ((m.n : Int) - m.lim + 1) := CMul.r (by omega) (by omega)
    walk_at "go"
    walk_at "rd"
    refine ⟨p, m, F, rfl, S, hT, fun q H1 nq hq o1 t1 => ?_⟩
    have hp1 := o1.ins (fun z => z) hp
    walk_at "rd"
    refine r_ninL (SqL.of hq) rfl (flat_ints _) ?_
    unfold iv
    rw [inV_ints]
    walk_at "rd"
    by_cases c : sl ∈ m.free
    · refine if_F (by simp [mem_ci, c]) ?_
      walk_at "rd"
      obtain ⟨j, hj⟩ : ∃ j, m.free.idxOf sl = j := ⟨_, rfl⟩
      refine r_indexN hq c hj ?_
      walk_at "rd"
      refine if_d (fun d => ?_) (fun d => ?_)
      · walk_at "rd"
        have e : leastFirst m sl t = (j : Nat) + 1 := by
          simp only [leastFirst, if_pos c, if_pos d, hj]
        rw [← e]
        exact k _ o1 t1
      · walk_at "rd"
        refine r_lenO (S.nil o1) ?_
        walk_at "rd"
        have e : leastFirst m sl t = ((j : Nat) + 1 : Int) + m.n - min (m.lim : Int) ((m.live.length : Nat) + ((j : Nat) + 1 : Int)) + 1 + (t - 2) * ((m.n : Int) - m.lim + 1) := by
          simp only [leastFirst, if_pos c, if_neg d, hj]
        rw [← e]
        exact k _ o1 t1
    · refine if_T (by simp [mem_ci, c]) ?_
      walk_at "rd"
      refine r_lenl (SqL.of hq) ?_
      walk_at "rd"
      have e : leastFirst m sl t = ((m.free.length : Nat) : Int) + 1 + (t - 1) * ((m.n : Int) - m.lim + 1) := by
        simp only [leastFirst, if_neg c]
      rw [show ((iv m.free).length : Int) = ((m.free.length : Nat) : Int) by rw [iv_len], ← e]
      exact k _ o1 t1

def spIsSlot (C : Addr) : Sp := fun vs H Q _ => ∃ (p : Addr) (m : SM) (F : Addr → Prop) (i : Int), vs = [.ref p, .int i] ∧ Sl C H p m F ∧ Q (.bl (inBnd 0 ((m.n : Int) - 1) (.int i))) H
theorem ok_is_slot (T : Txt K mg) (TB : TBs T base) : FnOk P w K mg base CX0 3 T.f_is_slot T.fd_is_slot ["slots", "value"] (spIsSlot T.C_Slots) := by
  refine T.F_is_slot.ok sc_is_slot (fun vs H Q E h => ?_) (fun cdv A outer s H vs Q E hr h => ?_)
  · obtain ⟨p, m, F, i, rfl, _⟩ := h; rfl
  · obtain ⟨p, m, F, i, rfl, S, k⟩ := h
    refine ⟨_, (pss_one (ps_ret (pe_callN (ok_is_between T TB) (hr.mono (by decide)) rfl T.m_is_between T.F_is_between.kp T.kb_is_between pass0 (pa_cons (pv 1 rfl vs_is_slot_1) pa_nil) (pk_cons pe_int (pk_cons (pe_op op_sub (pe_fld (pv 0 rfl vs_is_slot_0) rfl) pe_int) pk_nil))))), ?_⟩
    have cl := T.cl_Slots
    have n1 := T.n_Slots_n
    obtain ⟨dx, lo, la, lt, lh, x, f⟩ := id S
    have hp := x.ins
    walk_at "go"
    walk_at "rd"
    exact ⟨rfl, rfl, _, _, _, _, rfl, .int i, k⟩

/-- .. of any value -/
def spIsSlotV (C : Addr) (Tb : List (Addr × Str)) (K : PySem.W.Frag) : Sp := fun vs H Q _ => ∃ (L : List R) (p : Addr) (m : SM) (v : V) (n : String), vs = [.ref p, v] ∧ Sep C K Tb H L ∧ R.sl p m ∈ L ∧ Kd L v n ∧ Q (.bl (inBnd 0 ((m.n : Int) - 1) v)) H
theorem okV_is_slot (T : Txt K mg) (TB : TBs T base) : FnOk P w K mg base CX0 3 T.f_is_slot T.fd_is_slot ["slots", "value"] (spIsSlotV T.C_Slots T.tabs K) := by
  refine T.F_is_slot.ok sc_is_slot (fun vs H Q E h => ?_) (fun cdv A outer s H vs Q E hr h => ?_)
  · obtain ⟨L, p, m, v, n, rfl, _⟩ := h; rfl
  · obtain ⟨L, p, m, v, n, rfl, S, hsl, kd, k⟩ := h
    refine ⟨_, (pss_one (ps_ret (pe_callN (ok_is_between T TB) (hr.mono (by decide)) rfl T.m_is_between T.F_is_between.kp T.kb_is_between pass0 (pa_cons (pv 1 rfl vs_is_slot_1) pa_nil) (pk_cons pe_int (pk_cons (pe_op op_sub (pe_fld (pv 0 rfl vs_is_slot_0) rfl) pe_int) pk_nil))))), ?_⟩
    have cl := T.cl_Slots
    have n1 := T.n_Slots_n
    obtain ⟨F, dx, lo, la, lt, lh, x, f⟩ := S.slot hsl
    have hp := x.ins
    walk_at "go"
    walk_at "rd"
    exact ⟨rfl, rfl, _, _, _, _, rfl, S.kn kd, k⟩

theorem ok_NoSlot___init__ (T : Txt K mg) (TB : TBs T base) : FnOk P w K mg base CX0 1 T.f_NoSlot___init__ T.fd_NoSlot___init__ ["self", "slot"] (spXInit K "slot") := by
  refine T.F_NoSlot___init__.ok sc_NoSlot___init__ (fun vs H Q E h => ?_) (fun cdv A outer s H vs Q E hr h => ?_)
  · obtain ⟨a, C, v, rfl, _⟩ := h; rfl
  · obtain ⟨a, C, v, rfl, o, no, he, k⟩ := h
    refine ⟨_, (pss_one (ps_ost (pv 0) (pv 1))), ?_⟩
    walk_at "go"
    walk_at "rd"
    refine r_ost ?_
    walk_at "rd"
    exact ⟨a, C, rfl, o, no, .inl ⟨he, k⟩⟩

theorem ok_NoTimes___init__ (T : Txt K mg) (TB : TBs T base) : FnOk P w K mg base CX0 1 T.f_NoTimes___init__ T.fd_NoTimes___init__ ["self", "times"] (spXInit K "times") := by
  refine T.F_NoTimes___init__.ok sc_NoTimes___init__ (fun vs H Q E h => ?_) (fun cdv A outer s H vs Q E hr h => ?_)
  · obtain ⟨a, C, v, rfl, _⟩ := h; rfl
  · obtain ⟨a, C, v, rfl, o, no, he, k⟩ := h
    refine ⟨_, (pss_one (ps_ost (pv 0) (pv 1))), ?_⟩
    walk_at "go"
    walk_at "rd"
    refine r_ost ?_
    walk_at "rd"
    exact ⟨a, C, rfl, o, no, .inl ⟨he, k⟩⟩

def spQuestion (C : Addr) : Sp := fun vs H Q _ => ∃ (p : Addr) (m : SM) (F : Addr → Prop) (s : Nat) (t : Int), vs = [.ref p, .int s, .int t] ∧ Sl C H p m F ∧ s < m.n ∧ 1 ≤ t ∧ t ≤ 1000000000000 ∧ Q .non H
theorem ok_check_question (T : Txt K mg) (TB : TBs T base) : FnOk P w K mg base CX0 4 T.f_check_question T.fd_check_question ["slots", "slot", "times"] (spQuestion T.C_Slots) := by
  refine T.F_check_question.ok sc_check_question (fun vs H Q E h => ?_) (fun cdv A outer s H vs Q E hr h => ?_)
  · obtain ⟨p, m, F, i, t, rfl, _⟩ := h; rfl
  · obtain ⟨p, m, F, i, t, rfl, S, h1, h2, h3, k⟩ := h
    refine ⟨_, (pss_cons (ps_if (pt_not (pt_val (pe_call (ok_is_slot T TB) (hr.mono (by decide)) rfl T.m_is_slot T.F_is_slot.kp T.b_is_slot .nil pass0 (pa_cons (pv 0 rfl vs_check_question_0) (pa_cons (pv 1 rfl vs_check_question_1) pa_nil))))) (pss_one ps_never) pss_nil)
  (pss_one (ps_if (pt_not (pt_val (pe_callN (ok_is_between T TB) (hr.mono (by decide)) rfl T.m_is_between T.F_is_between.kp T.kb_is_between pass0 (pa_cons (pv 2 rfl vs_check_question_2) pa_nil) (pk_cons pe_int (pk_cons (pe_gk rfl T.g_MOST_TIMES) pk_nil))))) (pss_one ps_never) pss_nil))), ?_⟩
    walk_at "go"
    walk_at "rd"
    refine ⟨p, m, F, i, rfl, S, ?_⟩
    rw [show inBnd 0 ((m.n : Int) - 1) (.int (i : Int)) = true by simp [inBnd]; omega]
    walk_at "rd"
    refine ⟨rfl, rfl, _, _, _, _, rfl, .int t, ?_⟩
    rw [show inBnd 1 1000000000000 (.int t) = true by simp [inBnd]; omega]
    walk_at "rd"
    exact k

/-- a question with a bad slot, or with bad times; W: what is wanted of the class, the attribute, the value -/
def BadQ (CS CT : Addr) (L : List R) (m : SM) (v u : V) (W : Addr → Str → V → Prop) : Prop :=
  ((∃ n, Kd L v n) ∧ inBnd 0 ((m.n : Int) - 1) v = false ∧ W CS "slot" v) ∨ ∃ s : Nat, v = .int (s : Int) ∧ s < m.n ∧ (∃ n, Kd L u n) ∧ inBnd 1 1000000000000 u = false ∧ W CT "times" u
def spQuestX (C CS CT : Addr) (K : PySem.W.Frag) (Tb : List (Addr × Str)) : Sp := fun vs H _ E => ∃ (L : List R) (p : Addr) (m : SM) (v u : V), vs = [.ref p, v, u] ∧ Sep C K Tb H L ∧ R.sl p m ∈ L ∧
  BadQ CS CT L m v u fun C' f x => ∀ (d : Addr) (H' : Hp), Sep C K Tb H' (.cell d (.xd [(f, x)]) :: L) → E (.ref C') (some d) H'
theorem okX_check_question (T : Txt K mg) (TB : TBs T base) : FnOk P w K mg base (L2.CX P w) 4 T.f_check_question T.fd_check_question ["slots", "slot", "times"] (spQuestX T.C_Slots T.C_NoSlot T.C_NoTimes K T.tabs) := by
  refine T.F_check_question.okX sc_check_question (fun vs H Q E h => ?_) (fun cdv A outer s H vs Q E hr h => ?_)
  · obtain ⟨L, p, m, v, u, rfl, _⟩ := h; rfl
  · obtain ⟨L, p, m, v, u, rfl, S, hsl, hq⟩ := h
    refine ⟨_, (pss_cons (ps_if (pt_not (pt_val (pe_call (okV_is_slot T TB) (hr.mono (by decide)) rfl T.m_is_slot T.F_is_slot.kp T.b_is_slot .nil pass0 (pa_cons (pv 0 rfl vs_check_question_0) (pa_cons (pv 1 rfl vs_check_question_1) pa_nil))))) (pss_one (ps_raiseF rfl T.x_NoSlot (ok_NoSlot___init__ T TB) (hr.mono (by decide)) T.b_NoSlot___init__ pass0 rfl T.g_NoSlot (takes_of rfl rfl rfl rfl) (pa_cons (pv 1 rfl vs_check_question_1) pa_nil))) pss_nil)
  (pss_one (ps_if (pt_not (pt_val (pe_callN (ok_is_between T TB) (hr.mono (by decide)) rfl T.m_is_between T.F_is_between.kp T.kb_is_between pass0 (pa_cons (pv 2 rfl vs_check_question_2) pa_nil) (pk_cons pe_int (pk_cons (pe_gk rfl T.g_MOST_TIMES) pk_nil))))) (pss_one (ps_raiseF rfl T.x_NoTimes (ok_NoTimes___init__ T TB) (hr.mono (by decide)) T.b_NoTimes___init__ pass0 rfl T.g_NoTimes (takes_of rfl rfl rfl rfl) (pa_cons (pv 2 rfl vs_check_question_2) pa_nil))) pss_nil))), ?_⟩
    walk_at "go"
    walk_at "sd"
    rcases hq with ⟨⟨n, kd⟩, hb, k⟩ | ⟨sn, rfl, hs, ⟨n, kd⟩, hb, k⟩
    · refine ⟨L, p, m, v, n, rfl, S, hsl, kd, ?_⟩
      rw [hb]
      walk_at "sd"
      refine r_raiseF ?_
      walk_at "sd"
      exact r_mkX T.x_NoSlot.o T.x_NoSlot.no fun d n => k d _ (S.new n trivial)
    · refine ⟨L, p, m, .int (sn : Int), _, rfl, S, hsl, .int _, ?_⟩
      rw [show inBnd 0 ((m.n : Int) - 1) (.int (sn : Int)) = true by simp [inBnd]; omega]
      walk_at "sd"
      refine ⟨rfl, rfl, _, _, _, _, rfl, S.kn kd, ?_⟩
      rw [hb]
      walk_at "sd"
      refine r_raiseF ?_
      walk_at "sd"
      exact r_mkX T.x_NoTimes.o T.x_NoTimes.no fun d n => k d _ (S.new n trivial)

theorem okB_check_question (T : Txt K mg) (TB : TBs T base) : FnOk P w K mg base (L2.CX P w) 4 T.f_check_question T.fd_check_question ["slots", "slot", "times"] (orSp (spQuestion T.C_Slots) (spQuestX T.C_Slots T.C_NoSlot T.C_NoTimes K T.tabs)) := orF (liftF (ok_check_question T TB)) (okX_check_question T TB)

/-- how many allocations another slot lacks -/
def lackN (m : SM) (s : Nat) (t : Int) (o : Nat) : Int := max 0 ((m.cnt s : Int) + t - 1 + (if o < s then 1 else 0) - (m.cnt o : Int))
def SM.oth (m : SM) (s : Nat) : List Nat := (List.range m.n).filter fun o => !decide (o = s)
theorem oth_le (m : SM) (s : Nat) : (m.oth s).length ≤ m.n := by
  have := List.length_filter_le (fun o => !decide (o = s)) (List.range m.n)
  rw [List.length_range] at this; exact this
def spShort (C : Addr) (K : PySem.W.Frag) (Tb : List (Addr × Str)) : Sp := fun vs H Q _ => ∃ (L : List R) (p : Addr) (m : SM) (s : Nat) (t : Int), vs = [.ref p, .int (s : Int), .int t] ∧ Sep C K Tb H (.sl p m :: L) ∧ s < m.n ∧
  ∀ (d : Addr) (H' : Hp), Sep C K Tb H' (.cell d (.dK (itK (lackN m s t) (m.oth s))) :: .sl p m :: L) → Q (.ref d) H'
theorem ok_shortages (T : Txt K mg) (TB : TBs T base) : FnOk P w K mg base CX0 2 T.f_shortages T.fd_shortages ["slots", "slot", "times"] (spShort T.C_Slots K T.tabs) := by
  refine T.F_shortages.ok sc_shortages (fun vs H Q E h => ?_) (fun cdv A outer s H vs Q E hr h => ?_)
  · obtain ⟨L, p, m, s, t, rfl, _⟩ := h; rfl
  · obtain ⟨L, p, m, sn, t, rfl, S, hs, k⟩ := h
    refine ⟨_, (pss_cons (ps_set (i := 3) sc_shortages.nd rfl lc_shortages_3 (pe_meth0 (pv 0 rfl vs_shortages_0) T.cl_Slots T.mt_Slots_counts (ok_Slots_counts T TB) (hr.mono (by decide)) T.b_Slots_counts .nil pass0))
  (pss_cons (ps_set (i := 4) sc_shortages.nd rfl lc_shortages_4 pe_dnewK)
  (pss_cons (ps_for PassesOwn.never rfl (pi_range1 (by rfl) T.z_range (pa_cons (pe_fld (pv 0 rfl vs_shortages_0) rfl) pa_nil)) (pg_name (i := 5) sc_shortages.nd rfl lc_shortages_5) (pss_one (ps_if (pt_cmpR op_ne (pv 5 rfl vs_shortages_5) (pv 1 rfl vs_shortages_1) (nomark _)) (pss_cons (ps_set (i := 6) sc_shortages.nd rfl lc_shortages_6 (pe_op op_add (pe_op op_sub (pe_op op_add (pe_ix (ixL (K := K)) (pv 3 rfl vs_shortages_3) (pv 1 rfl vs_shortages_1) (fun _ _ => rfl)) (pv 2 rfl vs_shortages_2)) pe_int) (pe_callTy c_int (by rfl) T.z_int (by decide +kernel) (pa_cons (pe_cmpR op_lt (pv 5 rfl vs_shortages_5) (pv 1 rfl vs_shortages_1) (nomark _)) pa_nil))))
  (pss_one (ps_dput (hu_of hr) (pv 4 rfl vs_shortages_4) (pv 5 rfl vs_shortages_5) (pe_callB (c_max2 rfl) (by rfl) T.z_max (by decide +kernel) (pa_cons pe_int (pa_cons (pe_op op_sub (pv 6 rfl vs_shortages_6) (pe_ix (ixL (K := K)) (pv 3 rfl vs_shortages_3) (pv 5 rfl vs_shortages_5) (fun _ _ => rfl))) pa_nil))) rfl))) pss_nil)))
  (pss_one (ps_ret (pv 4 rfl vs_shortages_4)))))), ?_⟩
    have cl := T.cl_Slots
    have n1 := T.n_Slots_n
    have ok := S.ok (m := m) (by walk_at "mm")
    have h64 := ok.n64
    have tl := ok.tl
    have hc : ∀ a, a < m.n → atI (iv m.taken) (a : Int) = some (.int ((m.cnt a : Nat) : Int)) := fun a ha => atI_nat (iv_get (by
      unfold SM.cnt
      rw [List.getD_eq_getElem?_getD, List.getElem?_eq_getElem (by omega)]; rfl))
    walk_at "go"
    walk_at "sd"
    refine u_counts S (by walk_at "mm") fun qc H1 S1 => ?_
    walk_at "sd"
    intro d hd
    have S2 := S1.new (o := .dK []) hd trivial
    generalize upd H1 d (.dK []) = H2 at S2 ⊢
    have S2 : Sep T.C_Slots K T.tabs H2 (.cell d (.dK (itK (lackN m sn t) ((List.range 0).filter fun o => !decide (o = sn)))) :: .cell qc (.lst (iv m.taken)) :: .sl p m :: L) := S2
    walk_at "sd"
    refine rng1L m.n rfl (by omega) ?_
    refine loop_range (fun i σ H' => ∃ v5 v6 : Option V, σ = [some (.ref p), some (.int (sn : Int)), some (.int t), some (.ref qc), some (.ref d), v5, v6] ∧
      Sep T.C_Slots K T.tabs H' (.cell d (.dK (itK (lackN m sn t) ((List.range i).filter fun o => !decide (o = sn)))) :: .cell qc (.lst (iv m.taken)) :: .sl p m :: L)) ⟨_, _, rfl, S2.fit (by walk_at "ft")⟩ ?_ ?_
    · rintro i σ H3 hi ⟨v5, v6, rfl, S3⟩
      walk_at "sd"
      refine if_nd (fun c => ?_) (fun c => ?_)
      · have hne : i ≠ sn := by omega
        walk_at "sd"
        refine r_ixl (SqL.of (S3.get (o := .lst (iv m.taken)) (by walk_at "mm"))) (hc sn hs) ?_
        walk_at "sd"
        refine r_ixl (SqL.of (S3.get (o := .lst (iv m.taken)) (by walk_at "mm"))) (hc i hi) ?_
        walk_at "sd"
        have ev : max 0 (((m.cnt sn : Nat) : Int) + t - 1 + (if decide ((i : Int) < (sn : Int)) = true then 1 else 0) - ((m.cnt i : Nat) : Int)) = lackN m sn t i := by
          unfold lackN
          by_cases z : i < sn
          · rw [if_pos (decide_eq_true (by omega)), if_pos z]
          · rw [if_neg (by simp; omega), if_neg z]
        rw [ev]
        have lr := List.length_filter_le (fun o => !decide (o = sn)) (List.range i)
        rw [List.length_range] at lr
        refine s_dputI S3 (by walk_at "pk") (by simp only [itK, List.length_map]; omega) fun H4 S4 => ?_
        rw [itK_put (fun z => by have := List.mem_range.mp (List.mem_filter.mp z).1; omega)] at S4
        refine ⟨_, _, rfl, ?_⟩
        rw [List.range_succ, List.filter_append, List.filter_cons_of_pos (by simp [hne]), List.filter_nil]
        exact S4
      · have hne : i = sn := by omega
        refine ⟨_, _, rfl, ?_⟩
        rw [List.range_succ, List.filter_append, List.filter_cons_of_neg (by simp [hne]), List.filter_nil, List.append_nil]
        exact S3
    · rintro σ H3 ⟨v5, v6, rfl, S3⟩
      walk_at "sd"
      exact k d H3 (S3.fit (rs := .cell d (.dK (itK (lackN m sn t) ((List.range m.n).filter fun o => !decide (o = sn)))) :: .sl p m :: L) (by walk_at "ft"))
/-! use -/
theorem u_short {C : Addr} {Tb : List (Addr × Str)} {K : PySem.W.Frag} {H : Hp} {L L' : List R} {Q : VK} {E : XK} {p : Addr} {m : SM} {s : Nat} {t : Int} (S : Sep C K Tb H L) (pk : Pick (.sl p m) L L') (hs : s < m.n) (k : ∀ d H', Sep C K Tb H' (.cell d (.dK (itK (lackN m s t) (m.oth s))) :: .sl p m :: L') → Q (.ref d) H') : spShort C K Tb [.ref p, .int (s : Int), .int t] H Q E := ⟨L', p, m, s, t, rfl, S.pick pk, hs, k⟩

def saveN (m : SM) (s : Nat) (t : Int) (o : Nat) : Int := lackN m s t o - (if o ∈ m.free then 1 else 0)
def spSave (C : Addr) (K : PySem.W.Frag) (Tb : List (Addr × Str)) : Sp := fun vs H Q _ => ∃ (L : List R) (p : Addr) (m : SM) (s : Nat) (t : Int), vs = [.ref p, .int (s : Int), .int t] ∧ Sep C K Tb H (.sl p m :: L) ∧ s < m.n ∧
  ∀ (q : Addr) (ys : List V) (qs : List (Int × Int)) (H' : Hp), qs.Perm (((m.oth s).map fun (o : Nat) => (saveN m s t o, (o : Int))).filter fun z => decide (0 < z.1)) → qs.Pairwise (fun a b => b.1 ≤ a.1) →
    Sep C K Tb H' (.cell q (.lst ys) :: .dats ys ((qs.take (m.lim - 1)).map pd) :: .sl p m :: L) → Q (.ref q) H'
theorem ok_savings (T : Txt K mg) (TB : TBs T base) : FnOk P w K mg base CX0 5 T.f_savings T.fd_savings ["slots", "slot", "times"] (spSave T.C_Slots K T.tabs) := by
  refine T.F_savings.ok sc_savings (fun vs H Q E h => ?_) (fun cdv A outer s H vs Q E hr h => ?_)
  · obtain ⟨L, p, m, s, t, rfl, _⟩ := h; rfl
  · obtain ⟨L, p, m, sn, t, rfl, S, hs, k⟩ := h
    refine ⟨_, (pss_cons (ps_set (i := 3) sc_savings.nd rfl lc_savings_3 (pe_meth0 (pv 0 rfl vs_savings_0) T.cl_Slots T.mt_Slots_free (ok_Slots_free T TB) (hr.mono (by decide)) T.b_Slots_free .nil pass0))
  (pss_cons (ps_setLc (i := 4) (own := [("other", 5), ("lack", 6)]) (g := gTup K 2 (gCons (gName 5) (gCons (gName 6) gNil))) rfl sc_savings.nd rfl rfl (sw_true rfl rfl rfl (by decide +kernel)) (pi_items (pe_lockR (pe_call (ok_shortages T TB) (hr.mono (by decide)) rfl T.m_shortages T.F_shortages.kp T.b_shortages .nil pass0 (pa_cons (pv 0 rfl vs_savings_0) (pa_cons (pv 1 rfl vs_savings_1) (pa_cons (pv 2 rfl vs_savings_2) pa_nil)))))) (blkOk_by (own := [("other", 5), ("lack", 6)]) (N := ["slots", "slot", "times", "free", "found", "other", "lack", "pair"]) (sc := defScope s_savings) (by decide +kernel)) (fun _ _ _ _ _ => (pg_tup (n := 2) rfl (pgs_cons (pg_name (i := 5) sc_savings.nd rfl (Or.inl rfl)) (pgs_cons (pg_name (i := 6) sc_savings.nd rfl (Or.inl rfl)) pgs_nil)))) (fun _ _ _ _ _ => pts_nil) (fun _ _ _ _ _ => (pe_tup (pa_cons (pe_op op_sub (pv 6) (pe_callTy c_int (by rfl) T.z_int (by decide +kernel) (pa_cons (pe_cmpR (inK (K := K)) (pv 5) (pv 3) (by rfl)) pa_nil))) (pa_cons (pv 5) pa_nil)))))
  (pss_cons (ps_set (i := 4) sc_savings.nd rfl lc_savings_4 (pe_callBK (sortedPR (K := K)) (by rfl) T.z_sorted (by decide +kernel) (pa_cons (pe_lc (own := [("pair", 7)]) (g := gName 7) rfl sc_savings.nd (pi_list (pv 4 rfl vs_savings_4)) (blkOk_by (own := [("pair", 7)]) (N := ["slots", "slot", "times", "free", "found", "other", "lack", "pair"]) (sc := defScope s_savings) (by decide +kernel)) (fun _ _ _ _ _ => (pg_name (i := 7) sc_savings.nd rfl (Or.inl rfl))) (fun _ _ _ _ _ => (pts_one (pt_cmpR op_gt (pe_ix (ixT (K := K)) (pv 7) pe_int (fun _ _ => rfl)) pe_int (nomark _)))) (fun _ _ _ _ _ => (pv 7))) pa_nil) (pk_cons pe_bl pk_nil)))
  (pss_one (ps_ret (pe_slice (slK (K := K)) (pv 4 rfl vs_savings_4) po_none (po_some (pe_op op_sub (pe_fld (pv 0 rfl vs_savings_0) rfl) pe_int)))))))), ?_⟩
    have cl := T.cl_Slots
    have n2 := T.n_Slots_limit
    have ok := S.ok (m := m) (by walk_at "mm")
    have h64 := ok.n64
    have hol := oth_le m sn
    walk_at "go"
    walk_at "sd"
    refine u_free S (by walk_at "mm") fun qf H1 S1 => ?_
    walk_at "sd"
    refine r_iItems ?_
    walk_at "sd"
    refine r_lockR ?_
    walk_at "sd"
    refine u_short S1 (by walk_at "pk") hs fun d H2 S2 => ?_
    refine ⟨d, .dK (itK (lackN m sn t) (m.oth sn)), rfl, S2.get (by walk_at "mm"), trivial, fun o => ⟨d, o, _, rfl, upd_same, ?_⟩⟩
    have S3 := S2.put (u := .frz o (.dK (itK (lackN m sn t) (m.oth sn)))) (show Pick (.cell d (.dK (itK (lackN m sn t) (m.oth sn)))) _ _ from .here) trivial
    generalize upd H2 d (.frz o (.dK (itK (lackN m sn t) (m.oth sn)))) = H3 at S3 ⊢
    refine s_lcItems (m.oth sn) S3 (by walk_at "mm") (by omega) (fun (x : Nat) => pd (saveN m sn t x, (x : Int))) (fun D H' T x acc ads N hxo hacc S' k1 => ?_) (fun D H4 ys S4 => ?_)
    · walk_at "sd"
      refine s_inN S' (by walk_at "mm") ?_
      walk_at "sd"
      have ev : lackN m sn t x - (if decide (x ∈ m.free) = true then 1 else 0) = saveN m sn t x := by unfold saveN; simp
      rename_i p2 H5 S5
      rw [ev] at S5
      exact s_keepD (d := pd (saveN m sn t x, (x : Int))) S5 (show Has true _ (.ref p2) (.tuple [.int (saveN m sn t x), .int (x : Int)]) from by walk_at "hs") (.dats (by walk_at "mm")) (by walk_at "pk") (by walk_at "ft") (by omega) fun H'' S3x => k1 H'' _ S3x
    · generalize hzs : ((m.oth sn).map fun (o : Nat) => (saveN m sn t o, (o : Int))) = zs at k
      have e1 : ((m.oth sn).map fun (x : Nat) => pd (saveN m sn t x, (x : Int))) = zs.map pd := by rw [← hzs, List.map_map]; rfl
      have lz : zs.length ≤ 64 := by rw [← hzs, List.length_map]; omega
      rw [e1] at S4
      have lys : ys.length = zs.length := by
        have := S4.len (.dats (vs := ys) (ds := zs.map pd) (by walk_at "mm"))
        rw [List.length_map] at this; exact this
      walk_at "sd"
      refine r_ckw ?_
      walk_at "sd"
      refine s_lcLD zs S4 (.inl (by walk_at "mm")) lys (by omega) (fun z => decide (0 < z.1)) pd (fun D H' j x z acc ads N hx hz hacc S' k1 k0 => ?_) (fun D2 H5 ys2 S5 => ?_)
      · obtain ⟨z1, z2⟩ := z
        obtain ⟨t', rfl, S''⟩ := S'.pair (a := z1) (b := z2) (.item (vs := ys) (ds := zs.map pd) (i := j) (by walk_at "mm") hx (by rw [List.getElem?_map, hz]; rfl))
        walk_at "sd"
        refine if_d (fun c => ?_) (fun c => ?_)
        · walk_at "sd"
          exact s_keepD (d := pd (z1, z2)) S'' (show Has true _ (.ref t') (.tuple [.int z1, .int z2]) from by walk_at "hs") (.dats (by walk_at "mm")) (by walk_at "pk") (by walk_at "ft") hacc fun H'' S3x => k1 (decide_eq_true c) H'' _ S3x
        · exact k0 (decide_eq_false c) _ (S''.fit (by walk_at "ft"))
      · walk_at "sd"
        refine s_sortedPR S5 (by walk_at "mm") (by walk_at "mm") fun q ys3 qs H6 hp hso S6 => ?_
        walk_at "sd"
        rename_i r H7 S7
        have l1 := ok.ar.l1
        rw [show ((m.lim : Int) - 1) = ((m.lim - 1 : Nat) : Int) by omega, cut_top] at S7
        have S8 := S7.datsT (vs := ys3) (ds := qs.map pd) (.dats (by walk_at "mm")) (m.lim - 1)
        rw [← List.map_take] at S8
        exact k r _ qs H7 hp hso (S8.fit (by walk_at "ft"))

def leastLeast (m : SM) (s : Nat) (t : Int) : Int := t + ((m.oth s).map (lackN m s t)).sum - bestS (m.lim - 1) ((m.oth s).map (saveN m s t))
theorem best_of {m : SM} {s : Nat} {t : Int} {qs : List (Int × Int)} (hp : qs.Perm (((m.oth s).map fun (o : Nat) => (saveN m s t o, (o : Int))).filter fun z => decide (0 < z.1))) (hs : qs.Pairwise (fun a b => b.1 ≤ a.1)) (k : Nat) :
    ((qs.take k).map (·.1)).sum = bestS k ((m.oth s).map (saveN m s t)) := by
  have h1 : (qs.map (·.1)).Perm (((m.oth s).map (saveN m s t)).filter fun x => decide (0 < x)) := by
    have := hp.map (·.1)
    refine this.trans ?_
    rw [List.filter_map, List.map_map, List.filter_map]
    exact .refl _
  have h2 : (qs.map (·.1)).Pairwise (· ≥ ·) := List.pairwise_map.mpr (hs.imp fun h => h)
  have h3 : ∀ x ∈ qs.map (·.1), 0 ≤ x := fun x hx => by
    have := (List.mem_filter.mp (h1.mem_iff.mp hx)).2
    simp at this; omega
  rw [List.map_take, ← bestS_sorted _ k h2 h3, bestS_perm h1, bestS_filter]
def spLeastLeast (C : Addr) (K : PySem.W.Frag) (Tb : List (Addr × Str)) : Sp := fun vs H Q _ => ∃ (L : List R) (p : Addr) (m : SM) (s : Nat) (t : Int), vs = [.ref p, .int (s : Int), .int t] ∧ Sep C K Tb H (.sl p m :: L) ∧ s < m.n ∧
  ∀ (H' : Hp), Sep C K Tb H' (.sl p m :: L) → Q (.int (leastLeast m s t)) H'
theorem ok_least_for_least (T : Txt K mg) (TB : TBs T base) : FnOk P w K mg base CX0 6 T.f_least_for_least T.fd_least_for_least ["slots", "slot", "times"] (spLeastLeast T.C_Slots K T.tabs) := by
  refine T.F_least_for_least.ok sc_least_for_least (fun vs H Q E h => ?_) (fun cdv A outer s H vs Q E hr h => ?_)
  · obtain ⟨L, p, m, s, t, rfl, _⟩ := h; rfl
  · obtain ⟨L, p, m, sn, t, rfl, S, hs, k⟩ := h
    refine ⟨_, (pss_cons (ps_set (i := 3) sc_least_for_least.nd rfl lc_least_for_least_3 (pe_sumVals (by rfl) (by rfl) T.z_sum (pe_call (ok_shortages T TB) (hr.mono (by decide)) rfl T.m_shortages T.F_shortages.kp T.b_shortages .nil pass0 (pa_cons (pv 0 rfl vs_least_for_least_0) (pa_cons (pv 1 rfl vs_least_for_least_1) (pa_cons (pv 2 rfl vs_least_for_least_2) pa_nil))))))
  (pss_one (ps_ret (pe_op op_sub (pe_op op_add (pv 2 rfl vs_least_for_least_2) (pv 3 rfl vs_least_for_least_3)) (pe_callB (sumK rfl (K := K)) (by rfl) T.z_sum (by decide +kernel) (pa_cons (pe_lc (own := [("saving", 4), ("other", 5)]) (g := gTup K 2 (gCons (gName 4) (gCons (gName 5) gNil))) rfl sc_least_for_least.nd (pi_list (pe_call (ok_savings T TB) (hr.mono (by decide)) rfl T.m_savings T.F_savings.kp T.b_savings .nil pass0 (pa_cons (pv 0 rfl vs_least_for_least_0) (pa_cons (pv 1 rfl vs_least_for_least_1) (pa_cons (pv 2 rfl vs_least_for_least_2) pa_nil))))) (blkOk_by (own := [("saving", 4), ("other", 5)]) (N := ["slots", "slot", "times", "lacking", "saving", "other"]) (sc := defScope s_least_for_least) (by decide +kernel)) (fun _ _ _ _ _ => (pg_tup (n := 2) rfl (pgs_cons (pg_name (i := 4) sc_least_for_least.nd rfl (Or.inl rfl)) (pgs_cons (pg_name (i := 5) sc_least_for_least.nd rfl (Or.inl rfl)) pgs_nil)))) (fun _ _ _ _ _ => pts_nil) (fun _ _ _ _ _ => (pv 4))) pa_nil)))))), ?_⟩
    have ok := S.ok (m := m) (by walk_at "mm")
    have h64 := ok.n64
    have hol := oth_le m sn
    walk_at "go"
    walk_at "sd"
    refine r_sumVals ?_
    walk_at "sd"
    refine u_short S (by walk_at "pk") hs fun d H1 S1 => ?_
    refine ⟨d, _, (m.oth sn).map (lackN m sn t), rfl, S1.get (by walk_at "mm"), by simp [itK, List.map_map, Function.comp_def], ?_⟩
    walk_at "sd"
    refine ⟨.cell d (.dK (itK (lackN m sn t) (m.oth sn))) :: L, p, m, sn, t, rfl, S1.fit (by walk_at "ft"), hs, fun q ys qs H2 hp hso S2 => ?_⟩
    walk_at "sd"
    generalize hqk : qs.take (m.lim - 1) = qk at S2
    have lys : ys.length = qk.length := by
      have := S2.len (.dats (vs := ys) (ds := qk.map pd) (by walk_at "mm"))
      rw [List.length_map] at this; exact this
    have lqk : qk.length ≤ 64 := by
      have h1 := hp.length_eq
      have h2 := List.length_filter_le (fun (z : Int × Int) => decide (0 < z.1)) ((m.oth sn).map fun (o : Nat) => (saveN m sn t o, (o : Int)))
      rw [List.length_map] at h2
      rw [← hqk, List.length_take]; omega
    refine s_lcL qk S2 (.inl (by walk_at "mm")) lys (by omega) (fun _ => true) (fun (z : Int × Int) => V.int z.1) (fun D H' i x z acc N hx hz hacc S' k1 k0 => ?_) (fun D H3 S3 => ?_)
    · obtain ⟨z1, z2⟩ := z
      obtain ⟨t', rfl, S''⟩ := S'.pair (a := z1) (b := z2) (.item (vs := ys) (ds := qk.map pd) (i := i) (by walk_at "mm") hx (by rw [List.getElem?_map, hz]; rfl))
      walk_at "sd"
      exact s_keep S'' (by walk_at "pk") (by walk_at "ft") hacc fun H'' S3' => k1 rfl H'' S3'
    · have el : ((qk.filter fun _ => true).map fun (z : Int × Int) => V.int z.1) = (qk.map (·.1)).map V.int := by
        rw [List.filter_eq_self.mpr (by simp), List.map_map]; rfl
      rw [el] at S3
      walk_at "sd"
      refine r_sum (SqL.of (S3.get (by walk_at "mm"))) ?_
      rw [← hqk, best_of hp hso]
      walk_at "sd"
      exact k H3 (S3.fit (by walk_at "ft"))

/-- the least number, for each rule -/
def least4 (m : SM) (s : Nat) (t : Int) : V := match m.rule with
  | .last => leastLast m s t
  | .first => .int (leastFirst m s t)
  | .lowest => leastLow m s t
  | .least => .int (leastLeast m s t)
def spLeast4N (C : Addr) (K : PySem.W.Frag) (Tb : List (Addr × Str)) : Sp := fun vs H Q _ => ∃ (L : List R) (p : Addr) (m : SM) (s : Nat) (t : Int), vs = [.ref p, .int (s : Int), .int t] ∧ Sep C K Tb H (.sl p m :: L) ∧ s < m.n ∧ ∀ H' : Hp, Sep C K Tb H' (.sl p m :: L) → Q (least4 m s t) H'
theorem ok_least_number (T : Txt K mg) (TB : TBs T base) : FnOk P w K mg base CX0 7 T.f_least_number T.fd_least_number ["slots", "slot", "times"] (spLeast4N T.C_Slots K T.tabs) := by
  refine T.F_least_number.ok sc_least_number (fun vs H Q E h => ?_) (fun cdv A outer s H vs Q E hr h => ?_)
  · obtain ⟨L, p, m, i, t, rfl, _⟩ := h; rfl
  · obtain ⟨L, p, m, i, t, rfl, S, hs, k⟩ := h
    refine ⟨_, (pss_cons (ps_if (pt_cmpR op_eq (pe_fld (pv 0 rfl vs_least_number_0) rfl) pe_str (nomark _)) (pss_one (ps_ret (pe_call (ok_least_for_last T TB) (hr.mono (by decide)) rfl T.m_least_for_last T.F_least_for_last.kp T.b_least_for_last .nil pass0 (pa_cons (pv 0 rfl vs_least_number_0) (pa_cons (pv 1 rfl vs_least_number_1) (pa_cons (pv 2 rfl vs_least_number_2) pa_nil)))))) pss_nil)
  (pss_cons (ps_if (pt_cmpR op_eq (pe_fld (pv 0 rfl vs_least_number_0) rfl) pe_str (nomark _)) (pss_one (ps_ret (pe_call (ok_least_for_first T TB) (hr.mono (by decide)) rfl T.m_least_for_first T.F_least_for_first.kp T.b_least_for_first .nil pass0 (pa_cons (pv 0 rfl vs_least_number_0) (pa_cons (pv 1 rfl vs_least_number_1) (pa_cons (pv 2 rfl vs_least_number_2) pa_nil)))))) pss_nil)
  (pss_cons (ps_if (pt_cmpR op_eq (pe_fld (pv 0 rfl vs_least_number_0) rfl) pe_str (nomark _)) (pss_one (ps_ret (pe_call (ok_least_for_lowest T TB) (hr.mono (by decide)) rfl T.m_least_for_lowest T.F_least_for_lowest.kp T.b_least_for_lowest .nil pass0 (pa_cons (pv 0 rfl vs_least_number_0) (pa_cons (pv 1 rfl vs_least_number_1) (pa_cons (pv 2 rfl vs_least_number_2) pa_nil)))))) pss_nil)
  (pss_one (ps_ret (pe_call (ok_least_for_least T TB) (hr.mono (by decide)) rfl T.m_least_for_least T.F_least_for_least.kp T.b_least_for_least .nil pass0 (pa_cons (pv 0 rfl vs_least_number_0) (pa_cons (pv 1 rfl vs_least_number_1) (pa_cons (pv 2 rfl vs_least_number_2) pa_nil))))))))), ?_⟩
    have cl := T.cl_Slots
    have n4 := T.n_Slots_rule
    obtain ⟨F, f⟩ := S.slot (p := p) (m := m) (by walk_at "mm")
    walk_at "go"
    walk_at "sd"
    cases e : m.rule with
    | last =>
      have e3 : least4 m i t = leastLast m i t := by unfold least4; rw [e]
      refine if_T (decide_eq_true (by decide +kernel)) ?_
      walk_at "sd"
      exact ⟨p, m, F, i, t, rfl, f, S.tb, fun H' o t' => by rw [← e3]; exact k H' (S.read o t')⟩
    | first =>
      have e3 : least4 m i t = .int (leastFirst m i t) := by unfold least4; rw [e]
      refine if_F (decide_eq_false (by decide +kernel)) ?_
      walk_at "sd"
      rw [e]
      refine if_T (decide_eq_true (by decide +kernel)) ?_
      walk_at "sd"
      exact ⟨p, m, F, i, t, rfl, f, S.tb, fun H' o t' => by rw [← e3]; exact k H' (S.read o t')⟩
    | lowest =>
      have e3 : least4 m i t = leastLow m i t := by unfold least4; rw [e]
      refine if_F (decide_eq_false (by decide +kernel)) ?_
      walk_at "sd"
      rw [e]
      refine if_F (decide_eq_false (by decide +kernel)) ?_
      walk_at "sd"
      rw [e]
      refine if_T (decide_eq_true (by decide +kernel)) ?_
      walk_at "sd"
      exact ⟨p, m, F, i, t, rfl, f, S.tb, fun H' o t' => by rw [← e3]; exact k H' (S.read o t')⟩
    | least =>
      have e3 : least4 m i t = .int (leastLeast m i t) := by unfold least4; rw [e]
      refine if_F (decide_eq_false (by decide +kernel)) ?_
      walk_at "sd"
      rw [e]
      refine if_F (decide_eq_false (by decide +kernel)) ?_
      walk_at "sd"
      rw [e]
      refine if_F (decide_eq_false (by decide +kernel)) ?_
      walk_at "sd"
      exact ⟨L, p, m, i, t, rfl, S, hs, fun H' S' => by rw [← e3]; exact k H' S'⟩

def spLeast4 (C : Addr) (K : PySem.W.Frag) (Tb : List (Addr × Str)) : Sp := fun vs H Q _ => ∃ (L : List R) (p : Addr) (m : SM) (s : Nat) (t : Int), vs = [.ref p, .int (s : Int), .int t] ∧ Sep C K Tb H (.sl p m :: L) ∧ s < m.n ∧ 1 ≤ t ∧ t ≤ 1000000000000 ∧ ∀ H' : Hp, Sep C K Tb H' (.sl p m :: L) → Q (least4 m s t) H'
theorem ok_least (T : Txt K mg) (TB : TBs T base) : FnOk P w K mg base CX0 8 T.f_least T.fd_least ["slots", "slot", "times"] (spLeast4 T.C_Slots K T.tabs) := by
  refine T.F_least.ok sc_least (fun vs H Q E h => ?_) (fun cdv A outer s H vs Q E hr h => ?_)
  · obtain ⟨L, p, m, i, t, rfl, _⟩ := h; rfl
  · obtain ⟨L, p, m, i, t, rfl, S, h1, h2, h3, k⟩ := h
    refine ⟨_, (pss_cons (ps_expr (pe_call (ok_check_question T TB) (hr.mono (by decide)) rfl T.m_check_question T.F_check_question.kp T.b_check_question .nil pass0 (pa_cons (pv 0 rfl vs_least_0) (pa_cons (pv 1 rfl vs_least_1) (pa_cons (pv 2 rfl vs_least_2) pa_nil)))))
  (pss_one (ps_ret (pe_call (ok_least_number T TB) (hr.mono (by decide)) rfl T.m_least_number T.F_least_number.kp T.b_least_number .nil pass0 (pa_cons (pv 0 rfl vs_least_0) (pa_cons (pv 1 rfl vs_least_1) (pa_cons (pv 2 rfl vs_least_2) pa_nil))))))), ?_⟩
    obtain ⟨F, f⟩ := S.slot (p := p) (m := m) (by walk_at "mm")
    walk_at "go"
    walk_at "sd"
    refine ⟨p, m, F, i, t, rfl, f, h1, h2, h3, ?_⟩
    walk_at "sd"
    exact ⟨L, p, m, i, t, rfl, S, h1, k⟩
/-! use -/
theorem u_least4 {C : Addr} {Tb : List (Addr × Str)} {K : PySem.W.Frag} {H : Hp} {L L' : List R} {Q : VK} {E : XK} {p : Addr} {m : SM} {s : Nat} {t : Int} (S : Sep C K Tb H L) (pk : Pick (.sl p m) L L') (hs : s < m.n) (h1 : 1 ≤ t) (h2 : t ≤ 1000000000000) (k : ∀ H', Sep C K Tb H' (.sl p m :: L') → Q (least4 m s t) H') : spLeast4 C K Tb [.ref p, .int (s : Int), .int t] H Q E := ⟨L', p, m, s, t, rfl, S.pick pk, hs, h1, h2, k⟩

theorem okX_least (T : Txt K mg) (TB : TBs T base) : FnOk P w K mg base (L2.CX P w) 8 T.f_least T.fd_least ["slots", "slot", "times"] (spQuestX T.C_Slots T.C_NoSlot T.C_NoTimes K T.tabs) := by
  refine T.F_least.okX sc_least (fun vs H Q E h => ?_) (fun cdv A outer s H vs Q E hr h => ?_)
  · obtain ⟨L, p, m, v, u, rfl, _⟩ := h; rfl
  · obtain ⟨L, p, m, v, u, rfl, S, hsl, hq⟩ := h
    refine ⟨_, (pss_cons (ps_expr (pe_call (okB_check_question T TB) (hr.mono (by decide)) rfl T.m_check_question T.F_check_question.kp T.b_check_question .nil passX (pa_cons (pv 0 rfl vs_least_0) (pa_cons (pv 1 rfl vs_least_1) (pa_cons (pv 2 rfl vs_least_2) pa_nil)))))
  (pss_one (ps_ret (pe_call (ok_least_number T TB) (hr.mono (by decide)) rfl T.m_least_number T.F_least_number.kp T.b_least_number .nil pass0 (pa_cons (pv 0 rfl vs_least_0) (pa_cons (pv 1 rfl vs_least_1) (pa_cons (pv 2 rfl vs_least_2) pa_nil))))))), ?_⟩
    walk_at "go"
    walk_at "sd"
    exact .inr ⟨L, p, m, v, u, rfl, S, hsl, hq⟩

theorem okB_least (T : Txt K mg) (TB : TBs T base) : FnOk P w K mg base (L2.CX P w) 8 T.f_least T.fd_least ["slots", "slot", "times"] (orSp (spLeast4 T.C_Slots K T.tabs) (spQuestX T.C_Slots T.C_NoSlot T.C_NoTimes K T.tabs)) := orF (liftF (ok_least T TB)) (okX_least T TB)

theorem exD_cnt {us : List V} : ∀ (ds : List Deed) (m : SM) (j B : Nat), (∀ c ∈ m.taken, c ≤ B) → ∀ c ∈ (exD us m j ds).taken, c ≤ B + ds.length
  | [], m, j, B, h => fun c hc => h c hc
  | none :: r, m, j, B, h => fun c hc => by
    have h1 : ∀ c ∈ (m.take (us.getD j .non)).taken, c ≤ B + 1 := fun c hc => by
      rcases List.mem_or_eq_of_mem_set hc with z | z
      · have := h c z; omega
      · have h2 : m.cnt m.slot ≤ B := by
          unfold SM.cnt
          rw [List.getD_eq_getElem?_getD]
          cases e : m.taken[m.slot]? with
          | none => exact Nat.zero_le _
          | some x => exact h x (List.mem_of_getElem? e)
        omega
    have := exD_cnt r (m.take (us.getD j .non)) (j + 1) (B + 1) h1 c hc
    simp only [List.length_cons]; omega
  | some k :: r, m, j, B, h => fun c hc => by
    have := exD_cnt r (m.give (m.ages.getD k 0)) j B h c hc
    simp only [List.length_cons]; omega
def spMap (C : Addr) (K : PySem.W.Frag) (Tb : List (Addr × Str)) : Sp := fun vs H Q _ => ∃ (L : List R) (s : Addr) (most : Nat), vs = [.ref s, .int most] ∧ Sep C K Tb H (.src s :: L) ∧ 1 ≤ most ∧ most ≤ 64 ∧
  ∀ (p : Addr) (m : SM) (H' : Hp), m.Ok → m.n ≤ most → (∀ c ∈ m.taken, c ≤ 24) → (∀ v ∈ m.vals, flatB v = true) → Sep C K Tb H' (.sl p m :: .src s :: L) → Q (.ref p) H'
theorem flat_of {us : List V} (h : us.all flatB = true) : ∀ v ∈ us, flatB v = true := fun v hv => List.all_eq_true.mp h v hv
theorem ok__law_map (T : Txt K mg) (TB : TBs T base) : FnOk P w K mg base CX0 7 T.f__law_map T.fd__law_map ["_law_source", "_law_most"] (spMap T.C_Slots K T.tabs) := by
  refine T.F__law_map.ok sc__law_map (fun vs H Q E h => ?_) (fun cdv A outer s H vs Q E hr h => ?_)
  · obtain ⟨L, s, most, rfl, _⟩ := h; rfl
  · obtain ⟨L, s, most, rfl, S, m1, m2, k⟩ := h
    refine ⟨_, (pss_cons (ps_set (i := 2) sc__law_map.nd rfl lc__law_map_2 (pe_call (ok__law_numbers T TB) (hr.mono (by decide)) rfl T.m__law_numbers T.F__law_numbers.kp T.b__law_numbers .nil pass0 (pa_cons (pv 0 rfl vs__law_map_0) (pa_cons (pv 1 rfl vs__law_map_1) pa_nil))))
  (pss_cons (ps_set (i := 3) sc__law_map.nd rfl lc__law_map_3 (pe_make T.mk_Slots (ok_Slots___init__ T TB) (hr.mono (by decide)) rfl T.g_Slots T.b_Slots___init__ .nil pass0 (pa_cons (pe_ix (ixT (K := K)) (pv 2 rfl vs__law_map_2) pe_int (fun _ _ => rfl)) (pa_cons (pe_ix (ixT (K := K)) (pv 2 rfl vs__law_map_2) pe_int (fun _ _ => rfl)) (pa_cons (pe_ix (ixT (K := K)) (pv 2 rfl vs__law_map_2) pe_int (fun _ _ => rfl)) (pa_cons (pe_ix (ixT (K := K)) (pv 2 rfl vs__law_map_2) pe_int (fun _ _ => rfl)) pa_nil))))))
  (pss_cons (ps_set (i := 4) sc__law_map.nd rfl lc__law_map_4 (pe_call (ok__law_deeds T TB) (hr.mono (by decide)) rfl T.m__law_deeds T.F__law_deeds.kp T.b__law_deeds .nil pass0 (pa_cons (pv 0 rfl vs__law_map_0) (pa_cons (pe_ix (ixT (K := K)) (pv 2 rfl vs__law_map_2) pe_int (fun _ _ => rfl)) (pa_cons (pe_call (ok__law_one T TB) (hr.mono (by decide)) rfl T.m__law_one T.F__law_one.kp T.b__law_one .nil pass0 (pa_cons (pv 0 rfl vs__law_map_0) (pa_cons (pe_lst (pa_cons pe_int (pa_cons pe_int (pa_cons pe_int (pa_cons pe_int pa_nil))))) pa_nil))) pa_nil)))))
  (pss_cons (ps_expr (pe_call (ok__law_execute T TB) (hr.mono (by decide)) rfl T.m__law_execute T.F__law_execute.kp T.b__law_execute .nil pass0 (pa_cons (pv 3 rfl vs__law_map_3) (pa_cons (pv 4 rfl vs__law_map_4) (pa_cons (pe_lst (pa_cons pe_str (pa_cons pe_str (pa_cons pe_str (pa_cons pe_str (pa_cons pe_str pa_nil)))))) pa_nil)))))
  (pss_one (ps_ret (pv 3 rfl vs__law_map_3))))))), ?_⟩
    walk_at "go"
    walk_at "sd"
    refine u_numbers S (by walk_at "pk") m1 m2 fun nq n l g r H6 ar hn S6 => ?_
    have l1 := ar.l1
    have l2 := ar.l2
    have n2 := ar.n2
    walk_at "sd"
    refine u_new S6 ar fun p H7 S7 => ?_
    walk_at "sd"
    rename_i a3 H8 S8
    refine u_one S8 (by walk_at "pk") (by walk_at "mm") (by simp) (by walk_at "sz") fun v H9 hv S9 => ?_
    obtain ⟨many, rfl, hm⟩ : ∃ many : Nat, v = .int (many : Int) ∧ many ≤ 24 := by
      simp only [List.mem_cons, List.not_mem_nil, or_false] at hv
      rcases hv with rfl | rfl | rfl | rfl
      · exact ⟨0, rfl, by decide⟩
      · exact ⟨3, rfl, by decide⟩
      · exact ⟨9, rfl, by decide⟩
      · exact ⟨24, rfl, by decide⟩
    walk_at "sd"
    refine u_deeds S9 (by walk_at "pk") (by omega) (by omega) (by omega) fun d xs ds H10 hds hg S10 => ?_
    walk_at "sd"
    rename_i a4 H11 S11
    refine u_exec (us := [.str "a", .str "b", .str "c", .str "d", .str "e"]) S11 (by walk_at "ft") hg (by omega) fun q hs H12 ok S12 => ?_
    walk_at "sd"
    obtain ⟨e1, e2, e3, e4⟩ := exD_args (us := [.str "a", .str "b", .str "c", .str "d", .str "e"]) ds (SM.new n l g r) 0
    refine k p _ H12 ok (by rw [e1]; exact hn) (fun c hc => ?_) (exD_vals (flat_of rfl) rfl ds _ 0 (fun v hv => by cases hv)) (S12.fit (by walk_at "ft"))
    have := exD_cnt ds (SM.new n l g r) 0 0 (fun c hc => by rw [show c = 0 from (List.mem_replicate.mp hc).2]; exact Nat.le_refl _) c hc
    omega
/-! use -/
theorem u_map {C : Addr} {Tb : List (Addr × Str)} {K : PySem.W.Frag} {H : Hp} {L L' : List R} {Q : VK} {E : XK} {s : Addr} {most : Nat} (S : Sep C K Tb H L) (pk : Pick (.src s) L L') (h1 : 1 ≤ most) (h2 : most ≤ 64)
    (k : ∀ (p : Addr) (m : SM) (H' : Hp), m.Ok → m.n ≤ most → (∀ c ∈ m.taken, c ≤ 24) → (∀ v ∈ m.vals, flatB v = true) → Sep C K Tb H' (.sl p m :: .src s :: L') → Q (.ref p) H') : spMap C K Tb [.ref s, .int (most : Int)] H Q E := ⟨L', s, most, rfl, S.pick pk, h1, h2, k⟩

theorem ok_TooLong___init__ (T : Txt K mg) (TB : TBs T base) : FnOk P w K mg base CX0 1 T.f_TooLong___init__ T.fd_TooLong___init__ ["self", "number"] (spXInit K "number") := by
  refine T.F_TooLong___init__.ok sc_TooLong___init__ (fun vs H Q E h => ?_) (fun cdv A outer s H vs Q E hr h => ?_)
  · obtain ⟨a, C, v, rfl, _⟩ := h; rfl
  · obtain ⟨a, C, v, rfl, o, no, he, k⟩ := h
    refine ⟨_, (pss_one (ps_ost (pv 0) (pv 1))), ?_⟩
    walk_at "go"
    walk_at "rd"
    refine r_ost ?_
    walk_at "rd"
    exact ⟨a, C, rfl, o, no, .inl ⟨he, k⟩⟩

/-- the live handle of a slot, or none -/
def spHandleOf (C : Addr) (K : PySem.W.Frag) (Tb : List (Addr × Str)) : Sp := fun vs H Q _ => ∃ (L : List R) (p : Addr) (m : SM) (s : Nat), vs = [.ref p, .int (s : Int)] ∧ Sep C K Tb H L ∧ R.sl p m ∈ L ∧
  (s ∈ m.ages → ∀ (t : Addr) (H' : Hp), Sep C K Tb H' (.tup t [.int (s : Int), .int (m.gen s)] :: L) → Q (.ref t) H') ∧ (s ∉ m.ages → ∀ H', Sep C K Tb H' L → Q .non H')
theorem liveH_filt (m : SM) (s : Nat) (nd : m.ages.Nodup) : (m.liveH.filter fun q => decide (q.1 = (s : Int))) = if s ∈ m.ages then [((s : Int), m.gen s)] else [] := by
  unfold SM.liveH
  generalize m.ages = l at *
  induction l with
  | nil => rfl
  | cons a r ih =>
    obtain ⟨n1, n2⟩ := List.nodup_cons.mp nd
    rw [List.map_cons, List.filter_cons, ih n2]
    by_cases c : a = s
    · subst c
      rw [if_neg n1, if_pos (by simp), if_pos List.mem_cons_self]
    · rw [if_neg (by simp; omega)]
      by_cases d : s ∈ r
      · rw [if_pos d, if_pos (List.mem_cons_of_mem _ d)]
      · rw [if_neg d, if_neg (fun z => (List.mem_cons.mp z).elim (fun e => c e.symm) d)]
theorem ok_handle_of (T : Txt K mg) (TB : TBs T base) : FnOk P w K mg base CX0 3 T.f_handle_of T.fd_handle_of ["slots", "slot"] (spHandleOf T.C_Slots K T.tabs) := by
  refine T.F_handle_of.ok sc_handle_of (fun vs H Q E h => ?_) (fun cdv A outer s H vs Q E hr h => ?_)
  · obtain ⟨L, p, m, s, rfl, _⟩ := h; rfl
  · obtain ⟨L, p, m, sn, rfl, S, hsl, k1, k2⟩ := h
    refine ⟨_, (pss_cons (ps_setLc (i := 2) (own := [("handle", 3)]) (g := gName 3) rfl sc_handle_of.nd rfl rfl (sw_true rfl rfl rfl (by decide +kernel)) (pi_list (pe_meth0 (pv 0 rfl vs_handle_of_0) T.cl_Slots T.mt_Slots_live (ok_Slots_live T TB) (hr.mono (by decide)) T.b_Slots_live .nil pass0)) (blkOk_by (own := [("handle", 3)]) (N := ["slots", "slot", "found", "handle"]) (sc := defScope s_handle_of) (by decide +kernel)) (fun _ _ _ _ _ => (pg_name (i := 3) sc_handle_of.nd rfl (Or.inl rfl))) (fun _ _ _ _ _ => (pts_one (pt_cmpR op_eq (pe_ix (ixT (K := K)) (pv 3) pe_int (fun _ _ => rfl)) (pv 1) (nomark _)))) (fun _ _ _ _ _ => (pv 3)))
  (pss_one (ps_ret (pe_ifExp (pt_cmpR (neK hr.units (K := K)) (pv 2 rfl vs_handle_of_2) (pe_lst pa_nil) (nomark _)) (pe_ix (ixL (K := K)) (pv 2 rfl vs_handle_of_2) pe_int (fun _ _ => rfl)) pe_non)))), ?_⟩
    have cl := T.cl_Slots
    have ok := S.ok hsl
    have h64 := ok.n64
    have hlv := ok.lv
    have hl2 := ok.ar.l2
    walk_at "go"
    walk_at "sd"
    refine u_live S hsl fun q xs H1 S1 => ?_
    have lxs : xs.length = m.liveH.length := by
      have := S1.len (.dats (vs := xs) (ds := m.liveH.map pd) (by walk_at "mm"))
      rw [List.length_map] at this; exact this
    have hlen := SM.liveH_len m
    walk_at "sd"
    refine s_lcLD m.liveH S1 (.inl (by walk_at "mm")) lxs (by omega) (fun z => decide (z.1 = (sn : Int))) pd (fun D H' i x z acc ads N hx hz hacc S' k1 k0 => ?_) (fun q2 H2 ys S2 => ?_)
    · obtain ⟨t', rfl, S''⟩ := S'.pair (a := z.1) (b := z.2) (.item (vs := xs) (ds := m.liveH.map pd) (i := i) (by walk_at "mm") hx (by rw [List.getElem?_map, hz]; rfl))
      walk_at "sd"
      refine if_d (fun c => ?_) (fun c => ?_)
      · walk_at "sd"
        exact s_keepD (d := pd (z.1, z.2)) S'' (show Has true _ (.ref t') (.tuple [.int z.1, .int z.2]) from by walk_at "hs") (.dats (by walk_at "mm")) (by walk_at "pk") (by walk_at "ft") hacc fun H'' S3x => k1 (decide_eq_true c) H'' _ S3x
      · exact k0 (decide_eq_false c) _ (S''.fit (by walk_at "ft"))
    · rw [liveH_filt m sn ok.nodupA] at S2
      walk_at "sd"
      rename_i nq H3 S3
      by_cases c : sn ∈ m.ages
      · rw [if_pos c] at S3
        obtain ⟨y, rfl⟩ : ∃ y, ys = [y] := by
          have := S3.len (.dats (vs := ys) (ds := [((sn : Int), m.gen sn)].map pd) (by walk_at "mm"))
          match ys, this with
          | [y], _ => exact ⟨y, rfl⟩
        refine s_neD (b1 := false) (b2 := false) (d := .list ([((sn : Int), m.gen sn)].map pd)) (e := .list []) S3 (.lst rfl (by walk_at "mm") (.dats (by walk_at "mm"))) (.lst rfl (by walk_at "mm") .nil) (okd_list (okd_pds _)) (okd_list fun d hd => by cases hd) ?_
        rw [eqv_nil]
        walk_at "sd"
        refine if_T (by simp) ?_
        obtain ⟨t, rfl, S4⟩ := S3.pair (v := y) (a := (sn : Int)) (b := m.gen sn) (.item (vs := [y]) (ds := [((sn : Int), m.gen sn)].map pd) (i := 0) (by walk_at "mm") rfl rfl)
        walk_at "sd"
        exact k1 c t _ (S4.fit (by walk_at "ft"))
      · rw [if_neg c] at S3
        obtain rfl : ys = [] := by
          have := S3.len (.dats (vs := ys) (ds := ([] : List (Int × Int)).map pd) (by walk_at "mm"))
          exact List.length_eq_zero_iff.mp this
        refine s_neD (b1 := false) (b2 := false) (d := .list []) (e := .list []) S3 (.lst rfl (xs := []) (by walk_at "mm") .nil) (.lst rfl (xs := []) (by walk_at "mm") .nil) (okd_list fun d hd => by cases hd) (okd_list fun d hd => by cases hd) ?_
        walk_at "sd"
        refine if_F (by rfl) ?_
        walk_at "sd"
        exact k2 c _ (S3.fit (by walk_at "ft"))
/-! use -/
theorem u_handleOf {C : Addr} {K : PySem.W.Frag} {Tb : List (Addr × Str)} {H : Hp} {L : List R} {Q : VK} {E : XK} {p : Addr} {m : SM} {s : Nat} (S : Sep C K Tb H L) (h : R.sl p m ∈ L) (k1 : s ∈ m.ages → ∀ (t : Addr) (H' : Hp), Sep C K Tb H' (.tup t [.int (s : Int), .int (m.gen s)] :: L) → Q (.ref t) H') (k2 : s ∉ m.ages → ∀ H', Sep C K Tb H' L → Q .non H') : spHandleOf C K Tb [.ref p, .int (s : Int)] H Q E := ⟨L, p, m, s, rfl, S, h, k1, k2⟩

/-! ### the least number, one call on -/
/-- the least number as a number or none -/
def L4 (m : SM) (s : Nat) (t : Int) : Option Int := match m.rule with
  | .last => if s ∈ m.free then (if m.live.length + m.free.idxOf s < m.lim then some ((m.free.idxOf s : Nat) + t) else none) else some t
  | .first => some (leastFirst m s t)
  | .lowest => if m.lim ≤ s then none else some (((m.free.filter fun x => decide (x < s)).length : Nat) + t)
  | .least => some (leastLeast m s t)
def oV : Option Int → V
  | some i => .int i
  | none => .non
theorem least4_L4 (m : SM) (s : Nat) (t : Int) : least4 m s t = oV (L4 m s t) := by
  unfold least4 L4 leastLast leastLow
  cases m.rule with
  | last => dsimp only; split <;> (try split) <;> rfl
  | first => rfl
  | lowest => dsimp only; split <;> rfl
  | least => rfl
namespace Bell
variable {m : SM} {s x : Nat} {t v' : Int} {u : V}
theorem in_or (ok : m.Ok) (hs : s < m.n) : s ∈ m.free ∨ s ∈ m.ages := by
  have h : s ∈ m.order ++ m.ages := ok.perm.mem_iff.mpr (List.mem_range.mpr hs)
  exact (List.mem_append.mp h).imp (fun h => (SM.Ok.free_perm m).mem_iff.mpr h) id
theorem not_both (ok : m.Ok) (h1 : s ∈ m.free) (h2 : s ∈ m.ages) : False :=
  (List.nodup_append.mp ok.nodup).2.2 _ ((SM.Ok.free_perm m).mem_iff.mp h1) _ h2 rfl
theorem nodupF (ok : m.Ok) : m.free.Nodup := (SM.Ok.free_perm m).nodup_iff.mpr (List.nodup_append.mp ok.nodup).1
theorem flen (ok : m.Ok) : m.free.length + m.live.length = m.n := by rw [(SM.Ok.free_perm m).length_eq]; exact ok.len
theorem slot_free (ok : m.Ok) (hl : m.live.length < m.lim) : m.slot ∈ m.free := (SM.Ok.free_perm m).mem_iff.mpr (ok.slot_mem hl)
theorem mem_take (ok : m.Ok) (y : Nat) : y ∈ (m.take u).free ↔ y ∈ m.free ∧ y ≠ m.slot := by
  rw [(SM.Ok.free_perm (m.take u)).mem_iff, (SM.Ok.free_perm m).mem_iff]
  show y ∈ m.order.erase m.slot ↔ _
  rw [(List.nodup_append.mp ok.nodup).1.mem_erase_iff]
  exact ⟨fun h => ⟨h.2, h.1⟩, fun h => ⟨h.2, h.1⟩⟩
theorem mem_give (y : Nat) : y ∈ (m.give x).free ↔ y = x ∨ y ∈ m.free := by
  rw [(SM.Ok.free_perm (m.give x)).mem_iff, (SM.Ok.free_perm m).mem_iff]
  show y ∈ behind m.rule m.order x ↔ _
  rw [(behind_perm m.rule m.order x).mem_iff, List.mem_cons]
theorem take_ages (u : V) : (m.take u).ages = m.ages ++ [m.slot] := by simp [SM.ages, SM.take]
theorem give_ages (ok : m.Ok) (y : Nat) : y ∈ (m.give x).ages ↔ y ∈ m.ages ∧ y ≠ x := by
  rw [SM.ages_give, List.mem_filter]; simp
theorem give_cnt (y : Nat) : (m.give x).cnt y = m.cnt y := rfl
theorem take_len (u : V) : (m.take u).live.length = m.live.length + 1 := by simp [SM.take]
theorem give_len (ok : m.Ok) (hx : x ∈ m.ages) : (m.give x).live.length + 1 = m.live.length := by
  have h1 := SM.give_len ok hx
  have h2 : 0 < m.live.length := by
    have := List.length_pos_of_mem hx
    simpa [SM.ages] using this
  omega
theorem ages_len (m : SM) : m.ages.length = m.live.length := by simp [SM.ages]
/-! stack and queue -/
theorem free_o (h : m.rule = .last ∨ m.rule = .first) : m.free = m.order := by
  unfold SM.free takeOrd
  rcases h with h | h <;> rw [h]
theorem take_o (ok : m.Ok) (hl : m.live.length < m.lim) (h : m.rule = .last ∨ m.rule = .first) : m.free = m.slot :: (m.take u).free := by
  obtain ⟨r, hr⟩ := ok.free_cons hl
  have e1 := free_o h
  have e2 := free_o (m := m.take u) h
  rw [e2, hr]
  show _ = _ :: m.order.erase m.slot
  rw [← e1, hr, List.erase_cons_head]
theorem give_last (h : m.rule = .last) : (m.give x).free = x :: m.free := by
  rw [free_o (m := m.give x) (.inl h), free_o (.inl h)]
  show behind m.rule m.order x = _
  rw [h]; rfl
theorem give_first (h : m.rule = .first) : (m.give x).free = m.free ++ [x] := by
  rw [free_o (m := m.give x) (.inr h), free_o (.inr h)]
  show behind m.rule m.order x = _
  rw [h]; rfl
theorem idx_cons_ne {l : List Nat} {a b : Nat} (h : a ≠ b) : (a :: l).idxOf b = l.idxOf b + 1 := by
  have e : (a == b) = false := by simpa using h
  rw [List.idxOf_cons, e]; rfl
theorem idx_cons_eq {l : List Nat} {a : Nat} : (a :: l).idxOf a = 0 := by simp
theorem idx_lt {l : List Nat} {a : Nat} (h : a ∈ l) : l.idxOf a < l.length := List.idxOf_lt_length_iff.mpr h
theorem idx_app {l r : List Nat} {a : Nat} (h : a ∈ l) : (l ++ r).idxOf a = l.idxOf a := by
  rw [List.idxOf_append]; simp [h]
theorem idx_snoc {l : List Nat} {a : Nat} (h : a ∉ l) : (l ++ [a]).idxOf a = l.length := by
  rw [List.idxOf_append]; simp [h]
/-! slots by number -/
theorem filt_len_perm {l r : List Nat} (h : l.Perm r) (p : Nat → Bool) : (l.filter p).length = (r.filter p).length := (h.filter p).length_eq
theorem low_take (ok : m.Ok) (hl : m.live.length < m.lim) (p : Nat → Bool) : (m.free.filter p).length = ((m.take u).free.filter p).length + if p m.slot then 1 else 0 := by
  have h1 : m.free.Perm (m.slot :: (m.take u).free) := by
    refine (SM.Ok.free_perm m).trans ?_
    refine (List.perm_cons_erase (ok.slot_mem hl)).trans ?_
    exact List.Perm.cons _ (SM.Ok.free_perm (m.take u)).symm
  rw [filt_len_perm h1, List.filter_cons]
  split <;> simp
theorem low_give (p : Nat → Bool) : ((m.give x).free.filter p).length = (m.free.filter p).length + if p x then 1 else 0 := by
  have h1 : (m.give x).free.Perm (x :: m.free) := by
    refine (SM.Ok.free_perm (m.give x)).trans ?_
    refine (behind_perm m.rule m.order x).trans ?_
    exact List.Perm.cons _ (SM.Ok.free_perm m).symm
  rw [filt_len_perm h1, List.filter_cons]
  split <;> simp
theorem slot_min (ok : m.Ok) (hl : m.live.length < m.lim) (h : m.rule = .lowest) {y : Nat} (hy : y ∈ m.free) : m.slot ≤ y := by
  obtain ⟨r, hr⟩ := ok.free_cons hl
  have hs : m.free.Pairwise (· ≤ ·) := by
    unfold SM.free takeOrd; rw [h]; exact sortN_sorted _
  rw [hr] at hs hy
  rcases List.mem_cons.mp hy with e | e
  · rw [e]; exact Nat.le_refl _
  · exact (List.pairwise_cons.mp hs).1 y e
theorem ci_getD' (l : List Nat) (s : Nat) : (ci l).getD s 0 = (l.getD s 0 : Int) := by
  simp only [ci, List.getD_eq_getElem?_getD, List.getElem?_map]
  cases l[s]? <;> rfl
theorem keyed (gk : Int → Int) (cs : List Int) (l : List Nat) : (byKey gk cs l).Pairwise fun a b => gk (cs.getD a 0) < gk (cs.getD b 0) ∨ (gk (cs.getD a 0) = gk (cs.getD b 0) ∧ a ≤ b) := by
  have := List.pairwise_mergeSort (le := fun a b : Nat => decide (gk (cs.getD a 0) < gk (cs.getD b 0) ∨ (gk (cs.getD a 0) = gk (cs.getD b 0) ∧ a ≤ b))) (fun a b c h1 h2 => by simp only [decide_eq_true_eq] at *; omega) (fun a b => by simp only [Bool.or_eq_true, decide_eq_true_eq]; omega) l
  exact this.imp fun h => of_decide_eq_true h
theorem slot_few (ok : m.Ok) (hl : m.live.length < m.lim) (h : m.rule = .least) {y : Nat} (hy : y ∈ m.free) : m.cnt m.slot < m.cnt y ∨ (m.cnt m.slot = m.cnt y ∧ m.slot ≤ y) := by
  obtain ⟨r, hr⟩ := ok.free_cons hl
  have hs := keyed (fun z => z) (ci m.taken) m.order
  have e : m.free = byKey (fun z => z) (ci m.taken) m.order := by unfold SM.free takeOrd; rw [h]
  rw [← e, hr] at hs
  rw [hr] at hy
  rcases List.mem_cons.mp hy with z | z
  · rw [z]; exact .inr ⟨rfl, Nat.le_refl _⟩
  · have := (List.pairwise_cons.mp hs).1 y z
    simp only [ci_getD'] at this
    unfold SM.cnt
    omega
/-! sums -/
theorem sum_but {f f' : Nat → Int} {x : Nat} : ∀ {os : List Nat}, os.Nodup → x ∈ os → (∀ o ∈ os, o ≠ x → f' o = f o) → (os.map f').sum = (os.map f).sum + (f' x - f x)
  | a :: os, nd, h, e => by
    obtain ⟨n1, n2⟩ := List.nodup_cons.mp nd
    simp only [List.map_cons, List.sum_cons]
    rcases List.mem_cons.mp h with z | z
    · subst z
      have : os.map f' = os.map f := List.map_congr_left fun o ho => e o (List.mem_cons_of_mem _ ho) fun q => n1 (q ▸ ho)
      rw [this]; omega
    · have h2 := sum_but n2 z fun o ho => e o (List.mem_cons_of_mem _ ho)
      have h3 := e a List.mem_cons_self fun q => n1 (q ▸ z)
      rw [h2, h3]; omega
theorem best_le {f g : Nat → Int} : ∀ (os : List Nat) (k : Nat), (∀ o ∈ os, f o ≤ g o) → bestS k (os.map f) ≤ bestS k (os.map g)
  | [], k, _ => by simp
  | o :: os, 0, _ => by rw [bestS_zero, bestS_zero]; exact Int.le_refl _
  | o :: os, k + 1, h => by
    have h1 := best_le os (k + 1) fun x hx => h x (List.mem_cons_of_mem _ hx)
    have h2 := best_le os k fun x hx => h x (List.mem_cons_of_mem _ hx)
    have h3 := h o List.mem_cons_self
    simp only [List.map_cons, bestS_cons]; omega
theorem best_same {f g : Nat → Int} (os : List Nat) (k : Nat) (h : ∀ o ∈ os, f o = g o) : bestS k (os.map f) = bestS k (os.map g) := by
  rw [List.map_congr_left h]
theorem best_front {f : Nat → Int} {os : List Nat} {x : Nat} (h : x ∈ os) (k : Nat) : bestS k (os.map f) = bestS k (f x :: (os.erase x).map f) :=
  bestS_perm (by have := (List.perm_cons_erase h).map f; simpa using this) k
theorem best_low1 {f g : Nat → Int} {os : List Nat} {x : Nat} (nd : os.Nodup) (h : x ∈ os) (e : ∀ o ∈ os, o ≠ x → f o = g o) (h1 : f x ≤ 0) (h2 : g x ≤ 0) (k : Nat) : bestS k (os.map f) = bestS k (os.map g) := by
  rw [best_front h, best_front (f := g) h, bestS_neg h1, bestS_neg h2]
  refine best_same _ k fun o ho => ?_
  have := nd.mem_erase_iff.mp ho
  exact e o this.2 this.1
/-- what a set brings -/
def val (f : Nat → Int) (os k : List Nat) : Int := (os.map fun o => if o ∈ k then f o else 0).sum
theorem val_le (f : Nat → Int) : ∀ (os k : List Nat) (j : Nat), os.Nodup → k.Nodup → k.length ≤ j → val f os k ≤ bestS j (os.map f)
  | [], k, j, _, _, _ => by simp [val, bestS_nil]
  | o :: os, k, j, nd, nk, hk => by
    obtain ⟨n1, n2⟩ := List.nodup_cons.mp nd
    by_cases c : o ∈ k
    · have hp := List.length_pos_of_mem c
      obtain ⟨i, rfl⟩ : ∃ i, j = i + 1 := ⟨j - 1, by omega⟩
      have h2 := val_le f os (k.erase o) i n2 (nk.erase o) (by rw [List.length_erase_of_mem c]; omega)
      have e : val f (o :: os) k = f o + val f os (k.erase o) := by
        unfold val
        rw [List.map_cons, List.sum_cons, if_pos c]
        congr 2
        refine List.map_congr_left fun y hy => ?_
        have hne : y ≠ o := fun z => n1 (z ▸ hy)
        have : y ∈ k ↔ y ∈ k.erase o := by rw [nk.mem_erase_iff]; exact ⟨fun z => ⟨hne, z⟩, fun z => z.2⟩
        by_cases d : y ∈ k
        · rw [if_pos d, if_pos (this.mp d)]
        · rw [if_neg d, if_neg fun z => d (this.mpr z)]
      rw [e, List.map_cons, bestS_cons]; omega
    · have h2 := val_le f os k j n2 nk hk
      have e : val f (o :: os) k = val f os k := by
        unfold val
        rw [List.map_cons, List.sum_cons, if_neg c]; omega
      rw [e, List.map_cons]
      cases j with
      | zero => rw [bestS_zero] at *; exact h2
      | succ j => rw [bestS_cons]; omega
/-! the rule «least» -/
theorem mem_oth {m : SM} {o : Nat} : o ∈ m.oth s ↔ o < m.n ∧ o ≠ s := by
  unfold SM.oth
  rw [List.mem_filter, List.mem_range]; simp
theorem nodup_oth (m : SM) (s : Nat) : (m.oth s).Nodup := List.nodup_range.filter _
theorem least_ge (m : SM) (s : Nat) (t : Int) : t ≤ leastLeast m s t := by
  have h := bestS_less (f := fun _ => 0) (f' := lackN m s t) (g := fun o => if o ∈ m.free then 1 else 0) (m.oth s) (m.lim - 1) (fun o _ => by unfold lackN; omega)
  have e1 : bestS (m.lim - 1) ((m.oth s).map fun o => (0 : Int) - (if o ∈ m.free then 1 else 0)) ≤ 0 := by
    refine Int.le_trans (best_le (g := fun _ => 0) (m.oth s) _ fun o _ => by split <;> omega) ?_
    generalize m.lim - 1 = k
    have : ∀ (l : List Nat) (k : Nat), bestS k (l.map fun _ => (0 : Int)) ≤ 0 := fun l => by
      induction l with
      | nil => intro k; rw [List.map_nil, bestS_nil]; exact Int.le_refl _
      | cons a r ih =>
        intro k
        cases k with
        | zero => rw [bestS_zero]; exact Int.le_refl _
        | succ k =>
          have h1 := ih (k + 1)
          have h2 := ih k
          rw [List.map_cons, bestS_cons]; omega
    exact this _ _
  have e2 : ((m.oth s).map fun _ => (0 : Int)).sum = 0 := by
    generalize m.oth s = l
    induction l with
    | nil => rfl
    | cons a r ih => rw [List.map_cons, List.sum_cons, ih]; rfl
  have e3 : (m.oth s).map (saveN m s t) = (m.oth s).map fun o => lackN m s t o - (if o ∈ m.free then (1 : Int) else 0) := rfl
  unfold leastLeast
  rw [e3]
  omega
theorem save_give (ok : m.Ok) (hx : x ∈ m.ages) (o : Nat) : saveN (m.give x) s t o = if o = x then saveN m s t x - 1 else saveN m s t o := by
  have h0 : lackN (m.give x) s t o = lackN m s t o := rfl
  have h1 := mem_give (m := m) (x := x) o
  unfold saveN
  rw [h0]
  by_cases c : o = x
  · subst c
    rw [if_pos rfl, if_pos (h1.mpr (.inl rfl)), if_neg (fun z => not_both ok z hx)]; omega
  · rw [if_neg c]
    by_cases d : o ∈ m.free
    · rw [if_pos d, if_pos (h1.mpr (.inr d))]
    · rw [if_neg d, if_neg (fun z => (h1.mp z).elim c d)]
theorem least_give (ok : m.Ok) (hx : x ∈ m.ages) : leastLeast m s t ≤ leastLeast (m.give x) s t := by
  have h : bestS (m.lim - 1) ((m.oth s).map (saveN (m.give x) s t)) ≤ bestS (m.lim - 1) ((m.oth s).map (saveN m s t)) :=
    best_le _ _ fun o _ => by rw [save_give ok hx]; split
                              · rename_i e; rw [e]; omega
                              · exact Int.le_refl _
  unfold leastLeast
  show _ ≤ t + ((m.oth s).map (lackN m s t)).sum - bestS (m.lim - 1) ((m.oth s).map (saveN (m.give x) s t))
  omega
theorem lack_take (ok : m.Ok) (hl : m.live.length < m.lim) (hne : m.slot ≠ s) (o : Nat) : lackN (m.take u) s t o = if o = m.slot then max 0 ((m.cnt s : Int) + t - 1 + (if o < s then 1 else 0) - (m.cnt o : Int) - 1) else lackN m s t o := by
  have h1 := SM.cnt_take ok hl u s
  have h2 := SM.cnt_take ok hl u o
  rw [if_neg (Ne.symm hne)] at h1
  unfold lackN
  rw [h1, h2]
  by_cases c : o = m.slot
  · rw [if_pos c, if_pos c]; congr 1; omega
  · rw [if_neg c, if_neg c]; rfl
theorem save_take (ok : m.Ok) (hl : m.live.length < m.lim) (hne : m.slot ≠ s) (o : Nat) : saveN (m.take u) s t o = if o = m.slot then (if 0 < lackN m s t o then saveN m s t o else 0) else saveN m s t o := by
  have h1 := mem_take (u := u) ok o
  unfold saveN
  rw [lack_take ok hl hne]
  by_cases c : o = m.slot
  · have hf : o ∈ m.free := by rw [c]; exact slot_free ok hl
    rw [if_pos c, if_pos c, if_neg (fun z => (h1.mp z).2 c), if_pos hf]
    unfold lackN
    generalize ((m.cnt s : Int) + t - 1 + (if o < s then 1 else 0) - (m.cnt o : Int)) = A
    split <;> omega
  · rw [if_neg c, if_neg c]
    by_cases d : o ∈ m.free
    · rw [if_pos d, if_pos (h1.mpr ⟨d, c⟩)]
    · rw [if_neg d, if_neg (fun z => d (h1.mp z).1)]
theorem least_take (ok : m.Ok) (hl : m.live.length < m.lim) (hne : m.slot ≠ s) : leastLeast (m.take u) s t = leastLeast m s t - (if 0 < lackN m s t m.slot then 1 else 0) := by
  have hx : m.slot ∈ m.oth s := mem_oth.mpr ⟨ok.slot_lt hl, hne⟩
  have nd := nodup_oth m s
  have e1 := sum_but (f := lackN m s t) (f' := lackN (m.take u) s t) nd hx fun o _ h => by rw [lack_take ok hl hne, if_neg h]
  have e2 : bestS (m.lim - 1) ((m.oth s).map (saveN (m.take u) s t)) = bestS (m.lim - 1) ((m.oth s).map (saveN m s t)) := by
    by_cases c : 0 < lackN m s t m.slot
    · refine best_same _ _ fun o _ => ?_
      rw [save_take ok hl hne]
      split
      · rename_i e; rw [e, if_pos c]
      · rfl
    · refine best_low1 nd hx (fun o _ h => by rw [save_take ok hl hne, if_neg h]) ?_ ?_ _
      · rw [save_take ok hl hne, if_pos rfl, if_neg c]; exact Int.le_refl _
      · have h0 : 0 ≤ lackN m s t m.slot := by unfold lackN; omega
        unfold saveN
        rw [if_pos (slot_free ok hl)]; omega
  have e3 := lack_take (u := u) (t := t) ok hl hne m.slot
  rw [if_pos rfl] at e3
  unfold leastLeast
  show t + ((m.oth s).map (lackN (m.take u) s t)).sum - bestS (m.lim - 1) ((m.oth s).map (saveN (m.take u) s t)) = _
  rw [e1, e2, e3]
  unfold lackN
  split <;> omega
theorem lack_hit (ok : m.Ok) (hl : m.live.length < m.lim) (he : m.slot = s) (o : Nat) (ho : o ≠ s) : lackN (m.take u) s (t - 1) o = lackN m s t o := by
  have h1 := SM.cnt_take ok hl u s
  have h2 := SM.cnt_take ok hl u o
  rw [if_pos he.symm] at h1
  rw [if_neg (fun z => ho (z.trans he))] at h2
  unfold lackN
  rw [h1, h2]
  congr 1
  omega
theorem save_hit (ok : m.Ok) (hl : m.live.length < m.lim) (he : m.slot = s) (o : Nat) (ho : o ≠ s) : saveN (m.take u) s (t - 1) o = saveN m s t o := by
  have h1 := mem_take (u := u) ok o
  unfold saveN
  rw [lack_hit ok hl he o ho]
  by_cases d : o ∈ m.free
  · rw [if_pos d, if_pos (h1.mpr ⟨d, fun z => ho (z.trans he)⟩)]
  · rw [if_neg d, if_neg (fun z => d (h1.mp z).1)]
theorem least_hit (ok : m.Ok) (hl : m.live.length < m.lim) (he : m.slot = s) : leastLeast (m.take u) s (t - 1) = leastLeast m s t - 1 := by
  have e1 : (m.oth s).map (lackN (m.take u) s (t - 1)) = (m.oth s).map (lackN m s t) := List.map_congr_left fun o ho => lack_hit ok hl he o (mem_oth.mp ho).2
  have e2 : (m.oth s).map (saveN (m.take u) s (t - 1)) = (m.oth s).map (saveN m s t) := List.map_congr_left fun o ho => save_hit ok hl he o (mem_oth.mp ho).2
  unfold leastLeast
  show t - 1 + ((m.oth s).map (lackN (m.take u) s (t - 1))).sum - bestS (m.lim - 1) ((m.oth s).map (saveN (m.take u) s (t - 1))) = _
  rw [e1, e2]; omega
theorem least_one (ok : m.Ok) (hl : m.live.length < m.lim) (he : m.slot = s) (h : m.rule = .least) : leastLeast m s 1 = 1 := by
  have h1 := least_ge m s 1
  have h2 := val_le (saveN m s 1) (m.oth s) m.ages (m.lim - 1) (nodup_oth m s) ok.nodupA (by rw [ages_len]; omega)
  have h3 : val (saveN m s 1) (m.oth s) m.ages = ((m.oth s).map (lackN m s 1)).sum := by
    unfold val
    congr 1
    refine List.map_congr_left fun o ho => ?_
    obtain ⟨o1, o2⟩ := mem_oth.mp ho
    rcases in_or ok o1 with hf | ha
    · rw [if_neg (fun z => not_both ok hf z)]
      have := slot_few ok hl h hf
      rw [he] at this
      unfold lackN
      split <;> omega
    · rw [if_pos ha]
      unfold saveN
      rw [if_neg (fun z => not_both ok z ha)]; omega
  unfold leastLeast at h1 ⊢
  omega
end Bell

namespace Bell
variable {m : SM} {s x : Nat} {t v' : Int} {u : V}
theorem L4_last (h : m.rule = .last) : L4 m s t = if s ∈ m.free then (if m.live.length + m.free.idxOf s < m.lim then some ((m.free.idxOf s : Nat) + t) else none) else some t := by unfold L4; rw [h]
theorem L4_first (h : m.rule = .first) : L4 m s t = some (leastFirst m s t) := by unfold L4; rw [h]
theorem L4_lowest (h : m.rule = .lowest) : L4 m s t = if m.lim ≤ s then none else some (((m.free.filter fun x => decide (x < s)).length : Nat) + t) := by unfold L4; rw [h]
theorem L4_least (h : m.rule = .least) : L4 m s t = some (leastLeast m s t) := by unfold L4; rw [h]
theorem first_in (h : s ∈ m.free) {t : Int} : leastFirst m s t = if t = 1 then ((m.free.idxOf s : Nat) : Int) + 1 else ((m.free.idxOf s : Nat) : Int) + 1 + m.n - min (m.lim : Int) ((m.live.length : Nat) + (((m.free.idxOf s : Nat) : Int) + 1)) + 1 + (t - 2) * ((m.n : Int) - m.lim + 1) := by
  unfold leastFirst; rw [if_pos h]
theorem first_out (h : s ∉ m.free) {t : Int} : leastFirst m s t = (m.free.length : Nat) + 1 + (t - 1) * ((m.n : Int) - m.lim + 1) := by
  unfold leastFirst; rw [if_neg h]
theorem nodup_len : ∀ (l r : List Nat), l.Nodup → (∀ y ∈ l, y ∈ r) → l.length ≤ r.length
  | [], r, _, _ => Nat.zero_le _
  | a :: l, r, nd, h => by
    obtain ⟨n1, n2⟩ := List.nodup_cons.mp nd
    have ha := h a List.mem_cons_self
    have h2 := nodup_len l (r.erase a) n2 fun y hy => (List.mem_erase_of_ne fun z : y = a => n1 (z ▸ hy)).mpr (h y (List.mem_cons_of_mem _ hy))
    have h3 := List.length_pos_of_mem ha
    rw [List.length_erase_of_mem ha] at h2
    simp only [List.length_cons]; omega
theorem step2 (t b : Int) : (t - 1) * b = (t - 2) * b + b := by
  have : t - 1 = (t - 2) + 1 := by omega
  rw [this, Int.add_mul, Int.one_mul]
theorem step3 (t b : Int) : (t - 1 - 1) * b = (t - 2) * b := by congr 1; omega
theorem t1_step (b : Int) : ((1 : Int) - 1) * b = 0 := by rw [show (1 : Int) - 1 = 0 by omega, Int.zero_mul]
/-- behind a give no fewer takes are wanted -/
theorem give_bound (ok : m.Ok) (ht : 1 ≤ t) (hx : x ∈ m.ages) (h : L4 (m.give x) s t = some v') : ∃ v, L4 m s t = some v ∧ v ≤ v' := by
  have hr : (m.give x).rule = m.rule := rfl
  have hli : (m.give x).lim = m.lim := rfl
  have hn : (m.give x).n = m.n := rfl
  have gl := give_len ok hx
  have fl := flen ok
  have flg := flen (SM.ok_give ok hx)
  rw [hn] at flg
  have l2 := ok.ar.l2
  have hlim := ok.lv
  cases e : m.rule with
  | last =>
    rw [L4_last (hr.trans e)] at h
    rw [L4_last e]
    rw [give_last e, hli] at h
    by_cases c : s ∈ m.free
    · have hne : x ≠ s := fun z => not_both ok c (z ▸ hx)
      rw [if_pos (List.mem_cons_of_mem _ c), idx_cons_ne hne] at h
      rw [if_pos c]
      split at h
      · injection h with h
        rw [if_pos (by omega)]
        exact ⟨_, rfl, by omega⟩
      · cases h
    · rw [if_neg c]
      refine ⟨t, rfl, ?_⟩
      split at h
      · split at h
        · injection h with h; omega
        · cases h
      · injection h with h; omega
  | first =>
    rw [L4_first (hr.trans e)] at h
    rw [L4_first e]
    injection h with h
    refine ⟨_, rfl, ?_⟩
    rw [← h]
    by_cases c : s ∈ m.free
    · rw [first_in c, first_in ((mem_give s).mpr (.inr c)), give_first e, idx_app c, hn, hli]
      generalize (t - 2) * ((m.n : Int) - m.lim + 1) = z
      split <;> omega
    · rw [first_out c]
      by_cases d : s = x
      · subst d
        rw [first_in ((mem_give s).mpr (.inl rfl)), give_first e, idx_snoc c, hn, hli]
        rw [give_first e, List.length_append] at flg
        by_cases t1 : t = 1
        · subst t1
          rw [if_pos rfl, t1_step]; omega
        · rw [if_neg t1, step2]
          generalize (t - 2) * ((m.n : Int) - m.lim + 1) = z
          simp at flg
          omega
      · rw [first_out (fun z => ((mem_give s).mp z).elim d c), give_first e, hn, hli, List.length_append]
        generalize (t - 1) * ((m.n : Int) - m.lim + 1) = z
        simp; omega
  | lowest =>
    rw [L4_lowest (hr.trans e)] at h
    rw [L4_lowest e]
    rw [hli] at h
    split at h
    · cases h
    · rename_i c
      injection h with h
      rw [if_neg c]
      refine ⟨_, rfl, ?_⟩
      rw [low_give] at h
      omega
  | least =>
    rw [L4_least (hr.trans e)] at h
    rw [L4_least e]
    injection h with h
    exact ⟨_, rfl, by rw [← h]; exact least_give ok hx⟩
/-- behind a take of another slot one take fewer at best -/
theorem take_bound (ok : m.Ok) (ht : 1 ≤ t) (hl : m.live.length < m.lim) (hne : m.slot ≠ s) (h : L4 (m.take u) s t = some v') : ∃ v, L4 m s t = some v ∧ v ≤ v' + 1 ∧ ((m.rule = .least → 0 < lackN m s t m.slot) → (s ∈ m.free) → v = v' + 1) := by
  have hr : (m.take u).rule = m.rule := rfl
  have hli : (m.take u).lim = m.lim := rfl
  have hn : (m.take u).n = m.n := rfl
  have tl := take_len (m := m) u
  have mt := mem_take (u := u) ok s
  have fl := flen ok
  have flt := flen (SM.ok_take ok hl u)
  rw [hn] at flt
  cases e : m.rule with
  | last =>
    rw [L4_last (hr.trans e)] at h
    rw [L4_last e]
    rw [hli, tl] at h
    have ho := take_o (u := u) ok hl (.inl e)
    by_cases c : s ∈ m.free
    · rw [if_pos (mt.mpr ⟨c, Ne.symm hne⟩)] at h
      rw [if_pos c, ho, idx_cons_ne hne]
      split at h
      · injection h with h
        rw [if_pos (by omega)]
        exact ⟨_, rfl, by omega, fun _ _ => by omega⟩
      · cases h
    · rw [if_neg (fun z => c (mt.mp z).1)] at h
      injection h with h
      rw [if_neg c]
      exact ⟨t, rfl, by omega, fun _ z => absurd z c⟩
  | first =>
    rw [L4_first (hr.trans e)] at h
    rw [L4_first e]
    injection h with h
    have ho := take_o (u := u) ok hl (.inr e)
    by_cases c : s ∈ m.free
    · have hv : leastFirst m s t = v' + 1 := by
        rw [← h, first_in c, first_in (mt.mpr ⟨c, Ne.symm hne⟩), ho, idx_cons_ne hne, hn, hli, tl]
        generalize (t - 2) * ((m.n : Int) - m.lim + 1) = z
        split <;> omega
      exact ⟨_, rfl, by omega, fun _ _ => hv⟩
    · have hv : leastFirst m s t = v' + 1 := by
        rw [← h, first_out c, first_out (fun z => c (mt.mp z).1), ho, hn, hli, List.length_cons]
        generalize (t - 1) * ((m.n : Int) - m.lim + 1) = z
        omega
      exact ⟨_, rfl, by omega, fun _ _ => hv⟩
  | lowest =>
    rw [L4_lowest (hr.trans e)] at h
    rw [L4_lowest e]
    rw [hli] at h
    split at h
    · cases h
    · rename_i c
      injection h with h
      rw [if_neg c]
      have lt := low_take (u := u) ok hl fun x => decide (x < s)
      rw [← h]
      refine ⟨_, rfl, by split at lt <;> omega, fun _ hf => ?_⟩
      have := slot_min ok hl e hf
      rw [if_pos (by simp; omega)] at lt
      omega
  | least =>
    rw [L4_least (hr.trans e)] at h
    rw [L4_least e]
    injection h with h
    have hv := least_take (u := u) (t := t) ok hl hne
    refine ⟨_, rfl, by rw [← h, hv]; split <;> omega, fun z _ => ?_⟩
    rw [if_pos (z rfl)] at hv
    omega
/-- behind a take of the slot itself -/
theorem hit_eq (ok : m.Ok) (ht : 2 ≤ t) (hl : m.live.length < m.lim) (he : m.slot = s) : ∃ v, L4 m s t = some v ∧ L4 (m.take u) s (t - 1) = some (v - 1) := by
  have hr : (m.take u).rule = m.rule := rfl
  have hli : (m.take u).lim = m.lim := rfl
  have hn : (m.take u).n = m.n := rfl
  have tl := take_len (m := m) u
  have c : s ∈ m.free := he ▸ slot_free ok hl
  have mt : ¬ s ∈ (m.take u).free := fun z => ((mem_take (u := u) ok s).mp z).2 he.symm
  have fl := flen ok
  have flt := flen (SM.ok_take ok hl u)
  rw [hn] at flt
  cases e : m.rule with
  | last =>
    rw [L4_last (hr.trans e), L4_last e, if_pos c, if_neg mt, take_o (u := u) ok hl (.inl e), he, idx_cons_eq, if_pos (by omega)]
    exact ⟨_, rfl, congrArg some (by omega)⟩
  | first =>
    rw [L4_first (hr.trans e), L4_first e, first_in c, first_out mt, take_o (u := u) ok hl (.inr e), he, idx_cons_eq, if_neg (by omega), hn, hli]
    refine ⟨_, rfl, congrArg some ?_⟩
    rw [step3]
    generalize (t - 2) * ((m.n : Int) - m.lim + 1) = z
    omega
  | lowest =>
    have sl : ∀ y ∈ m.free, m.slot ≤ y := fun y hy => slot_min ok hl e hy
    have hs : s < m.lim := by
      have h1 : ∀ y, y < s → y ∈ m.ages := fun y hy => by
        rcases in_or ok (s := y) (by have := ok.slot_lt hl; omega) with z | z
        · have := sl y z; omega
        · exact z
      have h2 : (List.range s).length ≤ m.ages.length := nodup_len _ _ List.nodup_range fun y hy => h1 y (List.mem_range.mp hy)
      rw [List.length_range, ages_len] at h2
      omega
    have lt := low_take (u := u) ok hl fun x => decide (x < s)
    rw [if_neg (by simp; omega)] at lt
    rw [L4_lowest (hr.trans e), L4_lowest e, hli, if_neg (by omega), if_neg (by omega)]
    exact ⟨_, rfl, congrArg some (by omega)⟩
  | least =>
    rw [L4_least (hr.trans e), L4_least e]
    exact ⟨_, rfl, congrArg some (least_hit ok hl he)⟩
theorem hit_one (ok : m.Ok) (hl : m.live.length < m.lim) (he : m.slot = s) : L4 m s 1 = some 1 := by
  have c : s ∈ m.free := he ▸ slot_free ok hl
  cases e : m.rule with
  | last =>
    rw [L4_last e, if_pos c, take_o (u := .non) ok hl (.inl e), he, idx_cons_eq, if_pos (by omega)]; rfl
  | first =>
    rw [L4_first e, first_in c, take_o (u := .non) ok hl (.inr e), he, idx_cons_eq, if_pos rfl]; rfl
  | lowest =>
    obtain ⟨v, h1, h2⟩ := hit_eq (u := .non) (t := 2) ok (by omega) hl he
    rw [L4_lowest e] at h1 ⊢
    split at h1
    · cases h1
    · rename_i d
      have lt := low_take (u := .non) ok hl fun x => decide (x < s)
      have sl : ∀ y ∈ m.free, m.slot ≤ y := fun y hy => slot_min ok hl e hy
      rw [if_neg d]
      have : (m.free.filter fun x => decide (x < s)) = [] := by
        rw [List.filter_eq_nil_iff]
        intro y hy
        have := sl y hy
        simp; omega
      rw [this]; rfl
  | least => rw [L4_least e, least_one ok hl he e]
theorem num_ge {v : Int} (ht : 1 ≤ t) (ok : m.Ok) (h : L4 m s t = some v) : t ≤ v := by
  have l2 := ok.ar.l2
  have fl := flen ok
  have hlim := ok.lv
  cases e : m.rule with
  | last =>
    rw [L4_last e] at h
    split at h
    · split at h
      · injection h with h; omega
      · cases h
    · injection h with h; omega
  | first =>
    rw [L4_first e] at h
    injection h with h
    have hb : ∀ k : Int, 0 ≤ k → k ≤ k * ((m.n : Int) - m.lim + 1) := fun k hk => by
      have := Int.mul_le_mul_of_nonneg_left (show (1 : Int) ≤ (m.n : Int) - m.lim + 1 by omega) hk
      rwa [Int.mul_one] at this
    by_cases c : s ∈ m.free
    · rw [first_in c] at h
      have := idx_lt c
      split at h
      · omega
      · have := hb (t - 2) (by omega)
        generalize (t - 2) * ((m.n : Int) - m.lim + 1) = z at *
        omega
    · rw [first_out c] at h
      have := hb (t - 1) (by omega)
      generalize (t - 1) * ((m.n : Int) - m.lim + 1) = z at *
      omega
  | lowest =>
    rw [L4_lowest e] at h
    split at h
    · cases h
    · injection h with h; omega
  | least =>
    rw [L4_least e] at h
    injection h with h
    have := least_ge m s t
    omega
end Bell

/-! ### a plan: calls that need no take too many -/
/-- the best kept slots (rule least) -/
def KOpt (m : SM) (s : Nat) (t : Int) (K : List Nat) : Prop := m.rule = .least → K.Nodup ∧ K.length ≤ m.lim - 1 ∧ s ∉ K ∧ Bell.val (saveN m s t) (m.oth s) K = bestS (m.lim - 1) ((m.oth s).map (saveN m s t))
/-- a give that costs nothing -/
def FreeG (m : SM) (s : Nat) (K : List Nat) (x : Nat) : Prop := (m.rule = .least → x ∉ K) ∧ (m.rule ≠ .least → x = s ∨ (s ∈ m.free ∧ m.live.length = m.lim ∧ ∀ y ∈ m.ages, y ≤ x))
namespace Bell
variable {m : SM} {s x : Nat} {t v : Int} {u : V} {K : List Nat}
theorem kopt_give (ok : m.Ok) (hx : x ∈ m.ages) (hK : KOpt m s t K) (hf : m.rule = .least → x ∉ K) : KOpt (m.give x) s t K := by
  intro e
  have e' : m.rule = .least := e
  obtain ⟨k1, k2, k3, k4⟩ := hK e'
  refine ⟨k1, k2, k3, ?_⟩
  have h1 : bestS (m.lim - 1) ((m.oth s).map (saveN (m.give x) s t)) ≤ bestS (m.lim - 1) ((m.oth s).map (saveN m s t)) :=
    best_le _ _ fun o _ => by
      rw [save_give ok hx]
      split
      · rename_i e; rw [e]; omega
      · exact Int.le_refl _
  have h2 : val (saveN (m.give x) s t) (m.oth s) K = val (saveN m s t) (m.oth s) K := by
    unfold val
    congr 1
    refine List.map_congr_left fun o _ => ?_
    by_cases c : o ∈ K
    · rw [if_pos c, if_pos c, save_give ok hx, if_neg (fun z : o = x => hf e' (z ▸ c))]
    · rw [if_neg c, if_neg c]
  have h3 := val_le (saveN (m.give x) s t) (m.oth s) K (m.lim - 1) (nodup_oth m s) k1 k2
  show val (saveN (m.give x) s t) (m.oth s) K = bestS (m.lim - 1) ((m.oth s).map (saveN (m.give x) s t))
  omega
theorem give_keep (ok : m.Ok) (ht : 1 ≤ t) (hx : x ∈ m.ages) (h : L4 m s t = some v) (hK : KOpt m s t K) (hf : FreeG m s K x) : L4 (m.give x) s t = some v := by
  have hr : (m.give x).rule = m.rule := rfl
  have hli : (m.give x).lim = m.lim := rfl
  have hn : (m.give x).n = m.n := rfl
  have gl := give_len ok hx
  have fl := flen ok
  have flg := flen (SM.ok_give ok hx)
  rw [hn] at flg
  have l2 := ok.ar.l2
  have hlim := ok.lv
  cases e : m.rule with
  | last =>
    have hf := hf.2 (by rw [e]; decide)
    rw [L4_last (hr.trans e), give_last e, hli]
    rw [L4_last e] at h
    rcases hf with rfl | ⟨f1, f2, f3⟩
    · rw [if_neg (fun z => not_both ok z hx)] at h
      injection h with h
      rw [if_pos List.mem_cons_self, idx_cons_eq, if_pos (by omega)]
      exact congrArg some (by omega)
    · rw [if_pos f1, if_neg (by omega)] at h
      cases h
  | first =>
    have hf := hf.2 (by rw [e]; decide)
    rw [L4_first (hr.trans e)]
    rw [L4_first e] at h
    injection h with h
    refine congrArg some ?_
    rw [← h]
    rcases hf with rfl | ⟨f1, f2, f3⟩
    · have c : x ∉ m.free := fun z => not_both ok z hx
      rw [first_out c, first_in ((mem_give x).mpr (.inl rfl)), give_first e, idx_snoc c, hn, hli]
      rw [give_first e, List.length_append] at flg
      simp at flg
      by_cases t1 : t = 1
      · subst t1
        rw [if_pos rfl, t1_step]; omega
      · rw [if_neg t1, step2]
        generalize (t - 2) * ((m.n : Int) - m.lim + 1) = z
        omega
    · rw [first_in f1, first_in ((mem_give s).mpr (.inr f1)), give_first e, idx_app f1, hn, hli]
      generalize (t - 2) * ((m.n : Int) - m.lim + 1) = z
      split <;> omega
  | lowest =>
    have hf := hf.2 (by rw [e]; decide)
    rw [L4_lowest (hr.trans e), hli]
    rw [L4_lowest e] at h
    split at h
    · cases h
    · rename_i c
      injection h with h
      rw [if_neg c, low_give]
      have hxs : ¬ x < s := by
        rcases hf with rfl | ⟨f1, f2, f3⟩
        · omega
        · intro z
          have h2 : m.ages.length ≤ (List.range s).length := nodup_len _ _ ok.nodupA fun y hy => List.mem_range.mpr (by have := f3 y hy; omega)
          rw [ages_len, List.length_range] at h2
          omega
      rw [if_neg (by simpa using hxs)]
      exact congrArg some (by omega)
  | least =>
    have hxK := hf.1 e
    obtain ⟨k1, k2, k3, k4⟩ := hK e
    obtain ⟨_, _, _, k5⟩ := kopt_give ok hx hK hf.1 e
    rw [L4_least (hr.trans e)]
    rw [L4_least e] at h
    injection h with h
    refine congrArg some ?_
    rw [← h]
    have h2 : val (saveN (m.give x) s t) (m.oth s) K = val (saveN m s t) (m.oth s) K := by
      unfold val
      congr 1
      refine List.map_congr_left fun o _ => ?_
      by_cases c : o ∈ K
      · rw [if_pos c, if_pos c, save_give ok hx, if_neg (fun z : o = x => hxK (z ▸ c))]
      · rw [if_neg c, if_neg c]
    have k5 : val (saveN (m.give x) s t) (m.oth s) K = bestS (m.lim - 1) ((m.oth s).map (saveN (m.give x) s t)) := k5
    unfold leastLeast
    show t + ((m.oth s).map (lackN m s t)).sum - bestS (m.lim - 1) ((m.oth s).map (saveN (m.give x) s t)) = _
    omega
theorem lack_pos (ok : m.Ok) (ht : 1 ≤ t) (hl : m.live.length < m.lim) (hs : s ∈ m.free) (hne : m.slot ≠ s) (e : m.rule = .least) : 0 < lackN m s t m.slot := by
  have := slot_few ok hl e hs
  unfold lackN
  split <;> omega
theorem kopt_take (ok : m.Ok) (ht : 1 ≤ t) (hl : m.live.length < m.lim) (hs : s ∈ m.free) (hne : m.slot ≠ s) (hK : KOpt m s t K) : KOpt (m.take u) s t K := by
  intro e
  have e' : m.rule = .least := e
  obtain ⟨k1, k2, k3, k4⟩ := hK e'
  have hp := lack_pos ok ht hl hs hne e'
  have hsv : ∀ o, saveN (m.take u) s t o = saveN m s t o := fun o => by
    rw [save_take ok hl hne]
    split
    · rename_i c; rw [c, if_pos hp]
    · rfl
  have hf : saveN (m.take u) s t = saveN m s t := funext hsv
  refine ⟨k1, k2, k3, ?_⟩
  show val (saveN (m.take u) s t) (m.oth s) K = bestS (m.lim - 1) ((m.oth s).map (saveN (m.take u) s t))
  rw [hf]; exact k4
theorem kopt_hit (ok : m.Ok) (hl : m.live.length < m.lim) (he : m.slot = s) (hK : KOpt m s t K) : KOpt (m.take u) s (t - 1) K := by
  intro e
  have e' : m.rule = .least := e
  obtain ⟨k1, k2, k3, k4⟩ := hK e'
  refine ⟨k1, k2, k3, ?_⟩
  have h1 : (m.oth s).map (saveN (m.take u) s (t - 1)) = (m.oth s).map (saveN m s t) := List.map_congr_left fun o ho => save_hit ok hl he o (mem_oth.mp ho).2
  have h2 : val (saveN (m.take u) s (t - 1)) (m.oth s) K = val (saveN m s t) (m.oth s) K := by
    unfold val
    congr 1
    exact List.map_congr_left fun o ho => by rw [save_hit ok hl he o (mem_oth.mp ho).2]
  show val (saveN (m.take u) s (t - 1)) (m.oth s) K = bestS (m.lim - 1) ((m.oth s).map (saveN (m.take u) s (t - 1)))
  rw [h1, h2]; exact k4
theorem take_some (ok : m.Ok) (hl : m.live.length < m.lim) (hs : s ∈ m.free) (hne : m.slot ≠ s) (h : L4 m s t = some v) : ∃ v', L4 (m.take u) s t = some v' := by
  have hr : (m.take u).rule = m.rule := rfl
  have hli : (m.take u).lim = m.lim := rfl
  have tl := take_len (m := m) u
  have mt := mem_take (u := u) ok s
  cases e : m.rule with
  | last =>
    rw [L4_last (hr.trans e), hli, tl, if_pos (mt.mpr ⟨hs, Ne.symm hne⟩)]
    rw [L4_last e, if_pos hs, take_o (u := u) ok hl (.inl e), idx_cons_ne hne] at h
    split at h
    · rw [if_pos (by omega)]; exact ⟨_, rfl⟩
    · cases h
  | first => exact ⟨_, L4_first (hr.trans e)⟩
  | lowest =>
    rw [L4_lowest (hr.trans e), hli]
    rw [L4_lowest e] at h
    split at h
    · cases h
    · rename_i c
      rw [if_neg c]; exact ⟨_, rfl⟩
  | least => exact ⟨_, L4_least (hr.trans e)⟩
theorem take_eq (ok : m.Ok) (ht : 1 ≤ t) (hl : m.live.length < m.lim) (hs : s ∈ m.free) (hne : m.slot ≠ s) (h : L4 m s t = some v) : L4 (m.take u) s t = some (v - 1) := by
  obtain ⟨v', h'⟩ := take_some (u := u) ok hl hs hne h
  obtain ⟨w, h1, _, h2⟩ := take_bound ok ht hl hne h'
  have h3 := h2 (fun e => lack_pos ok ht hl hs hne e) hs
  rw [h] at h1
  injection h1 with h1
  rw [h']
  exact congrArg some (by omega)
end Bell
/-- calls: none takes, some x gives slot x back -/
inductive Pln : SM → Nat → Int → Int → List (Option Nat) → Prop
  | give {m : SM} {s x : Nat} {t v : Int} {cs : List (Option Nat)} : m.Ok → x ∈ m.ages → L4 m s t = some v → Pln (m.give x) s t v cs → Pln m s t v (some x :: cs)
  | take {m : SM} {s : Nat} {t v : Int} {cs : List (Option Nat)} : m.Ok → m.live.length < m.lim → m.slot ≠ s → L4 m s t = some v → Pln (m.take .non) s t (v - 1) cs → Pln m s t v (none :: cs)
  | hit {m : SM} {s : Nat} {t v : Int} {cs : List (Option Nat)} : m.Ok → m.live.length < m.lim → m.slot = s → 2 ≤ t → L4 m s t = some v → Pln (m.take .non) s (t - 1) (v - 1) cs → Pln m s t v (none :: cs)
  | last {m : SM} {s : Nat} : m.Ok → m.live.length < m.lim → m.slot = s → L4 m s 1 = some 1 → Pln m s 1 1 [none]
/-- the greatest of some numbers -/
def maxN : List Nat → Nat
  | [] => 0
  | a :: l => max a (maxN l)
/-- the slots that a plan gives back ahead of its next take -/
def gvs (m : SM) (s : Nat) (K : List Nat) : List Nat := match m.rule with
  | .least => m.ages.filter fun o => !decide (o ∈ K)
  | _ => if s ∈ m.ages then [s] else if m.live.length = m.lim then [maxN m.ages] else []
def giveAll (m : SM) (G : List Nat) : SM := G.foldl SM.give m
def planF (s : Nat) (K : List Nat) : Nat → SM → List (Option Nat)
  | 0, _ => []
  | k + 1, m => (gvs m s K).map some ++ none :: planF s K k ((giveAll m (gvs m s K)).take .non)
namespace Bell
variable {m : SM} {s x : Nat} {t v : Int} {u : V} {K : List Nat}
theorem maxN_mem : ∀ {l : List Nat}, l ≠ [] → maxN l ∈ l
  | [a], _ => by simp [maxN]
  | a :: b :: l, _ => by
    have := maxN_mem (l := b :: l) (by simp)
    have e : maxN (a :: b :: l) = max a (maxN (b :: l)) := rfl
    rw [e]
    by_cases c : maxN (b :: l) ≤ a
    · rw [Nat.max_eq_left c]; exact List.mem_cons_self
    · rw [Nat.max_eq_right (by omega)]; exact List.mem_cons_of_mem _ this
theorem maxN_ge : ∀ {l : List Nat} {y : Nat}, y ∈ l → y ≤ maxN l
  | a :: l, y, h => by
    have e : maxN (a :: l) = max a (maxN l) := rfl
    rw [e]
    rcases List.mem_cons.mp h with z | z
    · omega
    · have := maxN_ge z; omega
theorem pln_take (ok : m.Ok) (ht : 1 ≤ t) (hl : m.live.length < m.lim) (hs : s ∈ m.free) (h : L4 m s t = some v) (hK : KOpt m s t K)
    (ih : ∀ {m' : SM} {t' : Int}, m'.Ok → s < m'.n → 1 ≤ t' → L4 m' s t' = some (v - 1) → KOpt m' s t' K → Pln m' s t' (v - 1) (planF s K (v - 1).toNat m')) : Pln m s t v (none :: planF s K (v - 1).toNat (m.take .non)) := by
  have hn : s < m.n := ok.ltO ((SM.Ok.free_perm m).mem_iff.mp hs)
  have ok' := SM.ok_take ok hl .non
  by_cases he : m.slot = s
  · by_cases t1 : t = 1
    · subst t1
      have h1 := hit_one ok hl he
      rw [h] at h1
      injection h1 with h1
      subst h1
      exact .last ok hl he h
    · obtain ⟨w, h1, h2⟩ := hit_eq (u := .non) ok (show 2 ≤ t by omega) hl he
      rw [h] at h1
      injection h1 with h1
      rw [← h1] at h2
      exact .hit ok hl he (by omega) h (ih ok' hn (by omega) h2 (kopt_hit ok hl he hK))
  · exact .take ok hl he h (ih ok' hn ht (take_eq ok ht hl hs he h) (kopt_take ok ht hl hs he hK))
theorem pln_gives : ∀ (G : List Nat) {m : SM} {cs : List (Option Nat)}, m.Ok → 1 ≤ t → L4 m s t = some v → KOpt m s t K → G.Nodup → (∀ x ∈ G, x ∈ m.ages) → (m.rule = .least → ∀ x ∈ G, x ∉ K) → (m.rule ≠ .least → ∀ x ∈ G, G = [x] ∧ FreeG m s K x) →
    (∀ {m' : SM}, m' = giveAll m G → m'.Ok → L4 m' s t = some v → KOpt m' s t K → Pln m' s t v cs) → Pln m s t v (G.map some ++ cs)
  | [], m, cs, ok, _, h, hK, _, _, _, _, k => k rfl ok h hK
  | x :: G, m, cs, ok, ht, h, hK, nd, ha, h1, h2, k => by
    obtain ⟨n1, n2⟩ := List.nodup_cons.mp nd
    have hx := ha x List.mem_cons_self
    have hf : FreeG m s K x := by
      by_cases e : m.rule = .least
      · exact ⟨fun _ => h1 e x List.mem_cons_self, fun z => absurd e z⟩
      · exact (h2 e x List.mem_cons_self).2
    refine .give ok hx h ?_
    refine pln_gives G (SM.ok_give ok hx) ht (give_keep ok ht hx h hK hf) (kopt_give ok hx hK hf.1) n2 (fun y hy => (give_ages ok y).mpr ⟨ha y (List.mem_cons_of_mem _ hy), fun z => n1 (z ▸ hy)⟩) (fun e y hy => h1 e y (List.mem_cons_of_mem _ hy)) (fun e y hy => ?_) k
    have := (h2 e x List.mem_cons_self).1
    obtain ⟨_, rfl⟩ := List.cons.inj this
    cases hy
theorem giveAll_ages : ∀ (G : List Nat) {m : SM}, m.Ok → G.Nodup → (∀ x ∈ G, x ∈ m.ages) → ∀ y, y ∈ (giveAll m G).ages ↔ y ∈ m.ages ∧ y ∉ G
  | [], m, _, _, _, y => by simp [giveAll]
  | x :: G, m, ok, nd, ha, y => by
    obtain ⟨n1, n2⟩ := List.nodup_cons.mp nd
    have hx := ha x List.mem_cons_self
    have := giveAll_ages G (m := m.give x) (SM.ok_give ok hx) n2 (fun y hy => (give_ages ok y).mpr ⟨ha y (List.mem_cons_of_mem _ hy), fun z => n1 (z ▸ hy)⟩) y
    show y ∈ (giveAll (m.give x) G).ages ↔ _
    rw [this, give_ages ok]
    simp only [List.mem_cons, not_or]
    exact ⟨fun h => ⟨h.1.1, h.1.2, h.2⟩, fun h => ⟨⟨h.1, h.2.1⟩, h.2.2⟩⟩
theorem giveAll_same : ∀ (G : List Nat) (m : SM), (giveAll m G).rule = m.rule ∧ (giveAll m G).lim = m.lim ∧ (giveAll m G).n = m.n ∧ (giveAll m G).taken = m.taken ∧ (giveAll m G).g = m.g
  | [], m => ⟨rfl, rfl, rfl, rfl, rfl⟩
  | x :: G, m => giveAll_same G (m.give x)
/-- the plan is one -/
theorem plan_ok : ∀ (k : Nat) {m : SM} {t v : Int}, v = (k : Int) → m.Ok → s < m.n → 1 ≤ t → L4 m s t = some v → KOpt m s t K → Pln m s t v (planF s K k m)
  | 0, m, t, v, e, ok, hs, ht, h, hK => by
    have := num_ge ht ok h
    omega
  | k + 1, m, t, v, e, ok, hs, ht, h, hK => by
    have nd : (gvs m s K).Nodup := by
      unfold gvs
      cases m.rule <;> dsimp only
      all_goals first | exact ok.nodupA.filter _ | (split <;> (try split) <;> simp)
    have hne : m.live.length = m.lim → m.ages ≠ [] := fun z q => by
      have := ages_len m
      have := ok.ar.l1
      rw [q] at *
      simp at *
      omega
    have ha : ∀ x ∈ gvs m s K, x ∈ m.ages := fun x hx => by
      unfold gvs at hx
      cases e : m.rule <;> rw [e] at hx <;> dsimp only at hx
      all_goals first
        | exact (List.mem_filter.mp hx).1
        | (split at hx
           · rename_i c; rw [List.mem_singleton.mp hx]; exact c
           · split at hx
             · rename_i c; rw [List.mem_singleton.mp hx]; exact maxN_mem (hne c)
             · cases hx)
    have h1 : m.rule = .least → ∀ x ∈ gvs m s K, x ∉ K := fun e x hx => by
      unfold gvs at hx
      rw [e] at hx
      simpa using (List.mem_filter.mp hx).2
    have h2 : m.rule ≠ .least → ∀ x ∈ gvs m s K, gvs m s K = [x] ∧ FreeG m s K x := fun e x hx => by
      have eq : gvs m s K = if s ∈ m.ages then [s] else if m.live.length = m.lim then [maxN m.ages] else [] := by
        unfold gvs
        cases e2 : m.rule <;> first | rfl | exact absurd e2 e
      rw [eq] at hx ⊢
      split at hx
      · rename_i c
        have := List.mem_singleton.mp hx
        subst this
        rw [if_pos c]
        exact ⟨rfl, fun z => absurd z e, fun _ => .inl rfl⟩
      · rename_i c
        split at hx
        · rename_i d
          have := List.mem_singleton.mp hx
          subst this
          rw [if_neg c, if_pos d]
          exact ⟨rfl, fun z => absurd z e, fun _ => .inr ⟨(in_or ok hs).elim id fun z => absurd z c, d, fun y hy => maxN_ge hy⟩⟩
        · cases hx
    show Pln m s t v ((gvs m s K).map some ++ none :: planF s K k ((giveAll m (gvs m s K)).take .non))
    refine pln_gives (K := K) _ ok ht h hK nd ha h1 h2 fun {m'} em ok' h' hK' => ?_
    obtain ⟨q1, q2, q3, q4, _⟩ := giveAll_same (gvs m s K) m
    have qa := giveAll_ages (gvs m s K) ok nd ha
    rw [← em] at q1 q2 q3 q4 qa ⊢
    have hk : (v - 1).toNat = k := by omega
    have hsa : s ∉ m'.ages ∧ m'.live.length < m'.lim := by
      have l1 := ok.ar.l1
      by_cases e : m.rule = .least
      · obtain ⟨k1, k2, k3, k4⟩ := hK e
        have hin : ∀ y ∈ m'.ages, y ∈ K := fun y hy => by
          obtain ⟨y1, y2⟩ := (qa y).mp hy
          refine Classical.byContradiction fun z => y2 ?_
          unfold gvs
          rw [e]
          exact List.mem_filter.mpr ⟨y1, by simpa using z⟩
        refine ⟨fun z => k3 (hin s z), ?_⟩
        have := nodup_len _ _ ok'.nodupA hin
        rw [ages_len] at this
        rw [q2]; omega
      · have eq : gvs m s K = if s ∈ m.ages then [s] else if m.live.length = m.lim then [maxN m.ages] else [] := by
          unfold gvs
          cases e2 : m.rule <;> first | rfl | exact absurd e2 e
        have hlv := ok.lv
        by_cases c : s ∈ m.ages
        · rw [if_pos c] at eq
          rw [eq] at em
          have em : m' = m.give s := em
          refine ⟨fun z => ((qa s).mp z).2 (by rw [eq]; exact List.mem_singleton.mpr rfl), ?_⟩
          have := give_len ok c
          rw [← em] at this
          rw [q2]; omega
        · refine ⟨fun z => c ((qa s).mp z).1, ?_⟩
          by_cases d : m.live.length = m.lim
          · rw [if_neg c, if_pos d] at eq
            rw [eq] at em
            have em : m' = m.give (maxN m.ages) := em
            have := give_len ok (maxN_mem (hne d))
            rw [← em] at this
            rw [q2]; omega
          · rw [if_neg c, if_neg d] at eq
            rw [eq] at em
            have em : m' = m := em
            rw [em]; omega
    have hsf : s ∈ m'.free := (in_or ok' (by rw [q3]; exact hs)).elim id fun z => absurd z hsa.1
    have := pln_take ok' ht hsa.2 hsf h' hK' fun {m2 t2} a b c d f => plan_ok (v - 1).toNat (by have := num_ge c a d; omega) a b c d f
    rwa [hk] at this
  termination_by k => k
  decreasing_by omega
end Bell

namespace Bell
theorem val_none (f : Nat → Int) {os K : List Nat} (h : ∀ o ∈ os, o ∉ K) : val f os K = 0 := by
  unfold val
  have : os.map (fun o => if o ∈ K then f o else 0) = os.map fun _ => (0 : Int) := List.map_congr_left fun o ho => if_neg (h o ho)
  rw [this]
  clear this h
  induction os with
  | nil => rfl
  | cons a r ih => rw [List.map_cons, List.sum_cons, ih]; rfl
theorem best_set (f : Nat → Int) : ∀ (os : List Nat) (k : Nat), os.Nodup → ∃ K : List Nat, K.Nodup ∧ K.length ≤ k ∧ (∀ x ∈ K, x ∈ os) ∧ val f os K = bestS k (os.map f)
  | [], k, _ => ⟨[], .nil, Nat.zero_le _, fun x h => h, by rw [List.map_nil, bestS_nil]; rfl⟩
  | o :: os, 0, _ => ⟨[], .nil, Nat.le_refl _, fun x h => (by cases h), by rw [bestS_zero]; exact val_none f fun _ _ z => (by cases z)⟩
  | o :: os, k + 1, nd => by
    obtain ⟨n1, n2⟩ := List.nodup_cons.mp nd
    have eo : ∀ K : List Nat, val f (o :: os) K = (if o ∈ K then f o else 0) + val f os K := fun K => by unfold val; rw [List.map_cons, List.sum_cons]
    rw [List.map_cons, bestS_cons]
    by_cases c : f o + bestS k (os.map f) ≤ bestS (k + 1) (os.map f)
    · obtain ⟨K, h1, h2, h3, h4⟩ := best_set f os (k + 1) n2
      refine ⟨K, h1, h2, fun x hx => List.mem_cons_of_mem _ (h3 x hx), ?_⟩
      rw [eo, if_neg (fun z => n1 (h3 o z)), h4]; omega
    · obtain ⟨K, h1, h2, h3, h4⟩ := best_set f os k n2
      have ho : o ∉ K := fun z => n1 (h3 o z)
      refine ⟨o :: K, List.nodup_cons.mpr ⟨ho, h1⟩, by simp; omega, fun x hx => ?_, ?_⟩
      · rcases List.mem_cons.mp hx with z | z
        · rw [z]; exact List.mem_cons_self
        · exact List.mem_cons_of_mem _ (h3 x z)
      · have e2 : val f os (o :: K) = val f os K := by
          unfold val
          congr 1
          refine List.map_congr_left fun y hy => ?_
          have hne : y ≠ o := fun z => n1 (z ▸ hy)
          simp [hne]
        rw [eo, if_pos List.mem_cons_self, e2, h4]; omega
variable {m : SM} {s : Nat} {t v : Int} {u : V}
theorem kopt_ex (m : SM) (s : Nat) (t : Int) : ∃ K, KOpt m s t K := by
  obtain ⟨K, h1, h2, h3, h4⟩ := best_set (saveN m s t) (m.oth s) (m.lim - 1) (nodup_oth m s)
  exact ⟨K, fun _ => ⟨h1, h2, fun z => (mem_oth.mp (h3 s z)).2 rfl, h4⟩⟩
/-- a next call that costs nothing more -/
theorem next_call (ok : m.Ok) (hs : s < m.n) (ht : 1 ≤ t) (h : L4 m s t = some v) : (∃ x ∈ m.ages, L4 (m.give x) s t = some v) ∨
    (m.live.length < m.lim ∧ ((m.slot = s ∧ ((t = 1 ∧ v = 1) ∨ (2 ≤ t ∧ L4 (m.take u) s (t - 1) = some (v - 1)))) ∨ (m.slot ≠ s ∧ L4 (m.take u) s t = some (v - 1)))) := by
  obtain ⟨K, hK⟩ := kopt_ex m s t
  have lv := ok.lv
  have l1 := ok.ar.l1
  rcases in_or ok hs with c | c
  · by_cases hl : m.live.length < m.lim
    · refine .inr ⟨hl, ?_⟩
      by_cases e : m.slot = s
      · refine .inl ⟨e, ?_⟩
        by_cases t1 : t = 1
        · subst t1
          rw [hit_one ok hl e] at h
          injection h with h
          exact .inl ⟨rfl, h.symm⟩
        · obtain ⟨w, h1, h2⟩ := hit_eq (u := u) (t := t) ok (by omega) hl e
          rw [h] at h1
          injection h1 with h1
          exact .inr ⟨by omega, by rw [h1]; exact h2⟩
      · exact .inr ⟨e, take_eq ok ht hl c e h⟩
    · refine .inl ?_
      have hne : m.ages ≠ [] := fun z => by
        have := ages_len m
        rw [z] at this
        simp at this
        omega
      by_cases e : m.rule = .least
      · obtain ⟨k1, k2, k3, k4⟩ := hK e
        obtain ⟨x, hx, hxK⟩ : ∃ x ∈ m.ages, x ∉ K := by
          refine Classical.byContradiction fun z => ?_
          have : ∀ y ∈ m.ages, y ∈ K := fun y hy => Classical.byContradiction fun w => z ⟨y, hy, w⟩
          have := nodup_len _ _ ok.nodupA this
          rw [ages_len] at this
          omega
        exact ⟨x, hx, give_keep ok ht hx h hK ⟨fun _ => hxK, fun z => absurd e z⟩⟩
      · exact ⟨maxN m.ages, maxN_mem hne, give_keep ok ht (maxN_mem hne) h hK ⟨fun z => absurd z e, fun _ => .inr ⟨c, by omega, fun y hy => maxN_ge hy⟩⟩⟩
  · exact .inl ⟨s, c, give_keep ok ht c h hK ⟨fun e => (hK e).2.2.1, fun _ => .inl rfl⟩⟩
end Bell
/-- the least number for the times that are left -/
def Lf (m : SM) (s : Nat) (t : Int) : Option Int := if t = 0 then some 0 else L4 m s t

namespace Bell
theorem val_cons {f : Nat → Int} {os K : List Nat} {o : Nat} (nd : os.Nodup) (ho : o ∈ os) (hK : o ∉ K) : val f os (o :: K) = f o + val f os K := by
  have h := sum_but (f := fun x => if x ∈ K then f x else 0) (f' := fun x => if x ∈ o :: K then f x else 0) nd ho (fun x _ hne => by simp [hne])
  unfold val
  rw [h]
  simp [hK]; omega
theorem val_sum {f : Nat → Int} {os : List Nat} (nd : os.Nodup) : ∀ {K : List Nat}, K.Nodup → (∀ x ∈ K, x ∈ os) → val f os K = (K.map f).sum
  | [], _, _ => val_none f fun _ _ z => (by cases z)
  | o :: K, nk, h => by
    obtain ⟨n1, n2⟩ := List.nodup_cons.mp nk
    rw [val_cons nd (h o List.mem_cons_self) n1, val_sum nd n2 fun x hx => h x (List.mem_cons_of_mem _ hx), List.map_cons, List.sum_cons]
theorem kopt_savings {m : SM} {s : Nat} {t : Int} {qs : List (Int × Int)} (hp : qs.Perm (((m.oth s).map fun (o : Nat) => (saveN m s t o, (o : Int))).filter fun z => decide (0 < z.1))) (hs : qs.Pairwise (fun a b => b.1 ≤ a.1)) :
    KOpt m s t ((qs.take (m.lim - 1)).map fun q => q.2.toNat) := by
  intro _
  have hq : ∀ q ∈ qs, ∃ o : Nat, o ∈ m.oth s ∧ q = (saveN m s t o, (o : Int)) := fun q hq => by
    obtain ⟨o, h1, h2⟩ := List.mem_map.mp (List.mem_filter.mp (hp.mem_iff.mp hq)).1
    exact ⟨o, h1, h2.symm⟩
  have hqt : ∀ q ∈ qs.take (m.lim - 1), ∃ o : Nat, o ∈ m.oth s ∧ q = (saveN m s t o, (o : Int)) := fun q h => hq q (List.mem_of_mem_take h)
  have nd : (qs.map fun q => q.2.toNat).Nodup := by
    have h1 : (qs.map fun q => q.2.toNat).Perm ((((m.oth s).map fun (o : Nat) => (saveN m s t o, (o : Int))).filter fun z => decide (0 < z.1)).map fun q => q.2.toNat) := hp.map _
    refine h1.nodup_iff.mpr ?_
    have h2 : ((((m.oth s).map fun (o : Nat) => (saveN m s t o, (o : Int))).filter fun z => decide (0 < z.1)).map fun q => q.2.toNat).Sublist (((m.oth s).map fun (o : Nat) => (saveN m s t o, (o : Int))).map fun q => q.2.toNat) := (List.filter_sublist).map _
    refine h2.nodup ?_
    rw [List.map_map]
    have e : ((fun q : Int × Int => q.2.toNat) ∘ fun (o : Nat) => (saveN m s t o, (o : Int))) = fun o => o := by funext o; simp
    rw [e, List.map_id']
    exact nodup_oth m s
  have hK : ((qs.take (m.lim - 1)).map fun q => q.2.toNat).Nodup := by
    rw [List.map_take]
    exact (List.take_sublist _ _).nodup nd
  have hin : ∀ x ∈ ((qs.take (m.lim - 1)).map fun q => q.2.toNat), x ∈ m.oth s := fun x hx => by
    obtain ⟨q, h1, rfl⟩ := List.mem_map.mp hx
    obtain ⟨o, h2, rfl⟩ := hqt q h1
    simpa using h2
  refine ⟨hK, by rw [List.length_map, List.length_take]; omega, fun z => (mem_oth.mp (hin s z)).2 rfl, ?_⟩
  rw [val_sum (nodup_oth m s) hK hin, ← best_of hp hs (m.lim - 1), List.map_map]
  congr 1
  refine List.map_congr_left fun q h => ?_
  obtain ⟨o, _, rfl⟩ := hqt q h
  simp
end Bell

theorem rl_s'' {r : Rl} (h : r.s = Rl.least.s) : r = .least := by
  cases r <;> first | rfl | exact absurd h (by decide +kernel)
def spToGive (C : Addr) (K : PySem.W.Frag) (Tb : List (Addr × Str)) : Sp := fun vs H Q _ => ∃ (L : List R) (p q : Addr) (m : SM) (s : Nat) (ks : List Nat), vs = [.ref p, .int (s : Int), .ref q] ∧ Sep C K Tb H L ∧ R.sl p m ∈ L ∧ R.cell q (.lst (iv ks)) ∈ L ∧
  ∀ (r : Addr) (H' : Hp), Sep C K Tb H' (.cell r (.lst (iv (gvs m s ks))) :: L) → Q (.ref r) H'
theorem liveH_ages (m : SM) : (m.liveH.filter fun _ => true).map (fun q => V.int q.1) = iv m.ages := by
  rw [List.filter_eq_self.mpr (fun _ _ => rfl)]
  unfold SM.liveH iv ci
  rw [List.map_map, List.map_map]; rfl
theorem maxN_int {l : List Nat} {x : Int} (h1 : x ∈ ci l) (h2 : ∀ y ∈ ci l, y ≤ x) : x = (maxN l : Nat) := by
  obtain ⟨c, hc, rfl⟩ := List.mem_map.mp h1
  have ne : l ≠ [] := fun z => by rw [z] at hc; cases hc
  have h3 := Bell.maxN_ge hc
  have h4 := h2 _ (mem_ci.mpr (Bell.maxN_mem ne))
  omega
theorem ok_slots_to_give (T : Txt K mg) (TB : TBs T base) : FnOk P w K mg base CX0 3 T.f_slots_to_give T.fd_slots_to_give ["board", "slot", "kept"] (spToGive T.C_Slots K T.tabs) := by
  refine T.F_slots_to_give.ok sc_slots_to_give (fun vs H Q E h => ?_) (fun cdv A outer s H vs Q E hr h => ?_)
  · obtain ⟨L, p, q, m, s, ks, rfl, _⟩ := h; rfl
  · obtain ⟨L, p, q, m, sn, ks, rfl, S, hsl, hq, k⟩ := h
    refine ⟨_, (pss_cons (ps_setLc (i := 3) (own := [("handle", 4)]) (g := gName 4) rfl sc_slots_to_give.nd rfl rfl (sw_true rfl rfl rfl (by decide +kernel)) (pi_list (pe_meth0 (pv 0 rfl vs_slots_to_give_0) T.cl_Slots T.mt_Slots_live (ok_Slots_live T TB) (hr.mono (by decide)) T.b_Slots_live .nil pass0)) (blkOk_by (own := [("handle", 4)]) (N := ["board", "slot", "kept", "alive", "handle", "one"]) (sc := defScope s_slots_to_give) (by decide +kernel)) (fun _ _ _ _ _ => (pg_name (i := 4) sc_slots_to_give.nd rfl (Or.inl rfl))) (fun _ _ _ _ _ => pts_nil) (fun _ _ _ _ _ => (pe_ix (ixT (K := K)) (pv 4) pe_int (fun _ _ => rfl))))
  (pss_cons (ps_if (pt_cmpR op_eq (pe_fld (pv 0 rfl vs_slots_to_give_0) rfl) pe_str (nomark _)) (pss_one (ps_ret (pe_lc (own := [("one", 5)]) (g := gName 5) rfl sc_slots_to_give.nd (pi_list (pv 3 rfl vs_slots_to_give_3)) (blkOk_by (own := [("one", 5)]) (N := ["board", "slot", "kept", "alive", "handle", "one"]) (sc := defScope s_slots_to_give) (by decide +kernel)) (fun _ _ _ _ _ => (pg_name (i := 5) sc_slots_to_give.nd rfl (Or.inl rfl))) (fun _ _ _ _ _ => (pts_one (pt_cmpR (ninK (K := K)) (pv 5) (pv 2) (by rfl)))) (fun _ _ _ _ _ => (pv 5))))) pss_nil)
  (pss_cons (ps_if (pt_cmpR (inK (K := K)) (pv 1 rfl vs_slots_to_give_1) (pv 3 rfl vs_slots_to_give_3) (by rfl)) (pss_one (ps_ret (pe_lst (pa_cons (pv 1 rfl vs_slots_to_give_1) pa_nil)))) pss_nil)
  (pss_one (ps_ret (pe_ifExp (pt_cmpR op_eq (pe_callB (c_len (K := K)) (by rfl) T.z_len (by decide +kernel) (pa_cons (pv 3 rfl vs_slots_to_give_3) pa_nil)) (pe_fld (pv 0 rfl vs_slots_to_give_0) rfl) (nomark _)) (pe_lst (pa_cons (pe_callB (maxL (K := K) rfl) (by rfl) T.z_max (by decide +kernel) (pa_cons (pv 3 rfl vs_slots_to_give_3) pa_nil)) pa_nil)) (pe_lst pa_nil))))))), ?_⟩
    have cl := T.cl_Slots
    have n2 := T.n_Slots_limit
    have n4 := T.n_Slots_rule
    have ok := S.ok hsl
    have h64 := ok.n64
    have hlv := ok.lv
    have hl1 := ok.ar.l1
    have hl2 := ok.ar.l2
    have hal := Bell.ages_len m
    walk_at "go"
    walk_at "sd"
    refine u_live S hsl fun ql xs H1 S1 => ?_
    have lxs : xs.length = m.liveH.length := by
      have := S1.len (.dats (vs := xs) (ds := m.liveH.map pd) (by walk_at "mm"))
      rw [List.length_map] at this; exact this
    have hlen := SM.liveH_len m
    walk_at "sd"
    refine s_lcL m.liveH S1 (.inl (by walk_at "mm")) lxs (by omega) (fun _ => true) (fun z => V.int z.1) (fun D H' i x z acc N hx hz hacc S' k1 _ => ?_) (fun qa H2 S2 => ?_)
    · obtain ⟨t', rfl, S''⟩ := S'.pair (a := z.1) (b := z.2) (.item (vs := xs) (ds := m.liveH.map pd) (i := i) (by walk_at "mm") hx (by rw [List.getElem?_map, hz]; rfl))
      walk_at "sd"
      exact s_keep S'' (by walk_at "pk") (by walk_at "ft") hacc fun H'' S3x => k1 rfl H'' S3x
    · rw [liveH_ages] at S2
      have S2 : Sep T.C_Slots K T.tabs H2 (.cell qa (.lst (iv m.ages)) :: L) := S2.fit (by walk_at "ft")
      have hsl2 : R.sl p m ∈ R.cell qa (.lst (iv m.ages)) :: L := List.mem_cons_of_mem _ hsl
      have hq2 : R.cell q (.lst (iv ks)) ∈ R.cell qa (.lst (iv m.ages)) :: L := List.mem_cons_of_mem _ hq
      walk_at "sd"
      by_cases e : m.rule = .least
      · rw [e]
        refine if_T (decide_eq_true (by decide +kernel)) ?_
        walk_at "sd"
        refine s_lcL m.ages S2 (.inl (by walk_at "mm")) (by rw [iv_len]) (by omega) (fun o => !decide (o ∈ ks)) (fun o => V.int (o : Int)) (fun D H' i x z acc N hx hz hacc S' k1 k0 => ?_) (fun qr H3 S3 => ?_)
        · rw [iv_get hz] at hx
          obtain rfl := Option.some.inj hx
          have hq3 : R.cell q (.lst (iv ks)) ∈ R.cell D (.lst acc) :: R.cell qa (.lst (iv m.ages)) :: L := List.mem_cons_of_mem _ hq2
          walk_at "sd"
          refine s_ninN S' hq3 ?_
          walk_at "sd"
          refine if_nd (fun c => ?_) (fun c => ?_)
          · walk_at "sd"
            exact s_keep S' (by walk_at "pk") (by walk_at "ft") hacc fun H'' S3x => k1 (by simp [c]) H'' S3x
          · exact k0 (by simp [c]) _ S'
        · walk_at "sd"
          refine k qr H3 ?_
          have eg : gvs m sn ks = m.ages.filter fun o => !decide (o ∈ ks) := by unfold gvs; rw [e]
          rw [eg, iv_map]
          exact S3.fit (by walk_at "ft")
      · have eg : gvs m sn ks = if sn ∈ m.ages then [sn] else if m.live.length = m.lim then [maxN m.ages] else [] := by
          unfold gvs
          cases e2 : m.rule <;> first | rfl | exact absurd e2 e
        refine if_F (decide_eq_false (fun z => e (rl_s'' z))) ?_
        walk_at "sd"
        refine s_inN S2 (by walk_at "mm") ?_
        walk_at "sd"
        refine if_d (fun c => ?_) (fun c => ?_)
        · walk_at "sd"
          rename_i qr H3 S3
          refine k qr H3 ?_
          rw [eg, if_pos c]
          exact S3.fit (rs := .cell qr (.lst [V.int (sn : Int)]) :: L) (by walk_at "ft")
        · walk_at "sd"
          rw [iv_len, hal]
          refine if_d (fun d => ?_) (fun d => ?_)
          · have d : m.live.length = m.lim := by omega
            walk_at "sd"
            refine ⟨qa, ci m.ages, rfl, SqL.of (S2.get (o := .lst (iv m.ages)) (by walk_at "mm")), by rw [ci_len, hal]; omega, fun x h1 h2 => ?_⟩
            obtain rfl := maxN_int h1 h2
            walk_at "sd"
            rename_i qr H3 S3
            refine k qr H3 ?_
            rw [eg, if_neg c, if_pos d]
            exact S3.fit (rs := .cell qr (.lst [V.int ((maxN m.ages : Nat) : Int)]) :: L) (by walk_at "ft")
          · have d : ¬ m.live.length = m.lim := by omega
            walk_at "sd"
            rename_i qr H3 S3
            refine k qr H3 ?_
            rw [eg, if_neg c, if_neg d]
            exact S3.fit (rs := .cell qr (.lst []) :: L) (by walk_at "ft")

def spPlan (C : Addr) (K : PySem.W.Frag) (Tb : List (Addr × Str)) : Sp := fun vs H Q _ => ∃ (L : List R) (p : Addr) (m : SM) (s : Nat) (t v : Int), vs = [.ref p, .int (s : Int), .int t] ∧ Sep C K Tb H (.sl p m :: L) ∧ s < m.n ∧ 1 ≤ t ∧ t ≤ 1000000000000 ∧ L4 m s t = some v ∧ v ≤ 2000 ∧
  ∀ (q : Addr) (xs : List V) (ds : List Deed) (H' : Hp), Pln m s t v ds → Sep C K Tb H' (.cell q (.lst xs) :: .dats xs (ds.map dD) :: .sl p m :: L) → Q (.ref q) H'
/-- the calls can be executed one after the other -/
def runs : SM → List Deed → Prop
  | _, [] => True
  | m, some x :: r => x ∈ m.ages ∧ runs (m.give x) r
  | m, none :: r => m.live.length < m.lim ∧ runs (m.take .non) r
theorem Pln.runs {m : SM} {s : Nat} {t v : Int} {cs : List Deed} (h : Pln m s t v cs) : runs m cs := by
  induction h with
  | give _ hx _ _ ih => exact ⟨hx, ih⟩
  | take _ hl _ _ _ ih => exact ⟨hl, ih⟩
  | hit _ hl _ _ _ _ ih => exact ⟨hl, ih⟩
  | last _ hl _ _ => exact ⟨hl, trivial⟩
theorem dD_some (x : Nat) : dD (some x) = .tuple [.str "give", .int (x : Int)] := rfl
theorem dD_none : dD none = .str "take" := rfl
theorem gvs_len (m : SM) (s : Nat) (ks : List Nat) : (gvs m s ks).length ≤ m.live.length + 1 := by
  unfold gvs
  cases m.rule <;> dsimp only
  all_goals first
    | (split <;> (try split) <;> simp; done)
    | (have := List.length_filter_le (fun o => !decide (o ∈ ks)) m.ages
       rw [Bell.ages_len] at this; omega)
theorem giveAll_snoc (m : SM) (G : List Nat) (x : Nat) : giveAll m (G ++ [x]) = (giveAll m G).give x := by
  unfold giveAll; rw [List.foldl_append]; rfl
theorem ok_plan (T : Txt K mg) (TB : TBs T base) : FnOk P w K mg base CX0 9 T.f_plan T.fd_plan ["slots", "slot", "times"] (spPlan T.C_Slots K T.tabs) := by
  refine T.F_plan.ok sc_plan (fun vs H Q E h => ?_) (fun cdv A outer s H vs Q E hr h => ?_)
  · obtain ⟨L, p, m, s, t, v, rfl, _⟩ := h; rfl
  · obtain ⟨L, p, m, sn, t, v, rfl, S, hs, h0, h1, hv, hv2, k⟩ := h
    refine ⟨_, (pss_cons (ps_set (i := 3) sc_plan.nd rfl lc_plan_3 (pe_call (ok_least T TB) (hr.mono (by decide)) rfl T.m_least T.F_least.kp T.b_least .nil pass0 (pa_cons (pv 0 rfl vs_plan_0) (pa_cons (pv 1 rfl vs_plan_1) (pa_cons (pv 2 rfl vs_plan_2) pa_nil)))))
  (pss_cons (ps_if (pt_cmpR o_isN (pv 3 rfl vs_plan_3) pe_non (nomark _)) (pss_one ps_never) pss_nil)
  (pss_cons (ps_if (pt_cmpR op_gt (pv 3 rfl vs_plan_3) (pe_gk rfl T.g_LONGEST_PLAN) (nomark _)) (pss_one ps_never) pss_nil)
  (pss_cons (ps_setLc (i := 4) (own := [("saving", 9), ("other", 10)]) (g := gTup K 2 (gCons (gName 9) (gCons (gName 10) gNil))) rfl sc_plan.nd rfl rfl (sw_true rfl rfl rfl (by decide +kernel)) (pi_list (pe_call (ok_savings T TB) (hr.mono (by decide)) rfl T.m_savings T.F_savings.kp T.b_savings .nil pass0 (pa_cons (pv 0 rfl vs_plan_0) (pa_cons (pv 1 rfl vs_plan_1) (pa_cons (pv 2 rfl vs_plan_2) pa_nil))))) (blkOk_by (own := [("saving", 9), ("other", 10)]) (N := ["slots", "slot", "times", "number", "kept", "board", "calls", "turn", "one", "saving", "other"]) (sc := defScope s_plan) (by decide +kernel)) (fun _ _ _ _ _ => (pg_tup (n := 2) rfl (pgs_cons (pg_name (i := 9) sc_plan.nd rfl (Or.inl rfl)) (pgs_cons (pg_name (i := 10) sc_plan.nd rfl (Or.inl rfl)) pgs_nil)))) (fun _ _ _ _ _ => pts_nil) (fun _ _ _ _ _ => (pv 10)))
  (pss_cons (ps_set (i := 5) sc_plan.nd rfl lc_plan_5 (pe_meth0 (pv 0 rfl vs_plan_0) T.cl_Slots T.mt_Slots_copy (ok_Slots_copy T TB) (hr.mono (by decide)) T.b_Slots_copy .nil pass0))
  (pss_cons (ps_set (i := 6) sc_plan.nd rfl lc_plan_6 (pe_lst pa_nil))
  (pss_cons (ps_for PassesOwn.never rfl (pi_range1 (by rfl) T.z_range (pa_cons (pv 3 rfl vs_plan_3) pa_nil)) (pg_name (i := 7) sc_plan.nd rfl lc_plan_7) (pss_cons (ps_for PassesOwn.never rfl (pi_list (pe_call (ok_slots_to_give T TB) (hr.mono (by decide)) rfl T.m_slots_to_give T.F_slots_to_give.kp T.b_slots_to_give .nil pass0 (pa_cons (pv 5 rfl vs_plan_5) (pa_cons (pv 1 rfl vs_plan_1) (pa_cons (pv 4 rfl vs_plan_4) pa_nil))))) (pg_name (i := 8) sc_plan.nd rfl lc_plan_8) (pss_cons (ps_expr (pe_meth (pv 5 rfl vs_plan_5) T.cl_Slots T.mt_Slots_give (ok_Slots_give T TB) (hr.mono (by decide)) T.b_Slots_give .nil pass0 (pa_cons (pe_call (ok_handle_of T TB) (hr.mono (by decide)) rfl T.m_handle_of T.F_handle_of.kp T.b_handle_of .nil pass0 (pa_cons (pv 5 rfl vs_plan_5) (pa_cons (pv 8 rfl vs_plan_8) pa_nil))) pa_nil)))
  (pss_one (ps_expr (pe_bm PySem.F.plainAttrs_list PySem.F.slot_list_append PySem.F.type_list_append mt_append (pv 6 rfl vs_plan_6) (pa_cons (pe_tup (pa_cons pe_str (pa_cons (pv 8 rfl vs_plan_8) pa_nil))) pa_nil))))))
  (pss_cons (ps_expr (pe_meth (pv 5 rfl vs_plan_5) T.cl_Slots T.mt_Slots_take (ok_Slots_take T TB) (hr.mono (by decide)) T.b_Slots_take .nil pass0 (pa_cons pe_non pa_nil)))
  (pss_one (ps_expr (pe_bm PySem.F.plainAttrs_list PySem.F.slot_list_append PySem.F.type_list_append mt_append (pv 6 rfl vs_plan_6) (pa_cons pe_str pa_nil)))))))
  (pss_one (ps_ret (pv 6 rfl vs_plan_6)))))))))), ?_⟩
    have cl := T.cl_Slots
    have ok := S.ok (p := p) (m := m) (by walk_at "mm")
    have hge := Bell.num_ge h0 ok hv
    obtain ⟨kn, rfl⟩ : ∃ kn : Nat, v = (kn : Int) := ⟨v.toNat, by omega⟩
    walk_at "go"
    walk_at "sd"
    refine u_least4 S (by walk_at "pk") hs h0 h1 fun H1 S1 => ?_
    rw [least4_L4, hv]
    have e : oV (some (kn : Int)) = .int (kn : Int) := rfl
    rw [e]
    walk_at "sd"
    refine ⟨L, p, m, sn, t, rfl, S1, hs, fun q ys qs H2 hp hso S2 => ?_⟩
    have hK := Bell.kopt_savings hp hso
    have hpl := Bell.plan_ok kn rfl ok hs h0 hv hK
    have lys : ys.length = (qs.take (m.lim - 1)).length := by
      have := S2.len (.dats (vs := ys) (ds := (qs.take (m.lim - 1)).map pd) (by walk_at "mm"))
      rw [List.length_map] at this; exact this
    have h64 := ok.n64
    have hl2 := ok.ar.l2
    have hlq : (qs.take (m.lim - 1)).length ≤ 64 := by rw [List.length_take]; omega
    generalize hqs : qs.take (m.lim - 1) = qk at *
    walk_at "sd"
    refine s_lcL qk S2 (.inl (by walk_at "mm")) lys (by omega) (fun _ => true) (fun z => V.int z.2) (fun D H' i x z acc N hx hz hacc S' k1 _ => ?_) (fun qa H3 S3 => ?_)
    · obtain ⟨t', rfl, S''⟩ := S'.pair (a := z.1) (b := z.2) (.item (vs := ys) (ds := qk.map pd) (i := i) (by walk_at "mm") hx (by rw [List.getElem?_map, hz]; rfl))
      walk_at "sd"
      exact s_keep S'' (by walk_at "pk") (by walk_at "ft") hacc fun H'' S3x => k1 rfl H'' S3x
    · have ek : (qk.filter fun _ => true).map (fun z => V.int z.2) = iv (qk.map fun z => z.2.toNat) := by
        rw [List.filter_eq_self.mpr (fun _ _ => rfl)]
        unfold iv ci
        rw [List.map_map, List.map_map]
        refine List.map_congr_left fun z hz => ?_
        have hz2 : z ∈ qs := List.mem_of_mem_take (by rw [hqs]; exact hz)
        obtain ⟨o, _, e⟩ := List.mem_map.mp (List.mem_filter.mp (hp.mem_iff.mp hz2)).1
        rw [← e]; simp
      rw [ek] at S3
      generalize hks : (qk.map fun z => z.2.toNat) = ks at *
      have S3 : Sep T.C_Slots K T.tabs H3 (.cell qa (.lst (iv ks)) :: .sl p m :: L) := S3.fit (by walk_at "ft")
      walk_at "sd"
      refine u_copy S3 (by walk_at "mm") fun pb H4 S4 => ?_
      walk_at "sd"
      rename_i qc H5 S5
      refine rng1L kn rfl (by omega) ?_
      refine loop_range (fun i σ H' => ∃ (v7 v8 v9 v10 : Option V) (mb : SM) (xs : List V) (cs : List Deed), σ = [some (.ref p), some (.int (sn : Int)), some (.int t), some (.int (kn : Int)), some (.ref qa), some (.ref pb), some (.ref qc), v7, v8, v9, v10] ∧ mb.Ok ∧ cs.length ≤ i * 66 ∧ runs mb (planF sn ks (kn - i) mb) ∧ cs ++ planF sn ks (kn - i) mb = planF sn ks kn m ∧
        Sep T.C_Slots K T.tabs H' (.sl pb mb :: .cell qc (.lst xs) :: .dats xs (cs.map dD) :: .cell qa (.lst (iv ks)) :: .sl p m :: L)) ⟨_, _, _, _, m, [], [], rfl, ok, by simp, by rw [Nat.sub_zero]; exact hpl.runs, by simp, (S5.dats (v := []) (d := ([] : List Deed).map dD) .nil).fit (by walk_at "ft")⟩ ?_ ?_
      · rintro i σ H6 hi ⟨v7, v8, v9, v10, mb, xs, cs, rfl, okb, hcl, hru, hcs, S6⟩
        obtain ⟨j, hj⟩ : ∃ j, kn - i = j + 1 := ⟨kn - i - 1, by omega⟩
        rw [hj] at hru hcs
        have epl : planF sn ks (j + 1) mb = (gvs mb sn ks).map some ++ none :: planF sn ks j ((giveAll mb (gvs mb sn ks)).take .non) := rfl
        rw [epl] at hru hcs
        have hgl := gvs_len mb sn ks
        have hblv := okb.lv
        have hb64 := okb.n64
        have hb2 := okb.ar.l2
        generalize hG : gvs mb sn ks = G at *
        walk_at "sd"
        refine ⟨.sl pb mb :: .cell qc (.lst xs) :: .dats xs (cs.map dD) :: .cell qa (.lst (iv ks)) :: .sl p m :: L, pb, qa, mb, sn, ks, rfl, S6, by walk_at "mm", by walk_at "mm", fun r H7 S7 => ?_⟩
        rw [hG] at S7
        walk_at "sd"
        refine loop_list (xs := iv G) (fun i2 σ H' => ∃ (v8 : Option V) (xs : List V), σ = [some (.ref p), some (.int (sn : Int)), some (.int t), some (.int (kn : Int)), some (.ref qa), some (.ref pb), some (.ref qc), some (.int (i : Int)), v8, v9, v10] ∧ (giveAll mb (G.take i2)).Ok ∧ runs (giveAll mb (G.take i2)) ((G.drop i2).map some ++ none :: planF sn ks j ((giveAll mb G).take .non)) ∧
          Sep T.C_Slots K T.tabs H' (.cell r (.lst (iv G)) :: .sl pb (giveAll mb (G.take i2)) :: .cell qc (.lst xs) :: .dats xs ((cs ++ (G.take i2).map some).map dD) :: .cell qa (.lst (iv ks)) :: .sl p m :: L)) ⟨_, xs, rfl, okb, hru, by
            have e : cs ++ (G.take 0).map some = cs := by simp
            have e2 : giveAll mb (G.take 0) = mb := rfl
            rw [e, e2]; exact S7.fit (by walk_at "ft")⟩ ?_ ?_ ?_
        · rintro i2 σ H' _ ⟨_, _, _, _, _, S8⟩
          exact SqL.of (S8.get (by walk_at "mm"))
        · rintro i2 x σ H8 hx ⟨v8, xs, rfl, okg, hrg, S8⟩
          obtain ⟨g, hg, rfl⟩ : ∃ g, G[i2]? = some g ∧ x = .int (g : Int) := by
            rw [iv_map, List.getElem?_map] at hx
            cases e : G[i2]? with
            | none => rw [e] at hx; cases hx
            | some g => rw [e] at hx; exact ⟨g, rfl, (Option.some.inj hx).symm⟩
          have hi2 : i2 < G.length := (List.getElem?_eq_some_iff.mp hg).1
          have ed : G.drop i2 = g :: G.drop (i2 + 1) := by
            rw [List.drop_eq_getElem_cons hi2, (List.getElem?_eq_some_iff.mp hg).2]
          have et : G.take (i2 + 1) = G.take i2 ++ [g] := by rw [List.take_succ, hg]; rfl
          rw [ed] at hrg
          obtain ⟨hga, hrg⟩ := (show g ∈ (giveAll mb (G.take i2)).ages ∧ runs ((giveAll mb (G.take i2)).give g) ((G.drop (i2 + 1)).map some ++ none :: planF sn ks j ((giveAll mb G).take .non)) from hrg)
          obtain ⟨w, hw⟩ : ∃ w, (g, w) ∈ (giveAll mb (G.take i2)).live := by
            obtain ⟨q, h1, h2⟩ := List.mem_map.mp hga
            exact ⟨q.2, by rw [← h2]; exact h1⟩
          have lxs : xs.length = (cs ++ (G.take i2).map some).length := by
            have := S8.len (.dats (vs := xs) (ds := (cs ++ (G.take i2).map some).map dD) (by walk_at "mm"))
            rw [List.length_map] at this; exact this
          have lx2 : xs.length ≤ 1000000 := by
            rw [lxs, List.length_append, List.length_map, List.length_take]; omega
          walk_at "sd"
          refine u_handleOf (p := pb) (m := giveAll mb (G.take i2)) S8 (by walk_at "mm") (fun _ tq H9 S9 => ?_) (fun z => absurd hga z)
          walk_at "sd"
          refine u_give (p := pb) (m := giveAll mb (G.take i2)) w S9 (by walk_at "pk") (by walk_at "mm") rfl hw fun H10 S10 => ?_
          walk_at "sd"
          rename_i t2 H11 S11 H12 S12
          have S13 := S12.dats (v := xs ++ [.ref t2]) (d := (cs ++ (G.take i2).map some ++ [some g]).map dD) (by
            have e3 : (cs ++ (G.take i2).map some ++ [some g]).map dD = (cs ++ (G.take i2).map some).map dD ++ [dD (some g)] := by simp
            rw [e3]
            exact .app (.dats (by walk_at "mm")) (.cons (.tup (ds := [.str "give", .int (g : Int)]) (by walk_at "mm") (.cons (.str _) (.cons (.int _) .nil))) .nil))
          refine ⟨some (.int (g : Int)), xs ++ [.ref t2], rfl, ?_, ?_, ?_⟩
          · rw [et, giveAll_snoc]; exact SM.ok_give okg hga
          · rw [et, giveAll_snoc]; exact hrg
          · have e : cs ++ (G.take (i2 + 1)).map some = cs ++ (G.take i2).map some ++ [some g] := by rw [et]; simp
            rw [e, et, giveAll_snoc]
            exact S13.fit (by walk_at "ft")
        · rintro σ H8 ⟨v8, xs, rfl, okg, hrg, S8⟩
          rw [iv_len, List.take_length] at S8 okg hrg
          rw [List.drop_length] at hrg
          obtain ⟨hlb, hrg⟩ := (show (giveAll mb G).live.length < (giveAll mb G).lim ∧ runs ((giveAll mb G).take .non) (planF sn ks j ((giveAll mb G).take .non)) from hrg)
          have lxs : xs.length = (cs ++ G.map some).length := by
            have := S8.len (.dats (vs := xs) (ds := (cs ++ G.map some).map dD) (by walk_at "mm"))
            rw [List.length_map] at this; exact this
          have lx2 : xs.length ≤ 1000000 := by
            rw [lxs, List.length_append, List.length_map]; omega
          walk_at "sd"
          refine u_take (p := pb) (m := giveAll mb G) S8 (by walk_at "pk") hlb fun tq H9 S9 => ?_
          walk_at "sd"
          rename_i H10 S10
          have S11 := S10.dats (v := xs ++ [.str "take"]) (d := (cs ++ G.map some ++ [none]).map dD) (by
            have e3 : (cs ++ G.map some ++ [none]).map dD = (cs ++ G.map some).map dD ++ [dD none] := by simp
            rw [e3]
            exact .app (.dats (by walk_at "mm")) (.cons (.str _) .nil))
          have ej : kn - (i + 1) = j := by omega
          refine ⟨_, _, _, _, (giveAll mb G).take .non, xs ++ [.str "take"], cs ++ G.map some ++ [none], rfl, SM.ok_take okg hlb .non, ?_, by rw [ej]; exact hrg, by rw [ej, ← hcs]; simp, S11.fit (by walk_at "ft")⟩
          simp only [List.length_append, List.length_map, List.length_cons, List.length_nil]; omega
      · rintro σ H6 ⟨v7, v8, v9, v10, mb, xs, cs, rfl, okb, hcl, hru, hcs, S6⟩
        have e0 : planF sn ks (kn - kn) mb = [] := by rw [Nat.sub_self]; rfl
        rw [e0, List.append_nil] at hcs
        walk_at "sd"
        refine k qc xs cs H6 (by rw [hcs]; exact hpl) (S6.fit (by walk_at "ft"))
/-! use -/
theorem u_plan {C : Addr} {K : PySem.W.Frag} {Tb : List (Addr × Str)} {H : Hp} {L L' : List R} {Q : VK} {E : XK} {p : Addr} {m : SM} {s : Nat} {t v : Int} (S : Sep C K Tb H L) (pk : Pick (.sl p m) L L') (hs : s < m.n) (h0 : 1 ≤ t) (h1 : t ≤ 1000000000000) (hv : L4 m s t = some v) (hv2 : v ≤ 2000)
    (k : ∀ (q : Addr) (xs : List V) (ds : List Deed) (H' : Hp), Pln m s t v ds → Sep C K Tb H' (.cell q (.lst xs) :: .dats xs (ds.map dD) :: .sl p m :: L') → Q (.ref q) H') : spPlan C K Tb [.ref p, .int (s : Int), .int t] H Q E := ⟨L', p, m, s, t, v, rfl, S.pick pk, hs, h0, h1, hv, hv2, k⟩

theorem okX_plan (T : Txt K mg) (TB : TBs T base) : FnOk P w K mg base (L2.CX P w) 9 T.f_plan T.fd_plan ["slots", "slot", "times"] (spQuestX T.C_Slots T.C_NoSlot T.C_NoTimes K T.tabs) := by
  refine T.F_plan.okX sc_plan (fun vs H Q E h => ?_) (fun cdv A outer s H vs Q E hr h => ?_)
  · obtain ⟨L, p, m, v, u, rfl, _⟩ := h; rfl
  · obtain ⟨L, p, m, v, u, rfl, S, hsl, hq⟩ := h
    refine ⟨_, (pss_cons (ps_set (i := 3) sc_plan.nd rfl lc_plan_3 (pe_call (okB_least T TB) (hr.mono (by decide)) rfl T.m_least T.F_least.kp T.b_least .nil passX (pa_cons (pv 0 rfl vs_plan_0) (pa_cons (pv 1 rfl vs_plan_1) (pa_cons (pv 2 rfl vs_plan_2) pa_nil)))))
  (pss_cons (ps_if (pt_cmpR o_isN (pv 3 rfl vs_plan_3) pe_non (nomark _)) (pss_one (ps_raise0 rfl T.x_Never rfl T.g_Never (takes_of rfl rfl rfl rfl))) pss_nil)
  (pss_cons (ps_if (pt_cmpR op_gt (pv 3 rfl vs_plan_3) (pe_gk rfl T.g_LONGEST_PLAN) (nomark _)) (pss_one (ps_raiseF rfl T.x_TooLong (ok_TooLong___init__ T TB) (hr.mono (by decide)) T.b_TooLong___init__ pass0 rfl T.g_TooLong (takes_of rfl rfl rfl rfl) (pa_cons (pv 3 rfl vs_plan_3) pa_nil))) pss_nil)
  (pss_cons (ps_setLc (i := 4) (own := [("saving", 9), ("other", 10)]) (g := gTup K 2 (gCons (gName 9) (gCons (gName 10) gNil))) rfl sc_plan.nd rfl rfl (sw_true rfl rfl rfl (by decide +kernel)) (pi_list (pe_call (ok_savings T TB) (hr.mono (by decide)) rfl T.m_savings T.F_savings.kp T.b_savings .nil pass0 (pa_cons (pv 0 rfl vs_plan_0) (pa_cons (pv 1 rfl vs_plan_1) (pa_cons (pv 2 rfl vs_plan_2) pa_nil))))) (blkOk_by (own := [("saving", 9), ("other", 10)]) (N := ["slots", "slot", "times", "number", "kept", "board", "calls", "turn", "one", "saving", "other"]) (sc := defScope s_plan) (by decide +kernel)) (fun _ _ _ _ _ => (pg_tup (n := 2) rfl (pgs_cons (pg_name (i := 9) sc_plan.nd rfl (Or.inl rfl)) (pgs_cons (pg_name (i := 10) sc_plan.nd rfl (Or.inl rfl)) pgs_nil)))) (fun _ _ _ _ _ => pts_nil) (fun _ _ _ _ _ => (pv 10)))
  (pss_cons (ps_set (i := 5) sc_plan.nd rfl lc_plan_5 (pe_meth0 (pv 0 rfl vs_plan_0) T.cl_Slots T.mt_Slots_copy (ok_Slots_copy T TB) (hr.mono (by decide)) T.b_Slots_copy .nil pass0))
  (pss_cons (ps_set (i := 6) sc_plan.nd rfl lc_plan_6 (pe_lst pa_nil))
  (pss_cons (ps_for (passes_of rfl) rfl (pi_range1 (by rfl) T.z_range (pa_cons (pv 3 rfl vs_plan_3) pa_nil)) (pg_name (i := 7) sc_plan.nd rfl lc_plan_7) (pss_cons (ps_for (passes_of rfl) rfl (pi_list (pe_call (ok_slots_to_give T TB) (hr.mono (by decide)) rfl T.m_slots_to_give T.F_slots_to_give.kp T.b_slots_to_give .nil pass0 (pa_cons (pv 5 rfl vs_plan_5) (pa_cons (pv 1 rfl vs_plan_1) (pa_cons (pv 4 rfl vs_plan_4) pa_nil))))) (pg_name (i := 8) sc_plan.nd rfl lc_plan_8) (pss_cons (ps_expr (pe_meth (pv 5 rfl vs_plan_5) T.cl_Slots T.mt_Slots_give (ok_Slots_give T TB) (hr.mono (by decide)) T.b_Slots_give .nil pass0 (pa_cons (pe_call (ok_handle_of T TB) (hr.mono (by decide)) rfl T.m_handle_of T.F_handle_of.kp T.b_handle_of .nil pass0 (pa_cons (pv 5 rfl vs_plan_5) (pa_cons (pv 8 rfl vs_plan_8) pa_nil))) pa_nil)))
  (pss_one (ps_expr (pe_bm PySem.F.plainAttrs_list PySem.F.slot_list_append PySem.F.type_list_append mt_append (pv 6 rfl vs_plan_6) (pa_cons (pe_tup (pa_cons pe_str (pa_cons (pv 8 rfl vs_plan_8) pa_nil))) pa_nil))))))
  (pss_cons (ps_expr (pe_meth (pv 5 rfl vs_plan_5) T.cl_Slots T.mt_Slots_take (ok_Slots_take T TB) (hr.mono (by decide)) T.b_Slots_take .nil pass0 (pa_cons pe_non pa_nil)))
  (pss_one (ps_expr (pe_bm PySem.F.plainAttrs_list PySem.F.slot_list_append PySem.F.type_list_append mt_append (pv 6 rfl vs_plan_6) (pa_cons pe_str pa_nil)))))))
  (pss_one (ps_ret (pv 6 rfl vs_plan_6)))))))))), ?_⟩
    walk_at "go"
    walk_at "sd"
    exact .inr ⟨L, p, m, v, u, rfl, S, hsl, hq⟩

theorem okB_plan (T : Txt K mg) (TB : TBs T base) : FnOk P w K mg base (L2.CX P w) 9 T.f_plan T.fd_plan ["slots", "slot", "times"] (orSp (spPlan T.C_Slots K T.tabs) (spQuestX T.C_Slots T.C_NoSlot T.C_NoTimes K T.tabs)) := orF (liftF (ok_plan T TB)) (okX_plan T TB)

/-- whether a value is a call -/
def isCallV (n : Nat) : V → Option (List V) → Bool
  | .str x, _ => decide (x = "take")
  | _, some [.str y, w] => decide (y = "give") && inBnd 0 ((n : Int) - 1) w
  | _, _ => false
theorem Kd.strOr {L : List R} {v : V} {n : String} (k : Kd L v n) : (∃ y, v = .str y) ∨ ((∀ x, v ≠ .str x) ∧ kitB n "str" = some false) := by
  cases k with
  | str x => exact .inl ⟨x, rfl⟩
  | _ => exact .inr ⟨fun x e => (by cases e), by decide +kernel⟩
def spIsCall (C : Addr) (Tb : List (Addr × Str)) (K : PySem.W.Frag) : Sp := fun vs H Q _ => ∃ (L : List R) (p : Addr) (m : SM) (v : V) (r : Option (List V)), vs = [.ref p, v] ∧ Sep C K Tb H L ∧ R.sl p m ∈ L ∧ Odd L v r ∧ (∀ xs, r = some xs → xs.length ≤ 1000) ∧ Q (.bl (isCallV m.n v r)) H
theorem isCallV_len {n : Nat} {t : Addr} {xs : List V} (h : xs.length ≠ 2) : isCallV n (.ref t) (some xs) = false := by
  match xs, h with
  | [], _ => rfl
  | [_], _ => simp [isCallV]
  | [_, _], h => exact absurd rfl h
  | _ :: _ :: _ :: _, _ => simp [isCallV]
theorem isCallV_ns {n : Nat} {t : Addr} {x y : V} (h : ∀ z, x ≠ .str z) : isCallV n (.ref t) (some [x, y]) = false := by
  cases x with
  | str z => exact absurd rfl (h z)
  | _ => rfl
theorem ok_is_call (T : Txt K mg) (TB : TBs T base) : FnOk P w K mg base CX0 4 T.f_is_call T.fd_is_call ["slots", "value"] (spIsCall T.C_Slots T.tabs K) := by
  refine T.F_is_call.ok sc_is_call (fun vs H Q E h => ?_) (fun cdv A outer s H vs Q E hr h => ?_)
  · obtain ⟨L, p, m, v, r, rfl, _⟩ := h; rfl
  · obtain ⟨L, p, m, v, r, rfl, S, hsl, ho, hlen, k⟩ := h
    refine ⟨_, (pss_cons (ps_if (pt_val (pe_callB (isiK (K := K)) (by rfl) T.z_isinstance (by decide +kernel) (pa_cons (pv 1 rfl vs_is_call_1) (pa_cons (pe_ty (n := "str") (by rfl) T.z_str (by decide +kernel)) pa_nil)))) (pss_one (ps_ret (pe_cmpR op_eq (pv 1 rfl vs_is_call_1) pe_str (nomark _)))) pss_nil)
  (pss_cons (ps_if (PW.pt (pw_or (pt_not (pt_val (pe_callB (isiK (K := K)) (by rfl) T.z_isinstance (by decide +kernel) (pa_cons (pv 1 rfl vs_is_call_1) (pa_cons (pe_ty (n := "tuple") (by rfl) T.z_tuple (by decide +kernel)) pa_nil))))) (pw_or (pt_cmpR op_ne (pe_callB (c_len (K := K)) (by rfl) T.z_len (by decide +kernel) (pa_cons (pv 1 rfl vs_is_call_1) pa_nil)) pe_int (nomark _)) (pw_or1 (pt_not (pt_val (pe_callB (isiK (K := K)) (by rfl) T.z_isinstance (by decide +kernel) (pa_cons (pe_ix (ixT (K := K)) (pv 1 rfl vs_is_call_1) pe_int (fun _ _ => rfl)) (pa_cons (pe_ty (n := "str") (by rfl) T.z_str (by decide +kernel)) pa_nil))))))))) (pss_one (ps_ret pe_bl)) pss_nil)
  (pss_one (ps_ret (pe_and (pe_cmpR op_eq (pe_ix (ixT (K := K)) (pv 1 rfl vs_is_call_1) pe_int (fun _ _ => rfl)) pe_str (nomark _)) (pe_one (pe_call (okV_is_slot T TB) (hr.mono (by decide)) rfl T.m_is_slot T.F_is_slot.kp T.b_is_slot .nil pass0 (pa_cons (pv 0 rfl vs_is_call_0) (pa_cons (pe_ix (ixT (K := K)) (pv 1 rfl vs_is_call_1) pe_int (fun _ _ => rfl)) pa_nil))))))))), ?_⟩
    have cl := T.cl_Slots
    walk_at "go"
    cases ho with
    | no kd hn =>
      have kn := S.kn kd
      cases kn with
      | tup e => exact absurd rfl hn
      | str x =>
        walk_at "rd"
        exact k
      | _ => walk_at "rd"; exact k
    | @tup t xs ht' hk =>
      have ht := S.getT ht'
      have hl := hlen xs rfl
      walk_at "rd"
      refine r_lent (SqT.of ht) ?_
      walk_at "rd"
      by_cases c : xs.length = 2
      case neg =>
        refine if_T (by simp; omega) ?_
        walk_at "rd"
        rw [isCallV_len c] at k
        exact k
      refine if_F (by simp; omega) ?_
      obtain ⟨x0, x1, rfl⟩ : ∃ x0 x1, xs = [x0, x1] := by
        match xs, c with
        | [a, b], _ => exact ⟨a, b, rfl⟩
        | [], c => exact absurd c (by decide)
        | [_], c => exact absurd c (by simp)
        | _ :: _ :: _ :: _, c => exact absurd c (by simp)
      obtain ⟨n0, kd0⟩ := hk x0 List.mem_cons_self
      obtain ⟨n1, kd1⟩ := hk x1 (List.mem_cons_of_mem _ List.mem_cons_self)
      have kn0 := S.kn kd0
      walk_at "rd"
      refine r_ixt (v := x0) (SqT.of ht) (atI0 rfl) ?_
      walk_at "rd"
      rcases kd0.strOr with ⟨y, rfl⟩ | ⟨ns, c0⟩
      · refine r_isi (b := true) (.str y) (by decide +kernel) ?_
        walk_at "rd"
        refine r_ixt (v := .str y) (SqT.of ht) (atI0 rfl) ?_
        walk_at "rd"
        have e : isCallV m.n (.ref t) (some [.str y, x1]) = (decide (y = "give") && inBnd 0 ((m.n : Int) - 1) x1) := rfl
        rw [e] at k
        refine if_d (fun d => ?_) (fun d => ?_)
        · walk_at "rd"
          refine r_ixt (v := x1) (SqT.of ht) (atI1 rfl) ?_
          walk_at "rd"
          refine ⟨L, p, m, x1, n1, rfl, S, hsl, kd1, ?_⟩
          rw [decide_eq_true d, Bool.true_and] at k
          exact k
        · rw [decide_eq_false d, Bool.false_and] at k
          exact k
      · rw [isCallV_ns ns] at k
        refine r_isi (b := false) kn0 c0 ?_
        walk_at "rd"
        exact k

def spIsDone (C : Addr) (K : PySem.W.Frag) (Tb : List (Addr × Str)) : Sp := fun vs H Q _ => ∃ (L : List R) (p : Addr) (m : SM) (v : V) (d : Deed), vs = [.ref p, v] ∧ Sep C K Tb H (.sl p m :: .dat v (dD d) :: L) ∧
  ((match d with | none => m.live.length < m.lim | some x => x ∈ m.ages) → ∀ H', Sep C K Tb H' (.sl p (match d with | none => m.take .non | some x => m.give x) :: .dat v (dD d) :: L) → Q (.bl true) H') ∧
  (¬ (match d with | none => m.live.length < m.lim | some x => x ∈ m.ages) → ∀ H', Sep C K Tb H' (.sl p m :: .dat v (dD d) :: L) → Q (.bl false) H')
theorem ok_is_done (T : Txt K mg) (TB : TBs T base) : FnOk P w K mg base CX0 6 T.f_is_done T.fd_is_done ["board", "call"] (spIsDone T.C_Slots K T.tabs) := by
  refine T.F_is_done.ok sc_is_done (fun vs H Q E h => ?_) (fun cdv A outer s H vs Q E hr h => ?_)
  · obtain ⟨L, p, m, v, d, rfl, _⟩ := h; rfl
  · obtain ⟨L, p, m, v, d, rfl, S, k1, k2⟩ := h
    refine ⟨_, (pss_cons (ps_if (pt_cmpR (eqK hr.units (K := K)) (pv 1 rfl vs_is_done_1) pe_str (nomark _)) (pss_cons (ps_if (pt_cmpR op_eq (pe_callB (c_lenOwn (ok_Slots___len__ T TB) (hr.mono (by decide)) T.mt_Slots___len__ T.b_Slots___len__ pass0) (by rfl) T.z_len (by decide +kernel) (pa_cons (pv 0 rfl vs_is_done_0) pa_nil)) (pe_fld (pv 0 rfl vs_is_done_0) rfl) (nomark _)) (pss_one (ps_ret pe_bl)) pss_nil)
  (pss_cons (ps_expr (pe_meth (pv 0 rfl vs_is_done_0) T.cl_Slots T.mt_Slots_take (ok_Slots_take T TB) (hr.mono (by decide)) T.b_Slots_take .nil pass0 (pa_cons pe_non pa_nil)))
  (pss_one (ps_ret pe_bl)))) pss_nil)
  (pss_cons (ps_set (i := 2) sc_is_done.nd rfl lc_is_done_2 (pe_call (ok_handle_of T TB) (hr.mono (by decide)) rfl T.m_handle_of T.F_handle_of.kp T.b_handle_of .nil pass0 (pa_cons (pv 0 rfl vs_is_done_0) (pa_cons (pe_ix (ixT (K := K)) (pv 1 rfl vs_is_done_1) pe_int (fun _ _ => rfl)) pa_nil))))
  (pss_cons (ps_if (pt_cmpR o_isN (pv 2 rfl vs_is_done_2) pe_non (nomark _)) (pss_one (ps_ret pe_bl)) pss_nil)
  (pss_cons (ps_expr (pe_meth (pv 0 rfl vs_is_done_0) T.cl_Slots T.mt_Slots_give (ok_Slots_give T TB) (hr.mono (by decide)) T.b_Slots_give .nil pass0 (pa_cons (pv 2 rfl vs_is_done_2) pa_nil)))
  (pss_one (ps_ret pe_bl)))))), ?_⟩
    have cl := T.cl_Slots
    have n2 := T.n_Slots_limit
    have ok := S.ok (p := p) (m := m) (by walk_at "mm")
    have hlv := ok.lv
    walk_at "go"
    walk_at "sd"
    refine s_eqD (b1 := true) (b2 := true) (d := dD d) (e := .str "take") S (.dat (by walk_at "mm")) (.str _) (dD_shaped d) take_shaped ?_
    rw [dD_take]
    walk_at "sd"
    cases d with
    | none =>
      refine if_T (by simp) ?_
      walk_at "sd"
      refine if_d (fun c => ?_) (fun c => ?_)
      · walk_at "sd"
        exact k2 (show ¬ m.live.length < m.lim by omega) _ S
      · have hl : m.live.length < m.lim := by omega
        walk_at "sd"
        refine u_take S (by walk_at "pk") hl fun tq H1 S1 => ?_
        walk_at "sd"
        exact k1 hl _ (S1.fit (by walk_at "ft"))
    | some x =>
      refine if_F (by simp) ?_
      obtain ⟨t, rfl, S0⟩ := S.deed (v := v) (k := x) (.dat (by walk_at "mm"))
      walk_at "sd"
      refine u_handleOf (p := p) (m := m) S0 (by walk_at "mm") (fun hx tq H1 S1 => ?_) (fun hx H1 S1 => ?_)
      · obtain ⟨w, hw⟩ : ∃ w, (x, w) ∈ m.live := by
          obtain ⟨q, h1, h2⟩ := List.mem_map.mp hx
          exact ⟨q.2, by rw [← h2]; exact h1⟩
        walk_at "sd"
        refine u_give (p := p) (m := m) w S1 (by walk_at "pk") (by walk_at "mm") rfl hw fun H2 S2 => ?_
        walk_at "sd"
        exact k1 hx _ (S2.fit (by walk_at "ft"))
      · walk_at "sd"
        exact k2 hx _ (S1.fit (by walk_at "ft"))

/-! ### items that are told to the judge -/
/-- whether an item is a call -/
def OddAt (L : List R) (n : Nat) (x : V) (b : Bool) : Prop := ∃ r, Odd L x r ∧ (∀ ys, r = some ys → ys.length ≤ 1000) ∧ isCallV n x r = b
theorem OddAt.up {L L' : List R} {n : Nat} {x : V} {b : Bool} (h : OddAt L n x b) (s : ∀ r ∈ L, r ∈ L') : OddAt L' n x b := let ⟨r, o, l, e⟩ := h; ⟨r, o.mono s, l, e⟩
/-- an item that is no call, and can be shown -/
def OddItem (L : List R) (n : Nat) (x : V) : Prop := OddAt L n x false ∧ ∃ d, Ev L x d ∧ ShE 310 d ∧ d.depth ≤ 13
def OddItem2 (L : List R) (n : Nat) (x : V) : Prop := OddAt L n x false ∧ ∃ d, Ev L x d ∧ ShE 700 d ∧ d.depth ≤ 15
theorem OddItem.two {L : List R} {n : Nat} {x : V} (h : OddItem L n x) : OddItem2 L n x := ⟨h.1, h.2.imp fun _ y => ⟨y.1, y.2.1.mono (by decide), by have := y.2.2; omega⟩⟩
theorem OddItem2.up {L L' : List R} {n : Nat} {x : V} (h : OddItem2 L n x) (s : ∀ r ∈ L, r ∈ L') : OddItem2 L' n x := ⟨h.1.up s, h.2.imp fun _ y => ⟨y.1.up s, y.2⟩⟩
/-- items: which are calls -/
def OddRow (L : List R) (n : Nat) (xs : List V) (bs : List Bool) : Prop := bs.length = xs.length ∧ ∀ (i : Nat) (x : V) (b : Bool), xs[i]? = some x → bs[i]? = some b → OddAt L n x b
theorem OddRow.up {L L' : List R} {n : Nat} {xs : List V} {bs : List Bool} (h : OddRow L n xs bs) (s : ∀ r ∈ L, r ∈ L') : OddRow L' n xs bs := ⟨h.1, fun i x b h1 h2 => (h.2 i x b h1 h2).up s⟩
theorem OddRow.app {L : List R} {n : Nat} {xs ys : List V} {bs cs : List Bool} (h : OddRow L n xs bs) (g : OddRow L n ys cs) : OddRow L n (xs ++ ys) (bs ++ cs) := by
  refine ⟨by simp [h.1, g.1], fun i x b h1 h2 => ?_⟩
  rw [List.getElem?_append] at h1 h2
  rw [h.1] at h2
  split at h1
  · rw [if_pos (by assumption)] at h2
    exact h.2 i x b h1 h2
  · rw [if_neg (by assumption)] at h2
    exact g.2 _ x b h1 h2
theorem OddRow.nil {L : List R} {n : Nat} : OddRow L n [] [] := ⟨rfl, fun i x b h => by simp at h⟩
theorem OddRow.one {L : List R} {n : Nat} {x : V} {b : Bool} (h : OddAt L n x b) : OddRow L n [x] [b] := ⟨rfl, fun i y c h1 h2 => by
  match i with
  | 0 => cases h1; cases h2; exact h
  | i + 1 => simp at h1⟩
/-- calls are items -/
theorem Sep.callRow {C : Addr} {K : PySem.W.Frag} {Tb : List (Addr × Str)} {H : Hp} {n : Nat} : ∀ (xs : List V) (ds : List Deed) {L : List R}, Sep C K Tb H (.dats xs (ds.map dD) :: L) → (∀ x, some x ∈ ds → x < n) → ∃ T, Sep C K Tb H (T ++ L) ∧ OddRow T n xs (ds.map fun _ => true)
  | [], [], L, S, _ => ⟨[], (S.fit (by walk_at "ft") : Sep C K Tb H L), .nil⟩
  | [], d :: ds, L, S, _ => by
    have := S.len (.dats List.mem_cons_self)
    simp at this
  | x :: xs, [], L, S, _ => by
    have := S.len (.dats List.mem_cons_self)
    simp at this
  | x :: xs, d :: ds, L, S, h => by
    have hx : Has true (R.dats (x :: xs) ((d :: ds).map dD) :: L) x (dD d) := .item (vs := x :: xs) (ds := (d :: ds).map dD) (i := 0) List.mem_cons_self rfl rfl
    cases d with
    | none =>
      obtain rfl := S.strD (x := "take") hx
      have S1 := S.datsD (.dats List.mem_cons_self) 1
      have S2 : Sep C K Tb H (.dats xs (ds.map dD) :: L) := S1.fit (rs := .dats ((V.str "take" :: xs).drop 1) (((none :: ds).map dD).drop 1) :: L) (by walk_at "ft")
      obtain ⟨T, ST, hT⟩ := Sep.callRow xs ds S2 fun x hx => h x (List.mem_cons_of_mem _ hx)
      exact ⟨T, ST, OddRow.app (OddRow.one ⟨none, .no (.str _) (by decide), fun _ z => (by cases z), by simp [isCallV]⟩) hT⟩
    | some y =>
      obtain ⟨t, rfl, S0⟩ := S.deed hx
      have S1 := S0.datsD (.dats (List.mem_cons_of_mem _ List.mem_cons_self)) 1
      have S2 : Sep C K Tb H (.dats xs (ds.map dD) :: .tup t [.str "give", .int (y : Int)] :: L) := S1.fit (rs := .dats ((V.ref t :: xs).drop 1) (((some y :: ds).map dD).drop 1) :: .tup t [.str "give", .int (y : Int)] :: L) (by walk_at "ft")
      obtain ⟨T, ST, hT⟩ := Sep.callRow xs ds S2 fun x hx => h x (List.mem_cons_of_mem _ hx)
      have hy := h y List.mem_cons_self
      refine ⟨T ++ [.tup t [.str "give", .int (y : Int)]], by rw [List.append_assoc]; exact ST, OddRow.app (OddRow.one ⟨some [.str "give", .int (y : Int)], .tup (List.mem_append_right _ List.mem_cons_self) (fun x hx => ?_), fun _ z => (by cases z; simp), ?_⟩) (hT.up fun r m => List.mem_append_left _ m)⟩
      · simp only [List.mem_cons, List.not_mem_nil, or_false] at hx
        rcases hx with rfl | rfl
        · exact ⟨_, .str _⟩
        · exact ⟨_, .int _⟩
      · show (decide (("give" : Str) = "give") && (decide ((0 : Int) ≤ (y : Int)) && decide ((y : Int) ≤ (n : Int) - 1))) = true
        simp; omega
theorem isCallV_give {n : Nat} {t : Addr} {y : Str} {w : V} (h : decide (y = "give") = false) : isCallV n (.ref t) (some [.str y, w]) = false := by
  show (decide (y = "give") && inBnd 0 ((n : Int) - 1) w) = false
  rw [h]; rfl
theorem isCallV_bnd {n : Nat} {t : Addr} {y : Str} {w : V} (h : inBnd 0 ((n : Int) - 1) w = false) : isCallV n (.ref t) (some [.str y, w]) = false := by
  show (decide (y = "give") && inBnd 0 ((n : Int) - 1) w) = false
  rw [h, Bool.and_false]
def spJudgeO (C : Addr) (K : PySem.W.Frag) (Tb : List (Addr × Str)) : Sp := fun vs H Q _ => ∃ (L : List R) (p : Addr) (m : SM) (s : Nat) (t : Int) (told : V), vs = [.ref p, .int (s : Int), .int t, told] ∧ Sep C K Tb H (.sl p m :: L) ∧ s < m.n ∧ 1 ≤ t ∧ t ≤ 1000000000000 ∧
  (told = .ref p ∨ (∃ n, Kd L told n ∧ (n == "list" || n == "tuple") = false) ∨ ∃ a xs bs, told = .ref a ∧ Row L a xs ∧ xs.length ≤ 1000000 ∧ OddRow L m.n xs bs ∧ bs.all id = false) ∧ ∀ H', Sep C K Tb H' (.sl p m :: L) → Q (.str "form") H'
/-- an own class is no list and no tuple -/
theorem kit_lt {K : PySem.W.Frag} {C : Addr} (h1 : PySem.W.subIn K (.ref C) (.type "list") = some false) (h2 : PySem.W.subIn K (.ref C) (.type "tuple") = some false) : PySem.W.kitAny K (.ref C) [.type "list", .type "tuple"] = some false := by
  have one : ∀ n : String, PySem.W.kitMeta n = true → PySem.W.subIn K (.ref C) (.type n) = some false → PySem.W.kitOne K (.ref C) (.type n) = some false := fun n m h => by
    unfold PySem.W.kitOne
    rw [if_neg (by simp)]
    unfold PySem.W.kitCls
    exact (if_pos m).trans h
  unfold PySem.W.kitAny
  rw [one "list" (by decide +kernel) h1]
  show PySem.W.kitAny K _ _ = _
  unfold PySem.W.kitAny
  rw [one "tuple" (by decide +kernel) h2]
  rfl


theorem ok_judge_plan (T : Txt K mg) (TB : TBs T base) : FnOk P w K mg base CX0 9 T.f_judge_plan T.fd_judge_plan ["slots", "slot", "times", "told"] (spJudgeO T.C_Slots K T.tabs) := by
  refine T.F_judge_plan.ok sc_judge_plan (fun vs H Q E h => ?_) (fun cdv A outer s H vs Q E hr h => ?_)
  · obtain ⟨L, p, m, s, t, told, rfl, _⟩ := h; rfl
  · obtain ⟨L, p, m, sn, t, told, rfl, S, hs, h0, h1, hw, k⟩ := h
    refine ⟨_, (pss_cons (ps_set (i := 4) sc_judge_plan.nd rfl lc_judge_plan_4 (pe_call (ok_least T TB) (hr.mono (by decide)) rfl T.m_least T.F_least.kp T.b_least .nil pass0 (pa_cons (pv 0 rfl vs_judge_plan_0) (pa_cons (pv 1 rfl vs_judge_plan_1) (pa_cons (pv 2 rfl vs_judge_plan_2) pa_nil)))))
  (pss_cons (ps_if (PW.pt (pw_or (pt_not (pt_val (pe_callB (isiTK (K := K)) (by rfl) T.z_isinstance (by decide +kernel) (pa_cons (pv 3 rfl vs_judge_plan_3) (pa_cons (pe_tup (pa_cons (pe_ty (n := "list") (by rfl) T.z_list (by decide +kernel)) (pa_cons (pe_ty (n := "tuple") (by rfl) T.z_tuple (by decide +kernel)) pa_nil))) pa_nil))))) (pw_or1 (pt_not (pt_val (pe_callB (allK rfl (K := K)) (by rfl) T.z_all (by decide +kernel) (pa_cons (pe_lc (own := [("call", 5)]) (g := gName 5) rfl sc_judge_plan.nd (pi_seq (pv 3 rfl vs_judge_plan_3)) (blkOk_by (own := [("call", 5)]) (N := ["slots", "slot", "times", "told", "number", "call", "board"]) (sc := defScope s_judge_plan) (by decide +kernel)) (fun _ _ _ _ _ => (pg_name (i := 5) sc_judge_plan.nd rfl (Or.inl rfl))) (fun _ _ _ _ _ => pts_nil) (fun _ _ _ _ _ => (pe_call (ok_is_call T TB) (hr.mono (by decide)) rfl T.m_is_call T.F_is_call.kp T.b_is_call .nil pass0 (pa_cons (pv 0) (pa_cons (pv 5) pa_nil))))) pa_nil))))))) (pss_one (ps_ret pe_str)) pss_nil)
  (pss_cons (ps_set (i := 6) sc_judge_plan.nd rfl lc_judge_plan_6 (pe_meth0 (pv 0 rfl vs_judge_plan_0) T.cl_Slots T.mt_Slots_copy (ok_Slots_copy T TB) (hr.mono (by decide)) T.b_Slots_copy .nil pass0))
  (pss_cons (ps_for PassesOwn.never rfl (pi_seq (pv 3 rfl vs_judge_plan_3)) (pg_name (i := 5) sc_judge_plan.nd rfl lc_judge_plan_5) (pss_one (ps_if (pt_not (pt_val (pe_call (ok_is_done T TB) (hr.mono (by decide)) rfl T.m_is_done T.F_is_done.kp T.b_is_done .nil pass0 (pa_cons (pv 6 rfl vs_judge_plan_6) (pa_cons (pv 5 rfl vs_judge_plan_5) pa_nil))))) (pss_one (ps_ret pe_str)) pss_nil)))
  (pss_cons (ps_if (pt_cmpR op_ne (pe_op op_sub (pe_ix (ixL (K := K)) (pe_meth0 (pv 6 rfl vs_judge_plan_6) T.cl_Slots T.mt_Slots_counts (ok_Slots_counts T TB) (hr.mono (by decide)) T.b_Slots_counts .nil pass0) (pv 1 rfl vs_judge_plan_1) (fun _ _ => rfl)) (pe_ix (ixL (K := K)) (pe_meth0 (pv 0 rfl vs_judge_plan_0) T.cl_Slots T.mt_Slots_counts (ok_Slots_counts T TB) (hr.mono (by decide)) T.b_Slots_counts .nil pass0) (pv 1 rfl vs_judge_plan_1) (fun _ _ => rfl))) (pv 2 rfl vs_judge_plan_2) (nomark _)) (pss_one (ps_ret pe_str)) pss_nil)
  (pss_cons (ps_if (PW.pt (pw_or (pt_cmpR (neK hr.units (K := K)) (pe_ix (ixS (K := K)) (pv 3 rfl vs_judge_plan_3) (pe_un un_neg pe_int) (fun _ _ => rfl)) pe_str (nomark _)) (pw_or1 (pt_cmpR op_ne (pe_ix (ixT (K := K)) (pe_ix (ixL (K := K)) (pe_meth0 (pv 6 rfl vs_judge_plan_6) T.cl_Slots T.mt_Slots_live (ok_Slots_live T TB) (hr.mono (by decide)) T.b_Slots_live .nil pass0) (pe_un un_neg pe_int) (fun _ _ => rfl)) pe_int (fun _ _ => rfl)) (pv 1 rfl vs_judge_plan_1) (nomark _))))) (pss_one (ps_ret pe_str)) pss_nil)
  (pss_one (ps_ret (pe_ifExp (pt_cmpR op_eq (pe_bm PySem.F.plainAttrs_list PySem.F.slot_list_count PySem.F.type_list_count (cntD (hu65 hr) (K := K)) (pe_callTy (c_list (K := K)) (by rfl) T.z_list (by decide +kernel) (pa_cons (pv 3 rfl vs_judge_plan_3) pa_nil)) (pa_cons pe_str pa_nil)) (pv 4 rfl vs_judge_plan_4) (nomark _)) pe_str pe_str))))))))), ?_⟩
    have cl := T.cl_Slots
    have n1 := T.n_Slots_n
    walk_at "go"
    walk_at "sd"
    refine u_least4 S (by walk_at "pk") hs h0 h1 fun H1 S1 => ?_
    rw [least4_L4]
    walk_at "sd"
    rename_i tp H2 S2
    rcases hw with rfl | ⟨nk, kd, enk⟩ | ⟨a, xs, bs, rfl, hrow, hlen, hodd, hall⟩
    · obtain ⟨F, f⟩ := S2.slot (p := p) (m := m) (by walk_at "mm")
      obtain ⟨dx, lo, la, lt, lh, x, g⟩ := id f
      refine ⟨.ref p, tp, [.ty "list", .ty "tuple"], .ref T.C_Slots, [.type "list", .type "tuple"], false, rfl, S2.getT (by walk_at "mm"), .cons (.ty _) (.cons (.ty _) .nil), T.it_Slots.ty cl x.ins, T.lt_Slots, ?_⟩
      walk_at "sd"
      exact k _ (S2.fit (by walk_at "ft"))
    · have kn : Kn K H2 told nk := S2.kn (kd.mono fun r m => List.mem_cons_of_mem _ (List.mem_cons_of_mem _ m))
      refine r_isiLT (S2.getT (by walk_at "mm")) kn ?_
      rw [enk]
      walk_at "sd"
      exact k _ (S2.fit (by walk_at "ft"))
    · have hrow2 : Row (R.tup tp [.ty "list", .ty "tuple"] :: .sl p m :: L) a xs := hrow.cons.cons
      have kn : ∃ n, Kn K H2 (.ref a) n ∧ (n == "list" || n == "tuple") = true := by
        rcases hrow2 with h | h
        · exact ⟨"list", .lst (S2.get h), by decide⟩
        · exact ⟨"tuple", .tup (S2.getT h), by decide⟩
      obtain ⟨nk, kn, enk⟩ := kn
      refine r_isiLT (S2.getT (by walk_at "mm")) kn ?_
      rw [enk]
      walk_at "sd"
      refine s_lcS rfl bs S2 hrow2 hodd.1.symm (by rw [hodd.1]; exact hlen) (fun _ => true) (fun b => V.bl b) (fun D H' i x z acc N hx hz hacc S' k1 _ => ?_) (fun qa H3 S3 => ?_)
      · walk_at "sd"
        obtain ⟨r, o, l, e⟩ := (hodd.2 i x z hx hz).up (L' := R.cell D (.lst acc) :: R.tup tp [.ty "list", .ty "tuple"] :: .sl p m :: L) fun r m => List.mem_cons_of_mem _ (List.mem_cons_of_mem _ (List.mem_cons_of_mem _ m))
        refine ⟨_, p, m, x, r, rfl, S', by walk_at "mm", o, l, ?_⟩
        rw [e]
        exact s_keep S' (by walk_at "pk") (by walk_at "ft") hacc fun H'' S3x => k1 rfl H'' S3x
      · walk_at "sd"
        have ebl : (bs.filter fun _ => true).map (fun b => V.bl b) = bs.map V.bl := by
          rw [List.filter_eq_self.mpr (fun _ _ => rfl)]
        rw [ebl] at S3
        refine ⟨qa, bs, rfl, SqL.of (S3.get (o := .lst (bs.map V.bl)) (by walk_at "mm")), ?_⟩
        rw [hall]
        walk_at "sd"
        exact k _ (S3.fit (by walk_at "ft"))


def spJudgeX (C CS CT : Addr) (K : PySem.W.Frag) (Tb : List (Addr × Str)) : Sp := fun vs H _ E => ∃ (L : List R) (p : Addr) (m : SM) (v u : V), vs = [.ref p, v, u, .non] ∧ Sep C K Tb H L ∧ R.sl p m ∈ L ∧
  BadQ CS CT L m v u fun C' f x => ∀ (d : Addr) (H' : Hp), Sep C K Tb H' (.cell d (.xd [(f, x)]) :: L) → E (.ref C') (some d) H'
theorem okX_judge_plan (T : Txt K mg) (TB : TBs T base) : FnOk P w K mg base (L2.CX P w) 9 T.f_judge_plan T.fd_judge_plan ["slots", "slot", "times", "told"] (spJudgeX T.C_Slots T.C_NoSlot T.C_NoTimes K T.tabs) := by
  refine T.F_judge_plan.okX sc_judge_plan (fun vs H Q E h => ?_) (fun cdv A outer s H vs Q E hr h => ?_)
  · obtain ⟨L, p, m, v, u, rfl, _⟩ := h; rfl
  · obtain ⟨L, p, m, v, u, rfl, S, hsl, hq⟩ := h
    refine ⟨_, (pss_cons (ps_set (i := 4) sc_judge_plan.nd rfl lc_judge_plan_4 (pe_call (okB_least T TB) (hr.mono (by decide)) rfl T.m_least T.F_least.kp T.b_least .nil passX (pa_cons (pv 0 rfl vs_judge_plan_0) (pa_cons (pv 1 rfl vs_judge_plan_1) (pa_cons (pv 2 rfl vs_judge_plan_2) pa_nil)))))
  (pss_cons (ps_if (PW.pt (pw_or (pt_not (pt_val (pe_callB (isiTK (K := K)) (by rfl) T.z_isinstance (by decide +kernel) (pa_cons (pv 3 rfl vs_judge_plan_3) (pa_cons (pe_tup (pa_cons (pe_ty (n := "list") (by rfl) T.z_list (by decide +kernel)) (pa_cons (pe_ty (n := "tuple") (by rfl) T.z_tuple (by decide +kernel)) pa_nil))) pa_nil))))) (pw_or1 (pt_not (pt_val (pe_callB (allK rfl (K := K)) (by rfl) T.z_all (by decide +kernel) (pa_cons (pe_lc (own := [("call", 5)]) (g := gName 5) rfl sc_judge_plan.nd (pi_seq (pv 3 rfl vs_judge_plan_3)) (blkOk_by (own := [("call", 5)]) (N := ["slots", "slot", "times", "told", "number", "call", "board"]) (sc := defScope s_judge_plan) (by decide +kernel)) (fun _ _ _ _ _ => (pg_name (i := 5) sc_judge_plan.nd rfl (Or.inl rfl))) (fun _ _ _ _ _ => pts_nil) (fun _ _ _ _ _ => (pe_call (ok_is_call T TB) (hr.mono (by decide)) rfl T.m_is_call T.F_is_call.kp T.b_is_call .nil pass0 (pa_cons (pv 0) (pa_cons (pv 5) pa_nil))))) pa_nil))))))) (pss_one (ps_ret pe_str)) pss_nil)
  (pss_cons (ps_set (i := 6) sc_judge_plan.nd rfl lc_judge_plan_6 (pe_meth0 (pv 0 rfl vs_judge_plan_0) T.cl_Slots T.mt_Slots_copy (ok_Slots_copy T TB) (hr.mono (by decide)) T.b_Slots_copy .nil pass0))
  (pss_cons (ps_for (passes_of rfl) rfl (pi_seq (pv 3 rfl vs_judge_plan_3)) (pg_name (i := 5) sc_judge_plan.nd rfl lc_judge_plan_5) (pss_one (ps_if (pt_not (pt_val (pe_call (ok_is_done T TB) (hr.mono (by decide)) rfl T.m_is_done T.F_is_done.kp T.b_is_done .nil pass0 (pa_cons (pv 6 rfl vs_judge_plan_6) (pa_cons (pv 5 rfl vs_judge_plan_5) pa_nil))))) (pss_one (ps_ret pe_str)) pss_nil)))
  (pss_cons (ps_if (pt_cmpR op_ne (pe_op op_sub (pe_ix (ixL (K := K)) (pe_meth0 (pv 6 rfl vs_judge_plan_6) T.cl_Slots T.mt_Slots_counts (ok_Slots_counts T TB) (hr.mono (by decide)) T.b_Slots_counts .nil pass0) (pv 1 rfl vs_judge_plan_1) (fun _ _ => rfl)) (pe_ix (ixL (K := K)) (pe_meth0 (pv 0 rfl vs_judge_plan_0) T.cl_Slots T.mt_Slots_counts (ok_Slots_counts T TB) (hr.mono (by decide)) T.b_Slots_counts .nil pass0) (pv 1 rfl vs_judge_plan_1) (fun _ _ => rfl))) (pv 2 rfl vs_judge_plan_2) (nomark _)) (pss_one (ps_ret pe_str)) pss_nil)
  (pss_cons (ps_if (PW.pt (pw_or (pt_cmpR (neK hr.units (K := K)) (pe_ix (ixS (K := K)) (pv 3 rfl vs_judge_plan_3) (pe_un un_neg pe_int) (fun _ _ => rfl)) pe_str (nomark _)) (pw_or1 (pt_cmpR op_ne (pe_ix (ixT (K := K)) (pe_ix (ixL (K := K)) (pe_meth0 (pv 6 rfl vs_judge_plan_6) T.cl_Slots T.mt_Slots_live (ok_Slots_live T TB) (hr.mono (by decide)) T.b_Slots_live .nil pass0) (pe_un un_neg pe_int) (fun _ _ => rfl)) pe_int (fun _ _ => rfl)) (pv 1 rfl vs_judge_plan_1) (nomark _))))) (pss_one (ps_ret pe_str)) pss_nil)
  (pss_one (ps_ret (pe_ifExp (pt_cmpR op_eq (pe_bm PySem.F.plainAttrs_list PySem.F.slot_list_count PySem.F.type_list_count (cntD (hu65 hr) (K := K)) (pe_callTy (c_list (K := K)) (by rfl) T.z_list (by decide +kernel) (pa_cons (pv 3 rfl vs_judge_plan_3) pa_nil)) (pa_cons pe_str pa_nil)) (pv 4 rfl vs_judge_plan_4) (nomark _)) pe_str pe_str))))))))), ?_⟩
    walk_at "go"
    walk_at "sd"
    exact .inr ⟨L, p, m, v, u, rfl, S, hsl, hq⟩

theorem okB_judge_plan (T : Txt K mg) (TB : TBs T base) : FnOk P w K mg base (L2.CX P w) 9 T.f_judge_plan T.fd_judge_plan ["slots", "slot", "times", "told"] (orSp (spJudgeO T.C_Slots K T.tabs) (spJudgeX T.C_Slots T.C_NoSlot T.C_NoTimes K T.tabs)) := orF (liftF (ok_judge_plan T TB)) (okX_judge_plan T TB)

def spAsked (C : Addr) (K : PySem.W.Frag) (Tb : List (Addr × Str)) : Sp := fun vs H Q _ => ∃ (L : List R) (p : Addr) (m : SM) (s : Nat) (t : Int), vs = [.str "least", .ref p, .int (s : Int), .int t] ∧ Sep C K Tb H (.sl p m :: L) ∧ s < m.n ∧ 1 ≤ t ∧ t ≤ 1000000000000 ∧ ∀ v H', Sep C K Tb H' (.sl p m :: L) → Q v H'
def spAskedX (C CS CT : Addr) (K : PySem.W.Frag) (Tb : List (Addr × Str)) : Sp := fun vs H _ E => ∃ (L : List R) (w : Str) (p : Addr) (m : SM) (v u : V), vs = [.str w, .ref p, v, u] ∧ (w = "least" ∨ w = "plan" ∨ w = "judge") ∧ Sep C K Tb H L ∧ R.sl p m ∈ L ∧
  BadQ CS CT L m v u fun C' f x => ∀ (d : Addr) (H' : Hp), Sep C K Tb H' (.cell d (.xd [(f, x)]) :: L) → E (.ref C') (some d) H'
theorem ok__law_asked (T : Txt K mg) (TB : TBs T base) : FnOk P w K mg base CX0 10 T.f__law_asked T.fd__law_asked ["_law_word", "_law_slots", "_law_slot", "_law_times"] (spAsked T.C_Slots K T.tabs) := by
  refine T.F__law_asked.ok sc__law_asked (fun vs H Q E h => ?_) (fun cdv A outer s H vs Q E hr h => ?_)
  · obtain ⟨L, p, m, s, t, rfl, _⟩ := h; rfl
  · obtain ⟨L, p, m, s, t, rfl, S, hs, h0, h1, k⟩ := h
    refine ⟨_, (pss_cons (ps_if (pt_cmpR op_eq (pv 0 rfl vs__law_asked_0) pe_str (nomark _)) (pss_one (ps_ret (pe_call (ok_least T TB) (hr.mono (by decide)) rfl T.m_least T.F_least.kp T.b_least .nil pass0 (pa_cons (pv 1 rfl vs__law_asked_1) (pa_cons (pv 2 rfl vs__law_asked_2) (pa_cons (pv 3 rfl vs__law_asked_3) pa_nil)))))) pss_nil)
  (pss_cons (ps_if (pt_cmpR op_eq (pv 0 rfl vs__law_asked_0) pe_str (nomark _)) (pss_one (ps_ret (pe_call (ok_plan T TB) (hr.mono (by decide)) rfl T.m_plan T.F_plan.kp T.b_plan .nil pass0 (pa_cons (pv 1 rfl vs__law_asked_1) (pa_cons (pv 2 rfl vs__law_asked_2) (pa_cons (pv 3 rfl vs__law_asked_3) pa_nil)))))) pss_nil)
  (pss_one (ps_ret (pe_call (ok_judge_plan T TB) (hr.mono (by decide)) rfl T.m_judge_plan T.F_judge_plan.kp T.b_judge_plan .nil pass0 (pa_cons (pv 1 rfl vs__law_asked_1) (pa_cons (pv 2 rfl vs__law_asked_2) (pa_cons (pv 3 rfl vs__law_asked_3) (pa_cons pe_non pa_nil))))))))), ?_⟩
    walk_at "go"
    walk_at "sd"
    refine if_T (by simp) ?_
    walk_at "sd"
    exact ⟨L, p, m, s, t, rfl, S, hs, h0, h1, fun H' S' => k _ _ S'⟩
theorem okX__law_asked (T : Txt K mg) (TB : TBs T base) : FnOk P w K mg base (L2.CX P w) 10 T.f__law_asked T.fd__law_asked ["_law_word", "_law_slots", "_law_slot", "_law_times"] (spAskedX T.C_Slots T.C_NoSlot T.C_NoTimes K T.tabs) := by
  refine T.F__law_asked.okX sc__law_asked (fun vs H Q E h => ?_) (fun cdv A outer s H vs Q E hr h => ?_)
  · obtain ⟨L, w, p, m, v, u, rfl, _⟩ := h; rfl
  · obtain ⟨L, w, p, m, v, u, rfl, hw, S, hsl, hq⟩ := h
    refine ⟨_, (pss_cons (ps_if (pt_cmpR op_eq (pv 0 rfl vs__law_asked_0) pe_str (nomark _)) (pss_one (ps_ret (pe_call (okB_least T TB) (hr.mono (by decide)) rfl T.m_least T.F_least.kp T.b_least .nil passX (pa_cons (pv 1 rfl vs__law_asked_1) (pa_cons (pv 2 rfl vs__law_asked_2) (pa_cons (pv 3 rfl vs__law_asked_3) pa_nil)))))) pss_nil)
  (pss_cons (ps_if (pt_cmpR op_eq (pv 0 rfl vs__law_asked_0) pe_str (nomark _)) (pss_one (ps_ret (pe_call (okB_plan T TB) (hr.mono (by decide)) rfl T.m_plan T.F_plan.kp T.b_plan .nil passX (pa_cons (pv 1 rfl vs__law_asked_1) (pa_cons (pv 2 rfl vs__law_asked_2) (pa_cons (pv 3 rfl vs__law_asked_3) pa_nil)))))) pss_nil)
  (pss_one (ps_ret (pe_call (okB_judge_plan T TB) (hr.mono (by decide)) rfl T.m_judge_plan T.F_judge_plan.kp T.b_judge_plan .nil passX (pa_cons (pv 1 rfl vs__law_asked_1) (pa_cons (pv 2 rfl vs__law_asked_2) (pa_cons (pv 3 rfl vs__law_asked_3) (pa_cons pe_non pa_nil))))))))), ?_⟩
    walk_at "go"
    walk_at "sd"
    rcases hw with rfl | rfl | rfl
    · refine if_T (by simp) ?_
      walk_at "sd"
      exact .inr ⟨L, p, m, v, u, rfl, S, hsl, hq⟩
    · refine if_F (by decide +kernel) ?_
      walk_at "sd"
      refine if_T (by simp) ?_
      walk_at "sd"
      exact .inr ⟨L, p, m, v, u, rfl, S, hsl, hq⟩
    · refine if_F (by decide +kernel) ?_
      walk_at "sd"
      refine if_F (by decide +kernel) ?_
      walk_at "sd"
      exact .inr ⟨L, p, m, v, u, rfl, S, hsl, hq⟩

theorem okB__law_asked (T : Txt K mg) (TB : TBs T base) : FnOk P w K mg base (L2.CX P w) 10 T.f__law_asked T.fd__law_asked ["_law_word", "_law_slots", "_law_slot", "_law_times"] (orSp (spAsked T.C_Slots K T.tabs) (spAskedX T.C_Slots T.C_NoSlot T.C_NoTimes K T.tabs)) := orF (liftF (ok__law_asked T TB)) (okX__law_asked T TB)

theorem pick_ex {r : R} : ∀ {L : List R}, r ∈ L → ∃ L', Pick r L L'
  | x :: L, h => by
    rcases List.mem_cons.mp h with rfl | h
    · exact ⟨_, .here⟩
    · obtain ⟨L', p⟩ := pick_ex h
      exact ⟨_, .there p⟩
theorem pick_back {r : R} {L L' : List R} (p : Pick r L L') : Fit L (r :: L') := by
  induction p with
  | here => exact .refl
  | there _ ih => exact .pick (.there .here) ih
def spSaid (C CS CT : Addr) (K : PySem.W.Frag) (Tb : List (Addr × Str)) : Sp := fun vs H Q _ => ∃ (L : List R) (w : Str) (p : Addr) (m : SM) (v u : V), vs = [.str w, .ref p, v, u] ∧ Sep C K Tb H L ∧ R.sl p m ∈ L ∧
  (((w = "least" ∨ w = "plan" ∨ w = "judge") ∧ BadQ CS CT L m v u fun _ f x => ∃ d, Ev L x d ∧ ShE 700 d ∧ ∀ (q : Addr) (H' : Hp), Sep C K Tb H' (.tup q [.str f, .str d.shown] :: L) → Q (.ref q) H') ∨
   ∃ (s : Nat) (t : Int), w = "least" ∧ v = .int (s : Int) ∧ u = .int t ∧ s < m.n ∧ 1 ≤ t ∧ t ≤ 1000000000000 ∧ ∀ H' : Hp, Sep C K Tb H' L → Q .non H')
theorem ok__law_said (T : Txt K mg) (TB : TBs T base) : FnG P w K mg base CX0 11 T.f__law_said T.fd__law_said ["_law_word", "_law_slots", "_law_slot", "_law_times"] (spSaid T.C_Slots T.C_NoSlot T.C_NoTimes K T.tabs) := by
  refine T.F__law_said.okG sc__law_said (fun vs H Q E h => ?_) (fun cdv A outer s H vs Q E hgd hr h => ?_)
  · obtain ⟨L, w, p, m, v, u, rfl, _⟩ := h; rfl
  · obtain ⟨L, w, p, m, v, u, rfl, S, hsl, hq⟩ := h
    refine ⟨_, (pss_cons (ps_try_as (i := 4) rfl rfl sc__law_said.nd rfl rfl ⟨rfl, by decide, .inl T.g_SlotError⟩ takes0 (fun W pn xe tk _ => (pss_one (ps_expr (pe_callS (okB__law_asked T TB) (hr.mono (by decide)) rfl T.m__law_asked T.F__law_asked.kp T.b__law_asked (fun σ => passAt tk σ) (pa_cons (pv 0 rfl vs__law_said_0) (pa_cons (pv 1 rfl vs__law_said_1) (pa_cons (pv 2 rfl vs__law_said_2) (pa_cons (pv 3 rfl vs__law_said_3) pa_nil)))))))) (fun a oe cls d pn hz hf => (pss_cons (ps_set (i := 5) sc__law_said.nd rfl lc__law_said_5 (pe_lst (pa_cons (pe_callB (isX hz hf (K := K)) (by rfl) T.z_isinstance (by decide +kernel) (pa_cons (pv 4 rfl vs__law_said_4) (pa_cons (pe_glob (v := .ref T.C_NoSlot) rfl T.g_NoSlot rfl) pa_nil))) (pa_cons (pe_callB (isX hz hf (K := K)) (by rfl) T.z_isinstance (by decide +kernel) (pa_cons (pv 4 rfl vs__law_said_4) (pa_cons (pe_glob (v := .ref T.C_NoTimes) rfl T.g_NoTimes rfl) pa_nil))) (pa_cons (pe_callB (isX hz hf (K := K)) (by rfl) T.z_isinstance (by decide +kernel) (pa_cons (pv 4 rfl vs__law_said_4) (pa_cons (pe_tup (pa_cons (pe_glob (v := .ref T.C_NoHandle) rfl T.g_NoHandle rfl) (pa_cons (pe_glob (v := .ref T.C_Never) rfl T.g_Never rfl) (pa_cons (pe_glob (v := .ref T.C_TooLong) rfl T.g_TooLong rfl) pa_nil)))) pa_nil))) pa_nil)))))
  (pss_cons (ps_if (pt_not (pt_val (pe_callB (isX hz hf (K := K)) (by rfl) T.z_isinstance (by decide +kernel) (pa_cons (pv 4 rfl vs__law_said_4) (pa_cons (pe_ty (n := "ValueError") (by rfl) T.z_ValueError (by decide +kernel)) pa_nil))))) (pss_one (ps_ret pe_str)) pss_nil)
  (pss_cons (ps_if (pt_cmpR (eqK hr.units (K := K)) (pv 5 rfl vs__law_said_5) (pe_lst (pa_cons pe_bl (pa_cons pe_bl (pa_cons pe_bl pa_nil)))) (nomark _)) (pss_one (ps_ret (pe_tup (pa_cons pe_str (pa_cons (pe_callB (reprS hgd (hu70 hr) (K := K)) (by rfl) T.z_repr (by decide +kernel) (pa_cons (pe_xf T.x_NoSlot.xf T.x_NoSlot.no hz hf (pv 4 rfl vs__law_said_4)) pa_nil)) pa_nil))))) pss_nil)
  (pss_one (ps_ret (pe_ifExp (pt_cmpR (eqK hr.units (K := K)) (pv 5 rfl vs__law_said_5) (pe_lst (pa_cons pe_bl (pa_cons pe_bl (pa_cons pe_bl pa_nil)))) (nomark _)) (pe_tup (pa_cons pe_str (pa_cons (pe_callB (reprS hgd (hu70 hr) (K := K)) (by rfl) T.z_repr (by decide +kernel) (pa_cons (pe_xf T.x_NoTimes.xf T.x_NoTimes.no hz hf (pv 4 rfl vs__law_said_4)) pa_nil)) pa_nil))) pe_str))))))))
  (pss_one (ps_ret pe_non))), ?_⟩
    walk_at "go"
    walk_at "sd"
    refine r_callS ?_
    walk_at "sd"
    rcases hq with ⟨hw, ⟨kd, hin, d, ev, sh, k⟩ | ⟨sn, rfl, hs, kd, hin, d, ev, sh, k⟩⟩ | ⟨sn, t, rfl, rfl, rfl, hs, h0, h1, k⟩
    · refine .inr ⟨L, w, p, m, v, u, rfl, hw, S, hsl, .inl ⟨kd, hin, fun dd H1 S1 => ?_⟩⟩
      refine w_as (T.x_SlotError.exm T.sb_NoSlot_SlotError) fun a na => ?_
      walk_at "sd"
      refine r_isX1 T.is_NoSlot (S1.get (o := .xd [("slot", v)]) (by walk_at "mm")) (T.x_NoSlot.toXCls.yes T.sb_NoSlot_NoSlot) ?_
      walk_at "sd"
      refine r_isX1 T.is_NoSlot (S1.get (o := .xd [("slot", v)]) (by walk_at "mm")) (T.x_NoTimes.toXCls.no T.sb_NoSlot_NoSlot T.sb_NoSlot_NoTimes) ?_
      walk_at "sd"
      rename_i tt H2 S2
      refine r_isXT (C1 := 0) (fs := [("slot", v)]) (cs := [.ref T.C_NoHandle, .ref T.C_Never, .ref T.C_TooLong]) (us := [.ref T.C_NoHandle, .ref T.C_Never, .ref T.C_TooLong]) (b := false) T.is_NoSlot (S2.get (by walk_at "mm")) (S2.getT (by walk_at "mm")) (.cons (.own _) (.cons (.own _) (.cons (.own _) .nil))) (any_no (T.x_NoHandle.no T.sb_NoSlot_NoSlot T.sb_NoSlot_NoHandle) (any_no (T.x_Never.toXCls.no T.sb_NoSlot_NoSlot T.sb_NoSlot_Never) (any_no (T.x_TooLong.toXCls.no T.sb_NoSlot_NoSlot T.sb_NoSlot_TooLong) rfl))) ?_
      walk_at "sd"
      rename_i lm H3 S3
      refine r_isX1t T.is_NoSlot (S3.get (o := .xd [("slot", v)]) (by walk_at "mm")) (kitOne_ty (by decide +kernel) T.ve_NoSlot) ?_
      walk_at "sd"
      rename_i l2 H4 S4
      refine s_eqD (b1 := false) (b2 := false) (d := .list [.bool true, .bool false, .bool false]) (e := .list [.bool true, .bool false, .bool false]) S4 (.lst rfl (xs := [.bl true, .bl false, .bl false]) (by walk_at "mm") (.cons (.bl _) (.cons (.bl _) (.cons (.bl _) .nil)))) (.lst rfl (xs := [.bl true, .bl false, .bl false]) (by walk_at "mm") (.cons (.bl _) (.cons (.bl _) (.cons (.bl _) .nil)))) rfl rfl ?_
      walk_at "sd"
      refine if_T (by decide +kernel) ?_
      walk_at "sd"
      refine r_xf (fs := []) (v := .non) ?_
      walk_at "sd"
      refine ⟨rfl, rfl, dd, [("slot", v)], v, rfl, S4.get (by walk_at "mm"), rfl, ?_⟩
      walk_at "sd"
      refine s_reprE S4 (ev.up fun r h => by simp [h]) sh (by decide) ?_
      walk_at "sd"
      rename_i q5 H5 S5
      exact k _ _ (S5.fit (by walk_at "ft"))
    · refine .inr ⟨L, w, p, m, .int (sn : Int), u, rfl, hw, S, hsl, .inr ⟨sn, rfl, hs, kd, hin, fun dd H1 S1 => ?_⟩⟩
      refine w_as (T.x_SlotError.exm T.sb_NoTimes_SlotError) fun a na => ?_
      walk_at "sd"
      refine r_isX1 T.is_NoTimes (S1.get (o := .xd [("times", u)]) (by walk_at "mm")) (T.x_NoSlot.toXCls.no T.sb_NoTimes_NoTimes T.sb_NoTimes_NoSlot) ?_
      walk_at "sd"
      refine r_isX1 T.is_NoTimes (S1.get (o := .xd [("times", u)]) (by walk_at "mm")) (T.x_NoTimes.toXCls.yes T.sb_NoTimes_NoTimes) ?_
      walk_at "sd"
      rename_i tt H2 S2
      refine r_isXT (C1 := 0) (fs := [("times", u)]) (cs := [.ref T.C_NoHandle, .ref T.C_Never, .ref T.C_TooLong]) (us := [.ref T.C_NoHandle, .ref T.C_Never, .ref T.C_TooLong]) (b := false) T.is_NoTimes (S2.get (by walk_at "mm")) (S2.getT (by walk_at "mm")) (.cons (.own _) (.cons (.own _) (.cons (.own _) .nil))) (any_no (T.x_NoHandle.no T.sb_NoTimes_NoTimes T.sb_NoTimes_NoHandle) (any_no (T.x_Never.toXCls.no T.sb_NoTimes_NoTimes T.sb_NoTimes_Never) (any_no (T.x_TooLong.toXCls.no T.sb_NoTimes_NoTimes T.sb_NoTimes_TooLong) rfl))) ?_
      walk_at "sd"
      rename_i lm H3 S3
      refine r_isX1t T.is_NoTimes (S3.get (o := .xd [("times", u)]) (by walk_at "mm")) (kitOne_ty (by decide +kernel) T.ve_NoTimes) ?_
      walk_at "sd"
      rename_i l2 H4 S4
      refine s_eqD (b1 := false) (b2 := false) (d := .list [.bool false, .bool true, .bool false]) (e := .list [.bool true, .bool false, .bool false]) S4 (.lst rfl (xs := [.bl false, .bl true, .bl false]) (by walk_at "mm") (.cons (.bl _) (.cons (.bl _) (.cons (.bl _) .nil)))) (.lst rfl (xs := [.bl true, .bl false, .bl false]) (by walk_at "mm") (.cons (.bl _) (.cons (.bl _) (.cons (.bl _) .nil)))) rfl rfl ?_
      walk_at "sd"
      refine if_F (by decide +kernel) ?_
      walk_at "sd"
      rename_i l3 H5 S5
      refine s_eqD (b1 := false) (b2 := false) (d := .list [.bool false, .bool true, .bool false]) (e := .list [.bool false, .bool true, .bool false]) S5 (.lst rfl (xs := [.bl false, .bl true, .bl false]) (by walk_at "mm") (.cons (.bl _) (.cons (.bl _) (.cons (.bl _) .nil)))) (.lst rfl (xs := [.bl false, .bl true, .bl false]) (by walk_at "mm") (.cons (.bl _) (.cons (.bl _) (.cons (.bl _) .nil)))) rfl rfl ?_
      walk_at "sd"
      refine if_T (by decide +kernel) ?_
      walk_at "sd"
      refine r_xf (fs := []) (v := .non) ?_
      walk_at "sd"
      refine ⟨rfl, rfl, dd, [("times", u)], u, rfl, S5.get (by walk_at "mm"), rfl, ?_⟩
      walk_at "sd"
      refine s_reprE S5 (ev.up fun r h => by simp [h]) sh (by decide) ?_
      walk_at "sd"
      rename_i q5 H6 S6
      exact k _ _ (S6.fit (by walk_at "ft"))
    · obtain ⟨L', pk⟩ := pick_ex hsl
      refine .inl ⟨L', p, m, sn, t, rfl, S.fit (.pick pk .refl), hs, h0, h1, fun v H1 S1 => ?_⟩
      walk_at "sd"
      exact k _ (S1.fit (pick_back pk))

local macro_rules | `(tactic| walk_at "odd_sh") => `(tactic| (repeat (first | exact (List.forall_mem_nil _) | refine List.forall_mem_cons.mpr ⟨by first | assumption | (constructor <;> decide +kernel), ?_⟩)))
local macro_rules | `(tactic| walk_at "odd_no") => `(tactic| first | rfl | (simp [inBnd]; done) | decide +kernel | (simp [inBnd] <;> omega))
local macro_rules | `(tactic| walk_at "odd_it") => `(tactic| (refine OvItem.two ?_; first
  | exact ov_atom rfl (by walk_at "odd_no") (by first | assumption | (constructor <;> decide +kernel))
  | exact ov_dict (by walk_at "mm") rfl
  | exact ov_lst (by walk_at "mm") rfl (by simp) rfl (by walk_at "odd_sh")
  | exact ov_tup (by walk_at "mm") rfl (by simp) rfl (by walk_at "odd_sh")))
theorem odd_kd {L : List R} {v : V} {r : Option (List V)} (h : Odd L v r) : ∃ n, Kd L v n := by
  cases h with
  | no k _ => exact ⟨_, k⟩
  | tup m _ => exact ⟨_, .tup m⟩
section
variable {C : Addr} {K : PySem.W.Frag} {Tb : List (Addr × Str)} {H : Hp} {L : List R} {Q : VK} {σ : St}
theorem s_dnewK (S : Sep C K Tb H L) (k : ∀ p H', Sep C K Tb H' (.cell p (.dK []) :: L) → Q (.ref p) H') : tDNewK σ H Q := fun p n => k p _ (S.new n trivial)
end
theorem ok_law (T : Txt K mg) (TB : TBs T base) : FnG P w K mg base CX0 12 T.f_law T.fd_law ["_law_script"] (spLaw T.tabs K) := by
  refine T.F_law.okG sc_law (fun vs H Q E h => ?_) (fun cdv A outer s H vs Q E hgd hr h => ?_)
  · obtain ⟨a, ns, rfl, _⟩ := h; rfl
  · obtain ⟨a, ns, rfl, hS, hlen, hT, k⟩ := h
    refine ⟨_, (pss_cons (ps_for PassesOwn.never rfl (pi_list (pe_op op_cat (pe_lst (pa_cons (pe_call (ok__law_cell_at T TB) (hr.mono (by decide)) rfl T.m__law_cell_at T.F__law_cell_at.kp T.b__law_cell_at .nil pass0 (pa_cons (pv 0 rfl vs_law_0) (pa_cons pe_int pa_nil))) pa_nil)) (pe_slice (slK (K := K)) (pv 0 rfl vs_law_0) (po_some pe_int) (po_some pe_int)))) (pg_name (i := 1) sc_law.nd rfl lc_law_1) (pss_cons (ps_set (i := 2) sc_law.nd rfl lc_law_2 (pe_call (ok__law_source_of T TB) (hr.mono (by decide)) rfl T.m__law_source_of T.F__law_source_of.kp T.b__law_source_of .nil pass0 (pa_cons (pv 1 rfl vs_law_1) pa_nil)))
  (pss_cons (ps_set (i := 3) sc_law.nd rfl lc_law_3 (pe_call (ok__law_map T TB) (hr.mono (by decide)) rfl T.m__law_map T.F__law_map.kp T.b__law_map .nil pass0 (pa_cons (pv 2 rfl vs_law_2) (pa_cons pe_int pa_nil))))
  (pss_cons (ps_set (i := 4) sc_law.nd rfl lc_law_4 (pe_meth0 (pv 3 rfl vs_law_3) T.cl_Slots T.mt_Slots_copy (ok_Slots_copy T TB) (hr.mono (by decide)) T.b_Slots_copy .nil pass0))
  (pss_cons (ps_set (i := 5) sc_law.nd rfl lc_law_5 (pe_lst (pa_cons (pe_fld (pv 3 rfl vs_law_3) rfl) (pa_cons (pe_un un_neg pe_int) (pa_cons pe_bl (pa_cons pe_bl (pa_cons pe_non (pa_cons pe_str (pa_cons (pe_lst (pa_cons pe_int pa_nil)) (pa_cons (pe_tup (pa_cons pe_int pa_nil)) (pa_cons pe_dnewK (pa_cons (pe_op op_pow pe_int pe_int) pa_nil))))))))))))
  (pss_cons (ps_set (i := 6) sc_law.nd rfl lc_law_6 (pe_lst (pa_cons pe_int (pa_cons (pe_un un_neg pe_int) (pa_cons (pe_op op_add (pe_op op_pow pe_int pe_int) pe_int) (pa_cons pe_bl (pa_cons pe_non (pa_cons pe_str (pa_cons (pe_lst (pa_cons pe_int pa_nil)) (pa_cons (pe_tup (pa_cons pe_int pa_nil)) (pa_cons pe_dnewK (pa_cons (pe_op op_pow pe_int pe_int) pa_nil))))))))))))
  (pss_cons (ps_for PassesOwn.never rfl (pi_tup (pe_tup (pa_cons pe_str (pa_cons pe_str (pa_cons pe_str pa_nil))))) (pg_name (i := 7) sc_law.nd rfl lc_law_7) (pss_cons (ps_for PassesOwn.never rfl (pi_list (pv 5 rfl vs_law_5)) (pg_name (i := 8) sc_law.nd rfl lc_law_8) (pss_one (ps_for PassesOwn.never rfl (pi_tup (pe_tup (pa_cons pe_int (pa_cons (pe_call (ok__law_one T TB) (hr.mono (by decide)) rfl T.m__law_one T.F__law_one.kp T.b__law_one .nil pass0 (pa_cons (pv 2 rfl vs_law_2) (pa_cons (pv 6 rfl vs_law_6) pa_nil))) pa_nil)))) (pg_name (i := 9) sc_law.nd rfl lc_law_9) (pss_one (ps_if (pt_cmpR (neT (hu70 hr)) (pe_callG (ok__law_said T TB) hgd (hr.mono (by decide)) rfl T.m__law_said T.F__law_said.kp T.b__law_said .nil pass0 (pa_cons (pv 7 rfl vs_law_7) (pa_cons (pv 3 rfl vs_law_3) (pa_cons (pv 8 rfl vs_law_8) (pa_cons (pv 9 rfl vs_law_9) pa_nil))))) (pe_tup (pa_cons pe_str (pa_cons (pe_callB (reprE hgd (hu70 hr) (K := K)) (by rfl) T.z_repr (by decide +kernel) (pa_cons (pv 8 rfl vs_law_8) pa_nil)) pa_nil))) (nomark _)) (pss_one (ps_ret pe_bl)) pss_nil)))))
  (pss_one (ps_for PassesOwn.never rfl (pi_list (pv 6 rfl vs_law_6)) (pg_name (i := 8) sc_law.nd rfl lc_law_8) (pss_one (ps_if (pt_cmpR (neT (hu70 hr)) (pe_callG (ok__law_said T TB) hgd (hr.mono (by decide)) rfl T.m__law_said T.F__law_said.kp T.b__law_said .nil pass0 (pa_cons (pv 7 rfl vs_law_7) (pa_cons (pv 3 rfl vs_law_3) (pa_cons (pe_call (ok__law_next T TB) (hr.mono (by decide)) rfl T.m__law_next T.F__law_next.kp T.b__law_next .nil pass0 (pa_cons (pv 2 rfl vs_law_2) (pa_cons (pe_fld (pv 3 rfl vs_law_3) rfl) pa_nil))) (pa_cons (pv 8 rfl vs_law_8) pa_nil))))) (pe_tup (pa_cons pe_str (pa_cons (pe_callB (reprE hgd (hu70 hr) (K := K)) (by rfl) T.z_repr (by decide +kernel) (pa_cons (pv 8 rfl vs_law_8) pa_nil)) pa_nil))) (nomark _)) (pss_one (ps_ret pe_bl)) pss_nil))))))
  (pss_cons (ps_if (pt_cmpR o_notN (pe_callG (ok__law_said T TB) hgd (hr.mono (by decide)) rfl T.m__law_said T.F__law_said.kp T.b__law_said .nil pass0 (pa_cons pe_str (pa_cons (pv 3 rfl vs_law_3) (pa_cons (pe_op op_sub (pe_fld (pv 3 rfl vs_law_3) rfl) pe_int) (pa_cons (pe_op op_pow pe_int pe_int) pa_nil))))) pe_non (nomark _)) (pss_one (ps_ret pe_bl)) pss_nil)
  (pss_one (ps_if (PW.pt (pw_or (pt_cmpR op_ne (pe_call (ok_judge_plan T TB) (hr.mono (by decide)) rfl T.m_judge_plan T.F_judge_plan.kp T.b_judge_plan .nil pass0 (pa_cons (pv 3 rfl vs_law_3) (pa_cons pe_int (pa_cons (pe_op op_pow pe_int pe_int) (pa_cons pe_non pa_nil))))) pe_str (nomark _)) (pw_or1 (pt_cmpR (op_neOwn (ok_Slots___eq__ T TB) (hr.mono (by decide)) T.cl_Slots T.ne_Slots T.mt_Slots___eq__ T.b_Slots___eq__ pass0) (pv 3 rfl vs_law_3) (pv 4 rfl vs_law_4) (nomark _))))) (pss_one (ps_ret pe_bl)) pss_nil))))))))))
  (pss_one (ps_ret pe_bl))), ?_⟩
    have cl := T.cl_Slots
    have n1 := T.n_Slots_n
    have n3 := T.n_Slots_generations
    have S : Sep T.C_Slots K T.tabs H [.ro a (ns.map V.int)] := Sep.start hT hS
    walk_at "go"
    walk_at "sd"
    refine ⟨a, ns, 0, rfl, hS, fun z => ?_⟩
    walk_at "sd"
    rename_i p1 H1 S1 p2 H2 S2
    obtain ⟨ms, ems, hms⟩ := cut_ints ns (some 1) (some 4)
    rw [ems] at S2
    refine s_cat S2 (by walk_at "mm") (by walk_at "mm") (by simp; omega) fun l H3 S3 => ?_
    have S3 : Sep T.C_Slots K T.tabs H3 [.cell l (.lst ((z :: ms).map V.int))] := S3.fit (rs := [.cell l (.lst ([V.int z] ++ ms.map V.int))]) (by walk_at "ft")
    walk_at "sd"
    refine loop_list (xs := (z :: ms).map V.int) (fun i σ H' => ∃ v1 v2 v3 v4 v5 v6 v7 v8 v9 : Option V, σ = [some (.ref a), v1, v2, v3, v4, v5, v6, v7, v8, v9] ∧ Sep T.C_Slots K T.tabs H' [.cell l (.lst ((z :: ms).map V.int))]) ⟨_, _, _, _, _, _, _, _, _, rfl, S3⟩ ?_ ?_ ?_
    · rintro i σ H' _ ⟨_, _, _, _, _, _, _, _, _, _, S4⟩
      exact SqL.of (S4.get (by walk_at "mm"))
    · rintro i x σ H4 hx ⟨v1, v2, v3, v4, v5, v6, v7, v8, v9, rfl, S4⟩
      obtain ⟨c, rfl⟩ : ∃ c, x = V.int c := by
        obtain ⟨c, _, e⟩ := List.mem_map.mp (List.mem_of_getElem? hx)
        exact ⟨c, e.symm⟩
      generalize hcl : HO.lst ((z :: ms).map V.int) = cl' at S4 ⊢
      walk_at "sd"
      refine u_source S4 fun p H5 S5 => ?_
      walk_at "sd"
      refine u_map (most := 6) S5 (by walk_at "pk") (by decide) (by decide) fun ps m H8 ok hnm hcnt hflat S8 => ?_
      have h64 := ok.n64
      have hn1 := ok.ar.n1
      have hg1 := ok.ar.g1
      have hg2 := ok.ar.g2
      have tl := ok.tl
      walk_at "sd"
      refine u_copy (p := ps) (m := m) S8 (by walk_at "mm") fun pb H9 S9 => ?_
      walk_at "sd"
      rename_i l0 Ha Sa t0 Hb Sb
      refine s_dnewK (by assumption) fun d1 H10 S10 => ?_
      walk_at "sd"
      rename_i lo Hc Sc l1 Hd Sd t1 He Se
      refine s_dnewK (by assumption) fun d2 H11 S11 => ?_
      walk_at "sd"
      rename_i lt Hf Sf tw Hg Sg
      obtain ⟨xo, exo⟩ : ∃ xo, [V.int (m.n : Int), .int (-1), .bl true, .bl false, .non, .str "0", .ref l0, .ref t0, .ref d1, .int (10 ^ Int.toNat 20)] = xo := ⟨_, rfl⟩
      obtain ⟨xt, ext⟩ : ∃ xt, [V.int 0, .int (-1), .int (10 ^ Int.toNat 12 + 1), .bl true, .non, .str "1", .ref l1, .ref t1, .ref d2, .int (10 ^ Int.toNat 25)] = xt := ⟨_, rfl⟩
      have sn : ShE 100 (atomD (.int (m.n : Int))) := she_at (by omega) (by omega)
      obtain ⟨LZ, S12, hO, hT⟩ : ∃ LZ, Sep T.C_Slots K T.tabs Hg (.src p :: .sl ps m :: .sl pb m :: .cell lo (.lst xo) :: .cell lt (.lst xt) :: .tup tw [.str "least", .str "plan", .str "judge"] :: .cell l cl' :: LZ) ∧ (∀ x ∈ xo, OvItem2 (fun v _ => inBnd 0 ((m.n : Int) - 1) v) LZ x) ∧ ∀ x ∈ xt, OvItem2 (fun v _ => inBnd 1 1000000000000 v) LZ x := by
        refine ⟨[.cell d2 (.dK []), .tup t1 [.int 1], .cell l1 (.lst [.int 1]), .cell d1 (.dK []), .tup t0 [.int 0], .cell l0 (.lst [.int 0])], ?_, ?_, ?_⟩
        · rw [← exo, ← ext]
          exact Sg.fit (by walk_at "ft")
        · rw [← exo]
          intro x hx
          simp only [List.mem_cons, List.not_mem_nil, or_false] at hx
          rcases hx with rfl | rfl | rfl | rfl | rfl | rfl | rfl | rfl | rfl | rfl
          all_goals walk_at "odd_it"
        · rw [← ext]
          intro x hx
          simp only [List.mem_cons, List.not_mem_nil, or_false] at hx
          rcases hx with rfl | rfl | rfl | rfl | rfl | rfl | rfl | rfl | rfl | rfl
          all_goals walk_at "odd_it"
      have lxt : xt.length = 10 := by rw [← ext]; rfl
      refine loop_tup (xs := [.str "least", .str "plan", .str "judge"]) (fun i σ H' => ∃ v7 v8 v9 : Option V, σ = [some (.ref a), some (.int c), some (.ref p), some (.ref ps), some (.ref pb), some (.ref lo), some (.ref lt), v7, v8, v9] ∧ Sep T.C_Slots K T.tabs H' (.src p :: .sl ps m :: .sl pb m :: .cell lo (.lst xo) :: .cell lt (.lst xt) :: .tup tw [.str "least", .str "plan", .str "judge"] :: .cell l cl' :: LZ)) ⟨_, _, _, rfl, S12⟩ ?_ ?_ ?_
      · rintro i σ H' _ ⟨_, _, _, _, S13⟩
        exact SqT.of (S13.getT (by walk_at "mm"))
      · rintro i x σ H13 hx ⟨v7, v8, v9, rfl, S13⟩
        obtain ⟨w, rfl, hw⟩ : ∃ w : Str, x = .str w ∧ (w = "least" ∨ w = "plan" ∨ w = "judge") := by
          have := List.mem_of_getElem? hx
          simp only [List.mem_cons, List.not_mem_nil, or_false] at this
          rcases this with rfl | rfl | rfl <;> exact ⟨_, rfl, by simp⟩
        walk_at "sd"
        refine loop_list (xs := xo) (fun i σ H' => ∃ v8 v9 : Option V, σ = [some (.ref a), some (.int c), some (.ref p), some (.ref ps), some (.ref pb), some (.ref lo), some (.ref lt), some (.str w), v8, v9] ∧ Sep T.C_Slots K T.tabs H' (.src p :: .sl ps m :: .sl pb m :: .cell lo (.lst xo) :: .cell lt (.lst xt) :: .tup tw [.str "least", .str "plan", .str "judge"] :: .cell l cl' :: LZ)) ⟨_, _, rfl, S13⟩ ?_ ?_ ?_
        · rintro i σ H' _ ⟨_, _, _, S14⟩
          exact SqL.of (S14.get (by walk_at "mm"))
        · rintro i x σ H14 hx ⟨v8, v9, rfl, S14⟩
          obtain ⟨⟨r, od, hl, hk⟩, dx, evx, shx, dpx⟩ := hO x (List.mem_of_getElem? hx)
          walk_at "sd"
          refine u_one S14 (by walk_at "pk") (by walk_at "mm") (by omega) (by omega) fun v H15 hv S15 => ?_
          walk_at "sd"
          rename_i t2 H16 S16
          refine loop_tup (xs := [.int 1, v]) (fun i σ H' => ∃ v9 : Option V, σ = [some (.ref a), some (.int c), some (.ref p), some (.ref ps), some (.ref pb), some (.ref lo), some (.ref lt), some (.str w), some x, v9] ∧ Sep T.C_Slots K T.tabs H' (.tup t2 [.int 1, v] :: .src p :: .sl ps m :: .sl pb m :: .cell lo (.lst xo) :: .cell lt (.lst xt) :: .tup tw [.str "least", .str "plan", .str "judge"] :: .cell l cl' :: LZ)) ⟨_, rfl, S16.fit (by walk_at "ft")⟩ ?_ ?_ ?_
          · rintro i σ H' _ ⟨_, _, S17⟩
            exact SqT.of (S17.getT (by walk_at "mm"))
          · rintro i u σ H17 hu ⟨v9, rfl, S17⟩
            walk_at "sd"
            refine ⟨_, w, ps, m, x, u, rfl, S17, by walk_at "mm", .inl ⟨hw, .inl ⟨(odd_kd od).imp fun _ k => k.mono fun r h => by simp [h], hk, dx, evx.up fun r h => by simp [h], shx, fun q1 H18 S18 => ?_⟩⟩⟩
            walk_at "sd"
            refine s_reprE S18 (evx.up fun r h => by simp [h]) shx (by decide) ?_
            walk_at "sd"
            rename_i q2 H19 S19
            refine s_neT S19 (by walk_at "mm") (by walk_at "mm") rfl ?_
            walk_at "sd"
            exact ⟨_, rfl, S19.fit (by walk_at "ft")⟩
          · rintro σ H17 ⟨v9, rfl, S17⟩
            exact ⟨_, _, rfl, S17.fit (by walk_at "ft")⟩
        · rintro σ H14 ⟨v8, v9, rfl, S14⟩
          walk_at "sd"
          refine loop_list (xs := xt) (fun i σ H' => ∃ v8 v9 : Option V, σ = [some (.ref a), some (.int c), some (.ref p), some (.ref ps), some (.ref pb), some (.ref lo), some (.ref lt), some (.str w), v8, v9] ∧ Sep T.C_Slots K T.tabs H' (.src p :: .sl ps m :: .sl pb m :: .cell lo (.lst xo) :: .cell lt (.lst xt) :: .tup tw [.str "least", .str "plan", .str "judge"] :: .cell l cl' :: LZ)) ⟨_, _, rfl, S14⟩ ?_ ?_ ?_
          · rintro i σ H' _ ⟨_, _, _, S15⟩
            exact SqL.of (S15.get (by walk_at "mm"))
          · rintro i x σ H15 hx ⟨v8, v9, rfl, S15⟩
            obtain ⟨⟨r, od, hl, hk⟩, dx, evx, shx, dpx⟩ := hT x (List.mem_of_getElem? hx)
            walk_at "sd"
            refine u_next S15 (by walk_at "pk") (by omega) (by omega) fun sn' H16 hsn' S16 => ?_
            walk_at "sd"
            refine ⟨_, w, ps, m, .int (sn' : Int), x, rfl, S16, by walk_at "mm", .inl ⟨hw, .inr ⟨sn', rfl, by omega, (odd_kd od).imp fun _ k => k.mono fun r h => by simp [h], hk, dx, evx.up fun r h => by simp [h], shx, fun q1 H18 S18 => ?_⟩⟩⟩
            walk_at "sd"
            refine s_reprE S18 (evx.up fun r h => by simp [h]) shx (by decide) ?_
            walk_at "sd"
            rename_i q2 H19 S19
            refine s_neT S19 (by walk_at "mm") (by walk_at "mm") rfl ?_
            walk_at "sd"
            exact ⟨_, _, rfl, S19.fit (by walk_at "ft")⟩
          · rintro σ H15 ⟨v8, v9, rfl, S15⟩
            exact ⟨_, _, _, rfl, S15⟩
      · rintro σ H13 ⟨v7, v8, v9, rfl, S13⟩
        walk_at "sd"
        have e1 : (m.n : Int) - 1 = ((m.n - 1 : Nat) : Int) := by omega
        have e2 : (10 : Int) ^ Int.toNat 12 = 1000000000000 := by decide
        rw [e1, e2]
        refine ⟨_, "least", ps, m, _, _, rfl, S13, by walk_at "mm", .inr ⟨m.n - 1, 1000000000000, rfl, rfl, rfl, by omega, by omega, by omega, fun H14 S14 => ?_⟩⟩
        walk_at "sd"
        rw [e2]
        refine ⟨.src p :: .sl pb m :: .cell lo (.lst xo) :: .cell lt (.lst xt) :: .tup tw [.str "least", .str "plan", .str "judge"] :: .cell l cl' :: LZ, ps, m, 0, 1000000000000, .non, rfl, S14.fit (by walk_at "ft"), by omega, by omega, by omega, .inr (.inl ⟨_, .non, rfl⟩), fun H15 S15 => ?_⟩
        refine ⟨rfl, ?_⟩
        walk_at "sd"
        refine if_F (by simp) ?_
        walk_at "sd"
        refine u_eqO true (r := true) S15 (by walk_at "mm") (by walk_at "mm") (fun _ => veqs_same fun v hv => by
          have := hflat v hv
          cases v <;> first | exact this | trivial) fun H16 S16 => ?_
        walk_at "sd"
        refine if_F (by simp [SM.like]) ?_
        subst hcl
        exact ⟨_, _, _, _, _, _, _, _, _, rfl, S16.fit (by walk_at "ft")⟩
    · rintro σ H1 ⟨v1, v2, v3, v4, v5, v6, v7, v8, v9, rfl, S1⟩
      walk_at "sd"
      exact k _

end
theorem all_mk {l : PySem.W.OpenLaw} {w : World} {K : PySem.W.Frag} {h : Heap} {mg : Str → Option Value}
  {C_Slots : Addr}
  {C_NoSlot : Addr}
  {C_NoTimes : Addr}
  {C_Never : Addr}
  {C_TooLong : Addr}
  {C_NoHandle : Addr}
  {C_SlotError : Addr}
  {t_MOST_SLOTS : Tok}
  {t_MOST_GENERATIONS : Tok}
  {t_MOST_TIMES : Tok}
  {t_LONGEST_PLAN : Tok}
  {r_RULES : Addr} {dd_RULES : Option Addr} {nn_RULES : Nat} {sl_RULES : Array (Option Value)} {u0_RULES : Tok} {u1_RULES : Tok} {u2_RULES : Tok} {u3_RULES : Tok}
  {f_is_integer : Addr} {od_is_integer an_is_integer : Option Addr} {sl_is_integer : Array (Option Value)} {oc_is_integer kV_is_integer dc_is_integer pm_is_integer cd_is_integer ct_is_integer : Value}
  {f_is_between : Addr} {od_is_between an_is_between : Option Addr} {sl_is_between : Array (Option Value)} {oc_is_between kV_is_between dc_is_between pm_is_between cd_is_between ct_is_between : Value}
  {f_is_rule : Addr} {od_is_rule an_is_rule : Option Addr} {sl_is_rule : Array (Option Value)} {oc_is_rule kV_is_rule dc_is_rule pm_is_rule cd_is_rule ct_is_rule : Value}
  {f_check_map : Addr} {od_check_map an_check_map : Option Addr} {sl_check_map : Array (Option Value)} {oc_check_map kV_check_map dc_check_map pm_check_map cd_check_map ct_check_map : Value}
  {f_taking_order c_taking_order P_taking_order : Addr} {od_taking_order an_taking_order cod_taking_order : Option Addr} {sl_taking_order csl_taking_order : Array (Option Value)} {vs_taking_order : Array Value} {oc_taking_order kV_taking_order dc_taking_order pm_taking_order ct_taking_order coc_taking_order : Value}
  {f_order_behind : Addr} {od_order_behind an_order_behind : Option Addr} {sl_order_behind : Array (Option Value)} {oc_order_behind kV_order_behind dc_order_behind pm_order_behind cd_order_behind ct_order_behind : Value}
  {f_Slots___init__ : Addr} {od_Slots___init__ an_Slots___init__ : Option Addr} {sl_Slots___init__ : Array (Option Value)} {oc_Slots___init__ kV_Slots___init__ dc_Slots___init__ pm_Slots___init__ cd_Slots___init__ ct_Slots___init__ : Value}
  {f_Slots_generation_of : Addr} {od_Slots_generation_of an_Slots_generation_of : Option Addr} {sl_Slots_generation_of : Array (Option Value)} {oc_Slots_generation_of kV_Slots_generation_of dc_Slots_generation_of pm_Slots_generation_of cd_Slots_generation_of ct_Slots_generation_of : Value}
  {f_Slots___len__ : Addr} {od_Slots___len__ an_Slots___len__ : Option Addr} {sl_Slots___len__ : Array (Option Value)} {oc_Slots___len__ kV_Slots___len__ dc_Slots___len__ pm_Slots___len__ cd_Slots___len__ ct_Slots___len__ : Value}
  {f_Slots_counts : Addr} {od_Slots_counts an_Slots_counts : Option Addr} {sl_Slots_counts : Array (Option Value)} {oc_Slots_counts kV_Slots_counts dc_Slots_counts pm_Slots_counts cd_Slots_counts ct_Slots_counts : Value}
  {f_Slots_live : Addr} {od_Slots_live an_Slots_live : Option Addr} {sl_Slots_live : Array (Option Value)} {oc_Slots_live kV_Slots_live dc_Slots_live pm_Slots_live cd_Slots_live ct_Slots_live : Value}
  {f_Slots_free : Addr} {od_Slots_free an_Slots_free : Option Addr} {sl_Slots_free : Array (Option Value)} {oc_Slots_free kV_Slots_free dc_Slots_free pm_Slots_free cd_Slots_free ct_Slots_free : Value}
  {f_Slots___contains__ : Addr} {od_Slots___contains__ an_Slots___contains__ : Option Addr} {sl_Slots___contains__ : Array (Option Value)} {oc_Slots___contains__ kV_Slots___contains__ dc_Slots___contains__ pm_Slots___contains__ cd_Slots___contains__ ct_Slots___contains__ : Value}
  {f_Slots_check_handle : Addr} {od_Slots_check_handle an_Slots_check_handle : Option Addr} {sl_Slots_check_handle : Array (Option Value)} {oc_Slots_check_handle kV_Slots_check_handle dc_Slots_check_handle pm_Slots_check_handle cd_Slots_check_handle ct_Slots_check_handle : Value}
  {f_Slots___getitem__ : Addr} {od_Slots___getitem__ an_Slots___getitem__ : Option Addr} {sl_Slots___getitem__ : Array (Option Value)} {oc_Slots___getitem__ kV_Slots___getitem__ dc_Slots___getitem__ pm_Slots___getitem__ cd_Slots___getitem__ ct_Slots___getitem__ : Value}
  {f_Slots_take : Addr} {od_Slots_take an_Slots_take : Option Addr} {sl_Slots_take : Array (Option Value)} {oc_Slots_take kV_Slots_take dc_Slots_take pm_Slots_take cd_Slots_take ct_Slots_take : Value}
  {f_Slots_give : Addr} {od_Slots_give an_Slots_give : Option Addr} {sl_Slots_give : Array (Option Value)} {oc_Slots_give kV_Slots_give dc_Slots_give pm_Slots_give cd_Slots_give ct_Slots_give : Value}
  {f_Slots_copy : Addr} {od_Slots_copy an_Slots_copy : Option Addr} {sl_Slots_copy : Array (Option Value)} {oc_Slots_copy kV_Slots_copy dc_Slots_copy pm_Slots_copy cd_Slots_copy ct_Slots_copy : Value}
  {f_Slots_arguments : Addr} {od_Slots_arguments an_Slots_arguments : Option Addr} {sl_Slots_arguments : Array (Option Value)} {oc_Slots_arguments kV_Slots_arguments dc_Slots_arguments pm_Slots_arguments cd_Slots_arguments ct_Slots_arguments : Value}
  {f_Slots_state : Addr} {od_Slots_state an_Slots_state : Option Addr} {sl_Slots_state : Array (Option Value)} {oc_Slots_state kV_Slots_state dc_Slots_state pm_Slots_state cd_Slots_state ct_Slots_state : Value}
  {f_Slots___eq__ : Addr} {od_Slots___eq__ an_Slots___eq__ : Option Addr} {sl_Slots___eq__ : Array (Option Value)} {oc_Slots___eq__ kV_Slots___eq__ dc_Slots___eq__ pm_Slots___eq__ cd_Slots___eq__ ct_Slots___eq__ : Value}
  {f__law_cell_at : Addr} {od__law_cell_at an__law_cell_at : Option Addr} {sl__law_cell_at : Array (Option Value)} {oc__law_cell_at kV__law_cell_at dc__law_cell_at pm__law_cell_at cd__law_cell_at ct__law_cell_at : Value}
  {f__law_source_of : Addr} {od__law_source_of an__law_source_of : Option Addr} {sl__law_source_of : Array (Option Value)} {oc__law_source_of kV__law_source_of dc__law_source_of pm__law_source_of cd__law_source_of ct__law_source_of : Value}
  {f__law_next : Addr} {od__law_next an__law_next : Option Addr} {sl__law_next : Array (Option Value)} {oc__law_next kV__law_next dc__law_next pm__law_next cd__law_next ct__law_next : Value}
  {f__law_one : Addr} {od__law_one an__law_one : Option Addr} {sl__law_one : Array (Option Value)} {oc__law_one kV__law_one dc__law_one pm__law_one cd__law_one ct__law_one : Value}
  {f__law_numbers : Addr} {od__law_numbers an__law_numbers : Option Addr} {sl__law_numbers : Array (Option Value)} {oc__law_numbers kV__law_numbers dc__law_numbers pm__law_numbers cd__law_numbers ct__law_numbers : Value}
  {f__law_deeds : Addr} {od__law_deeds an__law_deeds : Option Addr} {sl__law_deeds : Array (Option Value)} {oc__law_deeds kV__law_deeds dc__law_deeds pm__law_deeds cd__law_deeds ct__law_deeds : Value}
  {f__law_execute : Addr} {od__law_execute an__law_execute : Option Addr} {sl__law_execute : Array (Option Value)} {oc__law_execute kV__law_execute dc__law_execute pm__law_execute cd__law_execute ct__law_execute : Value}
  {f_least_for_last : Addr} {od_least_for_last an_least_for_last : Option Addr} {sl_least_for_last : Array (Option Value)} {oc_least_for_last kV_least_for_last dc_least_for_last pm_least_for_last cd_least_for_last ct_least_for_last : Value}
  {f_least_for_lowest : Addr} {od_least_for_lowest an_least_for_lowest : Option Addr} {sl_least_for_lowest : Array (Option Value)} {oc_least_for_lowest kV_least_for_lowest dc_least_for_lowest pm_least_for_lowest cd_least_for_lowest ct_least_for_lowest : Value}
  {f_least_for_first : Addr} {od_least_for_first an_least_for_first : Option Addr} {sl_least_for_first : Array (Option Value)} {oc_least_for_first kV_least_for_first dc_least_for_first pm_least_for_first cd_least_for_first ct_least_for_first : Value}
  {f_is_slot : Addr} {od_is_slot an_is_slot : Option Addr} {sl_is_slot : Array (Option Value)} {oc_is_slot kV_is_slot dc_is_slot pm_is_slot cd_is_slot ct_is_slot : Value}
  {f_NoSlot___init__ : Addr} {od_NoSlot___init__ an_NoSlot___init__ : Option Addr} {sl_NoSlot___init__ : Array (Option Value)} {oc_NoSlot___init__ kV_NoSlot___init__ dc_NoSlot___init__ pm_NoSlot___init__ cd_NoSlot___init__ ct_NoSlot___init__ : Value}
  {f_NoTimes___init__ : Addr} {od_NoTimes___init__ an_NoTimes___init__ : Option Addr} {sl_NoTimes___init__ : Array (Option Value)} {oc_NoTimes___init__ kV_NoTimes___init__ dc_NoTimes___init__ pm_NoTimes___init__ cd_NoTimes___init__ ct_NoTimes___init__ : Value}
  {f_check_question : Addr} {od_check_question an_check_question : Option Addr} {sl_check_question : Array (Option Value)} {oc_check_question kV_check_question dc_check_question pm_check_question cd_check_question ct_check_question : Value}
  {f_shortages : Addr} {od_shortages an_shortages : Option Addr} {sl_shortages : Array (Option Value)} {oc_shortages kV_shortages dc_shortages pm_shortages cd_shortages ct_shortages : Value}
  {f_savings : Addr} {od_savings an_savings : Option Addr} {sl_savings : Array (Option Value)} {oc_savings kV_savings dc_savings pm_savings cd_savings ct_savings : Value}
  {f_least_for_least : Addr} {od_least_for_least an_least_for_least : Option Addr} {sl_least_for_least : Array (Option Value)} {oc_least_for_least kV_least_for_least dc_least_for_least pm_least_for_least cd_least_for_least ct_least_for_least : Value}
  {f_least_number : Addr} {od_least_number an_least_number : Option Addr} {sl_least_number : Array (Option Value)} {oc_least_number kV_least_number dc_least_number pm_least_number cd_least_number ct_least_number : Value}
  {f_least : Addr} {od_least an_least : Option Addr} {sl_least : Array (Option Value)} {oc_least kV_least dc_least pm_least cd_least ct_least : Value}
  {f__law_map : Addr} {od__law_map an__law_map : Option Addr} {sl__law_map : Array (Option Value)} {oc__law_map kV__law_map dc__law_map pm__law_map cd__law_map ct__law_map : Value}
  {f_TooLong___init__ : Addr} {od_TooLong___init__ an_TooLong___init__ : Option Addr} {sl_TooLong___init__ : Array (Option Value)} {oc_TooLong___init__ kV_TooLong___init__ dc_TooLong___init__ pm_TooLong___init__ cd_TooLong___init__ ct_TooLong___init__ : Value}
  {f_handle_of : Addr} {od_handle_of an_handle_of : Option Addr} {sl_handle_of : Array (Option Value)} {oc_handle_of kV_handle_of dc_handle_of pm_handle_of cd_handle_of ct_handle_of : Value}
  {f_slots_to_give : Addr} {od_slots_to_give an_slots_to_give : Option Addr} {sl_slots_to_give : Array (Option Value)} {oc_slots_to_give kV_slots_to_give dc_slots_to_give pm_slots_to_give cd_slots_to_give ct_slots_to_give : Value}
  {f_plan : Addr} {od_plan an_plan : Option Addr} {sl_plan : Array (Option Value)} {oc_plan kV_plan dc_plan pm_plan cd_plan ct_plan : Value}
  {f_is_call : Addr} {od_is_call an_is_call : Option Addr} {sl_is_call : Array (Option Value)} {oc_is_call kV_is_call dc_is_call pm_is_call cd_is_call ct_is_call : Value}
  {f_is_done : Addr} {od_is_done an_is_done : Option Addr} {sl_is_done : Array (Option Value)} {oc_is_done kV_is_done dc_is_done pm_is_done cd_is_done ct_is_done : Value}
  {f_judge_plan : Addr} {od_judge_plan an_judge_plan : Option Addr} {sl_judge_plan : Array (Option Value)} {oc_judge_plan kV_judge_plan dc_judge_plan pm_judge_plan cd_judge_plan ct_judge_plan : Value}
  {f__law_asked : Addr} {od__law_asked an__law_asked : Option Addr} {sl__law_asked : Array (Option Value)} {oc__law_asked kV__law_asked dc__law_asked pm__law_asked cd__law_asked ct__law_asked : Value}
  {f__law_said : Addr} {od__law_said an__law_said : Option Addr} {sl__law_said : Array (Option Value)} {oc__law_said kV__law_said dc__law_said pm__law_said cd__law_said ct__law_said : Value}
  {f_law : Addr} {od_law an_law : Option Addr} {sl_law : Array (Option Value)} {oc_law kV_law dc_law pm_law cd_law ct_law : Value}
  {xnm_NoSlot xq_NoSlot : Str} {xN_NoSlot : Addr} {xbs_NoSlot xbm_NoSlot xsub_NoSlot : List Value} {xsn_NoSlot : List Str} {xab_NoSlot : Bool} {xcol_NoSlot : Option Bool} {xdd_NoSlot : Option Addr} {xk0_NoSlot xk1_NoSlot xk2_NoSlot xk3_NoSlot xk5_NoSlot : Option Value}
  {xnm_NoTimes xq_NoTimes : Str} {xN_NoTimes : Addr} {xbs_NoTimes xbm_NoTimes xsub_NoTimes : List Value} {xsn_NoTimes : List Str} {xab_NoTimes : Bool} {xcol_NoTimes : Option Bool} {xdd_NoTimes : Option Addr} {xk0_NoTimes xk1_NoTimes xk2_NoTimes xk3_NoTimes xk5_NoTimes : Option Value}
  {xnm_TooLong xq_TooLong : Str} {xN_TooLong : Addr} {xbs_TooLong xbm_TooLong xsub_TooLong : List Value} {xsn_TooLong : List Str} {xab_TooLong : Bool} {xcol_TooLong : Option Bool} {xdd_TooLong : Option Addr} {xk0_TooLong xk1_TooLong xk2_TooLong xk3_TooLong xk5_TooLong : Option Value}
  {fa : Addr}
  (X : K.In h) (G : h.Ns mainGlobals mg) (hfa : mg "law" = some (.ref fa)) (HT : TabsAt ["taking_order"] mg h)
  (hz_ValueError : PySem.W.nsIn K mainGlobals "ValueError" = some none)
  (hz_all : PySem.W.nsIn K mainGlobals "all" = some none)
  (hz_bool : PySem.W.nsIn K mainGlobals "bool" = some none)
  (hz_dict : PySem.W.nsIn K mainGlobals "dict" = some none)
  (hz_int : PySem.W.nsIn K mainGlobals "int" = some none)
  (hz_isinstance : PySem.W.nsIn K mainGlobals "isinstance" = some none)
  (hz_len : PySem.W.nsIn K mainGlobals "len" = some none)
  (hz_list : PySem.W.nsIn K mainGlobals "list" = some none)
  (hz_max : PySem.W.nsIn K mainGlobals "max" = some none)
  (hz_min : PySem.W.nsIn K mainGlobals "min" = some none)
  (hz_range : PySem.W.nsIn K mainGlobals "range" = some none)
  (hz_repr : PySem.W.nsIn K mainGlobals "repr" = some none)
  (hz_sorted : PySem.W.nsIn K mainGlobals "sorted" = some none)
  (hz_str : PySem.W.nsIn K mainGlobals "str" = some none)
  (hz_sum : PySem.W.nsIn K mainGlobals "sum" = some none)
  (hz_tuple : PySem.W.nsIn K mainGlobals "tuple" = some none)
  (hC_Slots : PySem.W.nsIn K mainGlobals "Slots" = some (some (.ref C_Slots)))
  (pg_Slots : PySem.W.plainGet K C_Slots Str.empty = true)
  (hd_Slots : PySem.W.hasDictIn K C_Slots = true)
  (po_Slots : PySem.W.plainOver K C_Slots = true)
  (sa_Slots : PySem.W.findIn K (.ref C_Slots) "__setattr__" = some (some (.builtin "object.__setattr__")))
  (mk_Slots : PySem.W.makesIn K C_Slots = true)
  (kc_Slots : PySem.W.keepIn K (.ref C_Slots) = true)
  (nn_Slots_n : PySem.W.findIn K (.ref C_Slots) "n" = some none)
  (nn_Slots_limit : PySem.W.findIn K (.ref C_Slots) "limit" = some none)
  (nn_Slots_generations : PySem.W.findIn K (.ref C_Slots) "generations" = some none)
  (nn_Slots_rule : PySem.W.findIn K (.ref C_Slots) "rule" = some none)
  (nn_Slots_order : PySem.W.findIn K (.ref C_Slots) "order" = some none)
  (nn_Slots_ages : PySem.W.findIn K (.ref C_Slots) "ages" = some none)
  (nn_Slots_taken : PySem.W.findIn K (.ref C_Slots) "taken" = some none)
  (nn_Slots_held : PySem.W.findIn K (.ref C_Slots) "held" = some none)
  (hne_Slots : PySem.W.findIn K (.ref C_Slots) "__ne__" = some (some (.builtin "object.__ne__")))
  (hit1 : PySem.W.findIn K (.ref C_Slots) "__class__" = some (some (.builtin "object.__class__")))
  (hit2 : PySem.W.specialIn K (.builtin "object.__class__") "__get__" = some (some (.builtin "getset_descriptor.__get__")))
  (hit3 : PySem.W.takesIn K (.builtin "object.__class__") = some true)
  (hit4 : PySem.W.mroIn K C_Slots (.type "object") = some true)
  (hl1_Slots : PySem.W.subIn K (.ref C_Slots) (.type "list") = some false)
  (hl2_Slots : PySem.W.subIn K (.ref C_Slots) (.type "tuple") = some false)
  (hC_NoSlot : PySem.W.nsIn K mainGlobals "NoSlot" = some (some (.ref C_NoSlot)))
  (xk_NoSlot : PySem.W.keepIn K (.ref C_NoSlot) = true)
  (xe_NoSlot : PySem.W.subIn K (.ref C_NoSlot) (.type "BaseException") = some true)
  (xt_NoSlot : PySem.W.typeIn K (.ref C_NoSlot) = some (.type "type"))
  (xh_NoSlot : PySem.W.hasDictIn K C_NoSlot = true)
  (hC_NoTimes : PySem.W.nsIn K mainGlobals "NoTimes" = some (some (.ref C_NoTimes)))
  (xk_NoTimes : PySem.W.keepIn K (.ref C_NoTimes) = true)
  (xe_NoTimes : PySem.W.subIn K (.ref C_NoTimes) (.type "BaseException") = some true)
  (xt_NoTimes : PySem.W.typeIn K (.ref C_NoTimes) = some (.type "type"))
  (xh_NoTimes : PySem.W.hasDictIn K C_NoTimes = true)
  (hC_Never : PySem.W.nsIn K mainGlobals "Never" = some (some (.ref C_Never)))
  (xk_Never : PySem.W.keepIn K (.ref C_Never) = true)
  (xe_Never : PySem.W.subIn K (.ref C_Never) (.type "BaseException") = some true)
  (xt_Never : PySem.W.typeIn K (.ref C_Never) = some (.type "type"))
  (xh_Never : PySem.W.hasDictIn K C_Never = true)
  (hC_TooLong : PySem.W.nsIn K mainGlobals "TooLong" = some (some (.ref C_TooLong)))
  (xk_TooLong : PySem.W.keepIn K (.ref C_TooLong) = true)
  (xe_TooLong : PySem.W.subIn K (.ref C_TooLong) (.type "BaseException") = some true)
  (xt_TooLong : PySem.W.typeIn K (.ref C_TooLong) = some (.type "type"))
  (xh_TooLong : PySem.W.hasDictIn K C_TooLong = true)
  (hC_NoHandle : PySem.W.nsIn K mainGlobals "NoHandle" = some (some (.ref C_NoHandle)))
  (xk_NoHandle : PySem.W.keepIn K (.ref C_NoHandle) = true)
  (xe_NoHandle : PySem.W.subIn K (.ref C_NoHandle) (.type "BaseException") = some true)
  (xt_NoHandle : PySem.W.typeIn K (.ref C_NoHandle) = some (.type "type"))
  (xh_NoHandle : PySem.W.hasDictIn K C_NoHandle = true)
  (hC_SlotError : PySem.W.nsIn K mainGlobals "SlotError" = some (some (.ref C_SlotError)))
  (xk_SlotError : PySem.W.keepIn K (.ref C_SlotError) = true)
  (xe_SlotError : PySem.W.subIn K (.ref C_SlotError) (.type "BaseException") = some true)
  (xt_SlotError : PySem.W.typeIn K (.ref C_SlotError) = some (.type "type"))
  (xh_SlotError : PySem.W.hasDictIn K C_SlotError = true)
  (isga_NoSlot : PySem.W.findIn K (.ref C_NoSlot) "__getattribute__" = some (some (.builtin "BaseException.__getattribute__")))
  (isgg_NoSlot : PySem.W.findIn K (.ref C_NoSlot) "__getattr__" = some none)
  (isex_NoSlot : PySem.W.subIn K (.ref C_NoSlot) (.type "BaseException") = some true)
  (ishd_NoSlot : PySem.W.hasDictIn K C_NoSlot = true)
  (isha_NoSlot : PySem.W.findIn K (.ref C_NoSlot) "__class__" = some (some (.builtin "object.__class__")))
  (ishn_NoSlot : PySem.W.specialIn K (.builtin "object.__class__") "__get__" = some (some (.builtin "getset_descriptor.__get__")))
  (isht_NoSlot : PySem.W.takesIn K (.builtin "object.__class__") = some true)
  (ishm_NoSlot : PySem.W.mroIn K C_NoSlot (.type "object") = some true)
  (isga_NoTimes : PySem.W.findIn K (.ref C_NoTimes) "__getattribute__" = some (some (.builtin "BaseException.__getattribute__")))
  (isgg_NoTimes : PySem.W.findIn K (.ref C_NoTimes) "__getattr__" = some none)
  (isex_NoTimes : PySem.W.subIn K (.ref C_NoTimes) (.type "BaseException") = some true)
  (ishd_NoTimes : PySem.W.hasDictIn K C_NoTimes = true)
  (isha_NoTimes : PySem.W.findIn K (.ref C_NoTimes) "__class__" = some (some (.builtin "object.__class__")))
  (ishn_NoTimes : PySem.W.specialIn K (.builtin "object.__class__") "__get__" = some (some (.builtin "getset_descriptor.__get__")))
  (isht_NoTimes : PySem.W.takesIn K (.builtin "object.__class__") = some true)
  (ishm_NoTimes : PySem.W.mroIn K C_NoTimes (.type "object") = some true)
  (isve_NoSlot : PySem.W.subIn K (.ref C_NoSlot) (.type "ValueError") = some true)
  (isve_NoTimes : PySem.W.subIn K (.ref C_NoTimes) (.type "ValueError") = some true)
  (sb_NoSlot_NoSlot : PySem.W.subIn K (.ref C_NoSlot) (.ref C_NoSlot) = some true)
  (sb_NoSlot_NoTimes : PySem.W.subIn K (.ref C_NoSlot) (.ref C_NoTimes) = some false)
  (sb_NoSlot_NoHandle : PySem.W.subIn K (.ref C_NoSlot) (.ref C_NoHandle) = some false)
  (sb_NoSlot_Never : PySem.W.subIn K (.ref C_NoSlot) (.ref C_Never) = some false)
  (sb_NoSlot_TooLong : PySem.W.subIn K (.ref C_NoSlot) (.ref C_TooLong) = some false)
  (sb_NoSlot_SlotError : PySem.W.subIn K (.ref C_NoSlot) (.ref C_SlotError) = some true)
  (sb_NoTimes_NoSlot : PySem.W.subIn K (.ref C_NoTimes) (.ref C_NoSlot) = some false)
  (sb_NoTimes_NoTimes : PySem.W.subIn K (.ref C_NoTimes) (.ref C_NoTimes) = some true)
  (sb_NoTimes_NoHandle : PySem.W.subIn K (.ref C_NoTimes) (.ref C_NoHandle) = some false)
  (sb_NoTimes_Never : PySem.W.subIn K (.ref C_NoTimes) (.ref C_Never) = some false)
  (sb_NoTimes_TooLong : PySem.W.subIn K (.ref C_NoTimes) (.ref C_TooLong) = some false)
  (sb_NoTimes_SlotError : PySem.W.subIn K (.ref C_NoTimes) (.ref C_SlotError) = some true)
  (hg_MOST_SLOTS : PySem.W.nsIn K mainGlobals "MOST_SLOTS" = some (some (.int 64 t_MOST_SLOTS)))
  (hg_MOST_GENERATIONS : PySem.W.nsIn K mainGlobals "MOST_GENERATIONS" = some (some (.int 1000000000 t_MOST_GENERATIONS)))
  (hg_MOST_TIMES : PySem.W.nsIn K mainGlobals "MOST_TIMES" = some (some (.int 1000000000000 t_MOST_TIMES)))
  (hg_LONGEST_PLAN : PySem.W.nsIn K mainGlobals "LONGEST_PLAN" = some (some (.int 2000 t_LONGEST_PLAN)))
  (hg_RULES : PySem.W.nsIn K mainGlobals "RULES" = some (some (.ref r_RULES)))
  (hl_RULES : K.lookup r_RULES = some ⟨.type "tuple", dd_RULES, .seq #[.str "last" u0_RULES, .str "first" u1_RULES, .str "lowest" u2_RULES, .str "least" u3_RULES] nn_RULES, sl_RULES⟩)
  (a_is_integer : PySem.W.nsIn K mainGlobals "is_integer" = some (some (.ref f_is_integer)))
  (l_is_integer : K.lookup f_is_integer = some ⟨oc_is_integer, od_is_integer, .func (PySem.W.fnOf "is_integer" "is_integer" (defArgs s_is_integer) (defBody s_is_integer) (defScope s_is_integer) .none kV_is_integer dc_is_integer pm_is_integer an_is_integer cd_is_integer ct_is_integer), sl_is_integer⟩)
  (c_is_integer : PySem.W.codeIn K cd_is_integer "is_integer" = true)
  (k_is_integer : PySem.W.keepIn K (.ref f_is_integer) = true)
  (a_is_between : PySem.W.nsIn K mainGlobals "is_between" = some (some (.ref f_is_between)))
  (l_is_between : K.lookup f_is_between = some ⟨oc_is_between, od_is_between, .func (PySem.W.fnOf "is_between" "is_between" (defArgs s_is_between) (defBody s_is_between) (defScope s_is_between) .none kV_is_between dc_is_between pm_is_between an_is_between cd_is_between ct_is_between), sl_is_between⟩)
  (c_is_between : PySem.W.codeIn K cd_is_between "is_between" = true)
  (k_is_between : PySem.W.keepIn K (.ref f_is_between) = true)
  (a_is_rule : PySem.W.nsIn K mainGlobals "is_rule" = some (some (.ref f_is_rule)))
  (l_is_rule : K.lookup f_is_rule = some ⟨oc_is_rule, od_is_rule, .func (PySem.W.fnOf "is_rule" "is_rule" (defArgs s_is_rule) (defBody s_is_rule) (defScope s_is_rule) .none kV_is_rule dc_is_rule pm_is_rule an_is_rule cd_is_rule ct_is_rule), sl_is_rule⟩)
  (c_is_rule : PySem.W.codeIn K cd_is_rule "is_rule" = true)
  (k_is_rule : PySem.W.keepIn K (.ref f_is_rule) = true)
  (a_check_map : PySem.W.nsIn K mainGlobals "check_map" = some (some (.ref f_check_map)))
  (l_check_map : K.lookup f_check_map = some ⟨oc_check_map, od_check_map, .func (PySem.W.fnOf "check_map" "check_map" (defArgs s_check_map) (defBody s_check_map) (defScope s_check_map) .none kV_check_map dc_check_map pm_check_map an_check_map cd_check_map ct_check_map), sl_check_map⟩)
  (c_check_map : PySem.W.codeIn K cd_check_map "check_map" = true)
  (k_check_map : PySem.W.keepIn K (.ref f_check_map) = true)
  (a_taking_order : PySem.W.nsIn K mainGlobals "taking_order" = some (some (.ref f_taking_order)))
  (l_taking_order : K.lookup f_taking_order = some ⟨oc_taking_order, od_taking_order, .func (PySem.W.fnOf "taking_order" "taking_order" (defArgs s_taking_order) (defBody s_taking_order) (defScope s_taking_order) .none kV_taking_order dc_taking_order pm_taking_order an_taking_order (.ref c_taking_order) ct_taking_order), sl_taking_order⟩)
  (cc_taking_order : PySem.W.codeIn K (.ref c_taking_order) "taking_order" = true)
  (k_taking_order : PySem.W.keepIn K (.ref f_taking_order) = true)
  (lc_taking_order : K.lookup c_taking_order = some ⟨coc_taking_order, cod_taking_order, .fields vs_taking_order, csl_taking_order⟩)
  (v_taking_order : vs_taking_order[11]? = some (.ref P_taking_order))
  (np_taking_order : K.lookup P_taking_order = none)
  (a_order_behind : PySem.W.nsIn K mainGlobals "order_behind" = some (some (.ref f_order_behind)))
  (l_order_behind : K.lookup f_order_behind = some ⟨oc_order_behind, od_order_behind, .func (PySem.W.fnOf "order_behind" "order_behind" (defArgs s_order_behind) (defBody s_order_behind) (defScope s_order_behind) .none kV_order_behind dc_order_behind pm_order_behind an_order_behind cd_order_behind ct_order_behind), sl_order_behind⟩)
  (c_order_behind : PySem.W.codeIn K cd_order_behind "order_behind" = true)
  (k_order_behind : PySem.W.keepIn K (.ref f_order_behind) = true)
  (a_Slots___init__ : PySem.W.findIn K (.ref C_Slots) "__init__" = some (some (.ref f_Slots___init__)))
  (i_Slots___init__ : PySem.W.isFn K (.ref f_Slots___init__) = true)
  (l_Slots___init__ : K.lookup f_Slots___init__ = some ⟨oc_Slots___init__, od_Slots___init__, .func (PySem.W.fnOf "__init__" "Slots.__init__" (defArgs s_Slots___init__) (defBody s_Slots___init__) (defScope s_Slots___init__) .none kV_Slots___init__ dc_Slots___init__ pm_Slots___init__ an_Slots___init__ cd_Slots___init__ ct_Slots___init__), sl_Slots___init__⟩)
  (c_Slots___init__ : PySem.W.codeIn K cd_Slots___init__ "Slots.__init__" = true)
  (k_Slots___init__ : PySem.W.keepIn K (.ref f_Slots___init__) = true)
  (a_Slots_generation_of : PySem.W.findIn K (.ref C_Slots) "generation_of" = some (some (.ref f_Slots_generation_of)))
  (i_Slots_generation_of : PySem.W.isFn K (.ref f_Slots_generation_of) = true)
  (l_Slots_generation_of : K.lookup f_Slots_generation_of = some ⟨oc_Slots_generation_of, od_Slots_generation_of, .func (PySem.W.fnOf "generation_of" "Slots.generation_of" (defArgs s_Slots_generation_of) (defBody s_Slots_generation_of) (defScope s_Slots_generation_of) .none kV_Slots_generation_of dc_Slots_generation_of pm_Slots_generation_of an_Slots_generation_of cd_Slots_generation_of ct_Slots_generation_of), sl_Slots_generation_of⟩)
  (c_Slots_generation_of : PySem.W.codeIn K cd_Slots_generation_of "Slots.generation_of" = true)
  (k_Slots_generation_of : PySem.W.keepIn K (.ref f_Slots_generation_of) = true)
  (a_Slots___len__ : PySem.W.findIn K (.ref C_Slots) "__len__" = some (some (.ref f_Slots___len__)))
  (i_Slots___len__ : PySem.W.isFn K (.ref f_Slots___len__) = true)
  (l_Slots___len__ : K.lookup f_Slots___len__ = some ⟨oc_Slots___len__, od_Slots___len__, .func (PySem.W.fnOf "__len__" "Slots.__len__" (defArgs s_Slots___len__) (defBody s_Slots___len__) (defScope s_Slots___len__) .none kV_Slots___len__ dc_Slots___len__ pm_Slots___len__ an_Slots___len__ cd_Slots___len__ ct_Slots___len__), sl_Slots___len__⟩)
  (c_Slots___len__ : PySem.W.codeIn K cd_Slots___len__ "Slots.__len__" = true)
  (k_Slots___len__ : PySem.W.keepIn K (.ref f_Slots___len__) = true)
  (a_Slots_counts : PySem.W.findIn K (.ref C_Slots) "counts" = some (some (.ref f_Slots_counts)))
  (i_Slots_counts : PySem.W.isFn K (.ref f_Slots_counts) = true)
  (l_Slots_counts : K.lookup f_Slots_counts = some ⟨oc_Slots_counts, od_Slots_counts, .func (PySem.W.fnOf "counts" "Slots.counts" (defArgs s_Slots_counts) (defBody s_Slots_counts) (defScope s_Slots_counts) .none kV_Slots_counts dc_Slots_counts pm_Slots_counts an_Slots_counts cd_Slots_counts ct_Slots_counts), sl_Slots_counts⟩)
  (c_Slots_counts : PySem.W.codeIn K cd_Slots_counts "Slots.counts" = true)
  (k_Slots_counts : PySem.W.keepIn K (.ref f_Slots_counts) = true)
  (a_Slots_live : PySem.W.findIn K (.ref C_Slots) "live" = some (some (.ref f_Slots_live)))
  (i_Slots_live : PySem.W.isFn K (.ref f_Slots_live) = true)
  (l_Slots_live : K.lookup f_Slots_live = some ⟨oc_Slots_live, od_Slots_live, .func (PySem.W.fnOf "live" "Slots.live" (defArgs s_Slots_live) (defBody s_Slots_live) (defScope s_Slots_live) .none kV_Slots_live dc_Slots_live pm_Slots_live an_Slots_live cd_Slots_live ct_Slots_live), sl_Slots_live⟩)
  (c_Slots_live : PySem.W.codeIn K cd_Slots_live "Slots.live" = true)
  (k_Slots_live : PySem.W.keepIn K (.ref f_Slots_live) = true)
  (a_Slots_free : PySem.W.findIn K (.ref C_Slots) "free" = some (some (.ref f_Slots_free)))
  (i_Slots_free : PySem.W.isFn K (.ref f_Slots_free) = true)
  (l_Slots_free : K.lookup f_Slots_free = some ⟨oc_Slots_free, od_Slots_free, .func (PySem.W.fnOf "free" "Slots.free" (defArgs s_Slots_free) (defBody s_Slots_free) (defScope s_Slots_free) .none kV_Slots_free dc_Slots_free pm_Slots_free an_Slots_free cd_Slots_free ct_Slots_free), sl_Slots_free⟩)
  (c_Slots_free : PySem.W.codeIn K cd_Slots_free "Slots.free" = true)
  (k_Slots_free : PySem.W.keepIn K (.ref f_Slots_free) = true)
  (a_Slots___contains__ : PySem.W.findIn K (.ref C_Slots) "__contains__" = some (some (.ref f_Slots___contains__)))
  (i_Slots___contains__ : PySem.W.isFn K (.ref f_Slots___contains__) = true)
  (l_Slots___contains__ : K.lookup f_Slots___contains__ = some ⟨oc_Slots___contains__, od_Slots___contains__, .func (PySem.W.fnOf "__contains__" "Slots.__contains__" (defArgs s_Slots___contains__) (defBody s_Slots___contains__) (defScope s_Slots___contains__) .none kV_Slots___contains__ dc_Slots___contains__ pm_Slots___contains__ an_Slots___contains__ cd_Slots___contains__ ct_Slots___contains__), sl_Slots___contains__⟩)
  (c_Slots___contains__ : PySem.W.codeIn K cd_Slots___contains__ "Slots.__contains__" = true)
  (k_Slots___contains__ : PySem.W.keepIn K (.ref f_Slots___contains__) = true)
  (a_Slots_check_handle : PySem.W.findIn K (.ref C_Slots) "check_handle" = some (some (.ref f_Slots_check_handle)))
  (i_Slots_check_handle : PySem.W.isFn K (.ref f_Slots_check_handle) = true)
  (l_Slots_check_handle : K.lookup f_Slots_check_handle = some ⟨oc_Slots_check_handle, od_Slots_check_handle, .func (PySem.W.fnOf "check_handle" "Slots.check_handle" (defArgs s_Slots_check_handle) (defBody s_Slots_check_handle) (defScope s_Slots_check_handle) .none kV_Slots_check_handle dc_Slots_check_handle pm_Slots_check_handle an_Slots_check_handle cd_Slots_check_handle ct_Slots_check_handle), sl_Slots_check_handle⟩)
  (c_Slots_check_handle : PySem.W.codeIn K cd_Slots_check_handle "Slots.check_handle" = true)
  (k_Slots_check_handle : PySem.W.keepIn K (.ref f_Slots_check_handle) = true)
  (a_Slots___getitem__ : PySem.W.findIn K (.ref C_Slots) "__getitem__" = some (some (.ref f_Slots___getitem__)))
  (i_Slots___getitem__ : PySem.W.isFn K (.ref f_Slots___getitem__) = true)
  (l_Slots___getitem__ : K.lookup f_Slots___getitem__ = some ⟨oc_Slots___getitem__, od_Slots___getitem__, .func (PySem.W.fnOf "__getitem__" "Slots.__getitem__" (defArgs s_Slots___getitem__) (defBody s_Slots___getitem__) (defScope s_Slots___getitem__) .none kV_Slots___getitem__ dc_Slots___getitem__ pm_Slots___getitem__ an_Slots___getitem__ cd_Slots___getitem__ ct_Slots___getitem__), sl_Slots___getitem__⟩)
  (c_Slots___getitem__ : PySem.W.codeIn K cd_Slots___getitem__ "Slots.__getitem__" = true)
  (k_Slots___getitem__ : PySem.W.keepIn K (.ref f_Slots___getitem__) = true)
  (a_Slots_take : PySem.W.findIn K (.ref C_Slots) "take" = some (some (.ref f_Slots_take)))
  (i_Slots_take : PySem.W.isFn K (.ref f_Slots_take) = true)
  (l_Slots_take : K.lookup f_Slots_take = some ⟨oc_Slots_take, od_Slots_take, .func (PySem.W.fnOf "take" "Slots.take" (defArgs s_Slots_take) (defBody s_Slots_take) (defScope s_Slots_take) .none kV_Slots_take dc_Slots_take pm_Slots_take an_Slots_take cd_Slots_take ct_Slots_take), sl_Slots_take⟩)
  (c_Slots_take : PySem.W.codeIn K cd_Slots_take "Slots.take" = true)
  (k_Slots_take : PySem.W.keepIn K (.ref f_Slots_take) = true)
  (a_Slots_give : PySem.W.findIn K (.ref C_Slots) "give" = some (some (.ref f_Slots_give)))
  (i_Slots_give : PySem.W.isFn K (.ref f_Slots_give) = true)
  (l_Slots_give : K.lookup f_Slots_give = some ⟨oc_Slots_give, od_Slots_give, .func (PySem.W.fnOf "give" "Slots.give" (defArgs s_Slots_give) (defBody s_Slots_give) (defScope s_Slots_give) .none kV_Slots_give dc_Slots_give pm_Slots_give an_Slots_give cd_Slots_give ct_Slots_give), sl_Slots_give⟩)
  (c_Slots_give : PySem.W.codeIn K cd_Slots_give "Slots.give" = true)
  (k_Slots_give : PySem.W.keepIn K (.ref f_Slots_give) = true)
  (a_Slots_copy : PySem.W.findIn K (.ref C_Slots) "copy" = some (some (.ref f_Slots_copy)))
  (i_Slots_copy : PySem.W.isFn K (.ref f_Slots_copy) = true)
  (l_Slots_copy : K.lookup f_Slots_copy = some ⟨oc_Slots_copy, od_Slots_copy, .func (PySem.W.fnOf "copy" "Slots.copy" (defArgs s_Slots_copy) (defBody s_Slots_copy) (defScope s_Slots_copy) .none kV_Slots_copy dc_Slots_copy pm_Slots_copy an_Slots_copy cd_Slots_copy ct_Slots_copy), sl_Slots_copy⟩)
  (c_Slots_copy : PySem.W.codeIn K cd_Slots_copy "Slots.copy" = true)
  (k_Slots_copy : PySem.W.keepIn K (.ref f_Slots_copy) = true)
  (a_Slots_arguments : PySem.W.findIn K (.ref C_Slots) "arguments" = some (some (.ref f_Slots_arguments)))
  (i_Slots_arguments : PySem.W.isFn K (.ref f_Slots_arguments) = true)
  (l_Slots_arguments : K.lookup f_Slots_arguments = some ⟨oc_Slots_arguments, od_Slots_arguments, .func (PySem.W.fnOf "arguments" "Slots.arguments" (defArgs s_Slots_arguments) (defBody s_Slots_arguments) (defScope s_Slots_arguments) .none kV_Slots_arguments dc_Slots_arguments pm_Slots_arguments an_Slots_arguments cd_Slots_arguments ct_Slots_arguments), sl_Slots_arguments⟩)
  (c_Slots_arguments : PySem.W.codeIn K cd_Slots_arguments "Slots.arguments" = true)
  (k_Slots_arguments : PySem.W.keepIn K (.ref f_Slots_arguments) = true)
  (a_Slots_state : PySem.W.findIn K (.ref C_Slots) "state" = some (some (.ref f_Slots_state)))
  (i_Slots_state : PySem.W.isFn K (.ref f_Slots_state) = true)
  (l_Slots_state : K.lookup f_Slots_state = some ⟨oc_Slots_state, od_Slots_state, .func (PySem.W.fnOf "state" "Slots.state" (defArgs s_Slots_state) (defBody s_Slots_state) (defScope s_Slots_state) .none kV_Slots_state dc_Slots_state pm_Slots_state an_Slots_state cd_Slots_state ct_Slots_state), sl_Slots_state⟩)
  (c_Slots_state : PySem.W.codeIn K cd_Slots_state "Slots.state" = true)
  (k_Slots_state : PySem.W.keepIn K (.ref f_Slots_state) = true)
  (a_Slots___eq__ : PySem.W.findIn K (.ref C_Slots) "__eq__" = some (some (.ref f_Slots___eq__)))
  (i_Slots___eq__ : PySem.W.isFn K (.ref f_Slots___eq__) = true)
  (l_Slots___eq__ : K.lookup f_Slots___eq__ = some ⟨oc_Slots___eq__, od_Slots___eq__, .func (PySem.W.fnOf "__eq__" "Slots.__eq__" (defArgs s_Slots___eq__) (defBody s_Slots___eq__) (defScope s_Slots___eq__) .none kV_Slots___eq__ dc_Slots___eq__ pm_Slots___eq__ an_Slots___eq__ cd_Slots___eq__ ct_Slots___eq__), sl_Slots___eq__⟩)
  (c_Slots___eq__ : PySem.W.codeIn K cd_Slots___eq__ "Slots.__eq__" = true)
  (k_Slots___eq__ : PySem.W.keepIn K (.ref f_Slots___eq__) = true)
  (a__law_cell_at : PySem.W.nsIn K mainGlobals "_law_cell_at" = some (some (.ref f__law_cell_at)))
  (l__law_cell_at : K.lookup f__law_cell_at = some ⟨oc__law_cell_at, od__law_cell_at, .func (PySem.W.fnOf "_law_cell_at" "_law_cell_at" (defArgs s__law_cell_at) (defBody s__law_cell_at) (defScope s__law_cell_at) .none kV__law_cell_at dc__law_cell_at pm__law_cell_at an__law_cell_at cd__law_cell_at ct__law_cell_at), sl__law_cell_at⟩)
  (c__law_cell_at : PySem.W.codeIn K cd__law_cell_at "_law_cell_at" = true)
  (k__law_cell_at : PySem.W.keepIn K (.ref f__law_cell_at) = true)
  (a__law_source_of : PySem.W.nsIn K mainGlobals "_law_source_of" = some (some (.ref f__law_source_of)))
  (l__law_source_of : K.lookup f__law_source_of = some ⟨oc__law_source_of, od__law_source_of, .func (PySem.W.fnOf "_law_source_of" "_law_source_of" (defArgs s__law_source_of) (defBody s__law_source_of) (defScope s__law_source_of) .none kV__law_source_of dc__law_source_of pm__law_source_of an__law_source_of cd__law_source_of ct__law_source_of), sl__law_source_of⟩)
  (c__law_source_of : PySem.W.codeIn K cd__law_source_of "_law_source_of" = true)
  (k__law_source_of : PySem.W.keepIn K (.ref f__law_source_of) = true)
  (a__law_next : PySem.W.nsIn K mainGlobals "_law_next" = some (some (.ref f__law_next)))
  (l__law_next : K.lookup f__law_next = some ⟨oc__law_next, od__law_next, .func (PySem.W.fnOf "_law_next" "_law_next" (defArgs s__law_next) (defBody s__law_next) (defScope s__law_next) .none kV__law_next dc__law_next pm__law_next an__law_next cd__law_next ct__law_next), sl__law_next⟩)
  (c__law_next : PySem.W.codeIn K cd__law_next "_law_next" = true)
  (k__law_next : PySem.W.keepIn K (.ref f__law_next) = true)
  (a__law_one : PySem.W.nsIn K mainGlobals "_law_one" = some (some (.ref f__law_one)))
  (l__law_one : K.lookup f__law_one = some ⟨oc__law_one, od__law_one, .func (PySem.W.fnOf "_law_one" "_law_one" (defArgs s__law_one) (defBody s__law_one) (defScope s__law_one) .none kV__law_one dc__law_one pm__law_one an__law_one cd__law_one ct__law_one), sl__law_one⟩)
  (c__law_one : PySem.W.codeIn K cd__law_one "_law_one" = true)
  (k__law_one : PySem.W.keepIn K (.ref f__law_one) = true)
  (a__law_numbers : PySem.W.nsIn K mainGlobals "_law_numbers" = some (some (.ref f__law_numbers)))
  (l__law_numbers : K.lookup f__law_numbers = some ⟨oc__law_numbers, od__law_numbers, .func (PySem.W.fnOf "_law_numbers" "_law_numbers" (defArgs s__law_numbers) (defBody s__law_numbers) (defScope s__law_numbers) .none kV__law_numbers dc__law_numbers pm__law_numbers an__law_numbers cd__law_numbers ct__law_numbers), sl__law_numbers⟩)
  (c__law_numbers : PySem.W.codeIn K cd__law_numbers "_law_numbers" = true)
  (k__law_numbers : PySem.W.keepIn K (.ref f__law_numbers) = true)
  (a__law_deeds : PySem.W.nsIn K mainGlobals "_law_deeds" = some (some (.ref f__law_deeds)))
  (l__law_deeds : K.lookup f__law_deeds = some ⟨oc__law_deeds, od__law_deeds, .func (PySem.W.fnOf "_law_deeds" "_law_deeds" (defArgs s__law_deeds) (defBody s__law_deeds) (defScope s__law_deeds) .none kV__law_deeds dc__law_deeds pm__law_deeds an__law_deeds cd__law_deeds ct__law_deeds), sl__law_deeds⟩)
  (c__law_deeds : PySem.W.codeIn K cd__law_deeds "_law_deeds" = true)
  (k__law_deeds : PySem.W.keepIn K (.ref f__law_deeds) = true)
  (a__law_execute : PySem.W.nsIn K mainGlobals "_law_execute" = some (some (.ref f__law_execute)))
  (l__law_execute : K.lookup f__law_execute = some ⟨oc__law_execute, od__law_execute, .func (PySem.W.fnOf "_law_execute" "_law_execute" (defArgs s__law_execute) (defBody s__law_execute) (defScope s__law_execute) .none kV__law_execute dc__law_execute pm__law_execute an__law_execute cd__law_execute ct__law_execute), sl__law_execute⟩)
  (c__law_execute : PySem.W.codeIn K cd__law_execute "_law_execute" = true)
  (k__law_execute : PySem.W.keepIn K (.ref f__law_execute) = true)
  (a_least_for_last : PySem.W.nsIn K mainGlobals "least_for_last" = some (some (.ref f_least_for_last)))
  (l_least_for_last : K.lookup f_least_for_last = some ⟨oc_least_for_last, od_least_for_last, .func (PySem.W.fnOf "least_for_last" "least_for_last" (defArgs s_least_for_last) (defBody s_least_for_last) (defScope s_least_for_last) .none kV_least_for_last dc_least_for_last pm_least_for_last an_least_for_last cd_least_for_last ct_least_for_last), sl_least_for_last⟩)
  (c_least_for_last : PySem.W.codeIn K cd_least_for_last "least_for_last" = true)
  (k_least_for_last : PySem.W.keepIn K (.ref f_least_for_last) = true)
  (a_least_for_lowest : PySem.W.nsIn K mainGlobals "least_for_lowest" = some (some (.ref f_least_for_lowest)))
  (l_least_for_lowest : K.lookup f_least_for_lowest = some ⟨oc_least_for_lowest, od_least_for_lowest, .func (PySem.W.fnOf "least_for_lowest" "least_for_lowest" (defArgs s_least_for_lowest) (defBody s_least_for_lowest) (defScope s_least_for_lowest) .none kV_least_for_lowest dc_least_for_lowest pm_least_for_lowest an_least_for_lowest cd_least_for_lowest ct_least_for_lowest), sl_least_for_lowest⟩)
  (c_least_for_lowest : PySem.W.codeIn K cd_least_for_lowest "least_for_lowest" = true)
  (k_least_for_lowest : PySem.W.keepIn K (.ref f_least_for_lowest) = true)
  (a_least_for_first : PySem.W.nsIn K mainGlobals "least_for_first" = some (some (.ref f_least_for_first)))
  (l_least_for_first : K.lookup f_least_for_first = some ⟨oc_least_for_first, od_least_for_first, .func (PySem.W.fnOf "least_for_first" "least_for_first" (defArgs s_least_for_first) (defBody s_least_for_first) (defScope s_least_for_first) .none kV_least_for_first dc_least_for_first pm_least_for_first an_least_for_first cd_least_for_first ct_least_for_first), sl_least_for_first⟩)
  (c_least_for_first : PySem.W.codeIn K cd_least_for_first "least_for_first" = true)
  (k_least_for_first : PySem.W.keepIn K (.ref f_least_for_first) = true)
  (a_is_slot : PySem.W.nsIn K mainGlobals "is_slot" = some (some (.ref f_is_slot)))
  (l_is_slot : K.lookup f_is_slot = some ⟨oc_is_slot, od_is_slot, .func (PySem.W.fnOf "is_slot" "is_slot" (defArgs s_is_slot) (defBody s_is_slot) (defScope s_is_slot) .none kV_is_slot dc_is_slot pm_is_slot an_is_slot cd_is_slot ct_is_slot), sl_is_slot⟩)
  (c_is_slot : PySem.W.codeIn K cd_is_slot "is_slot" = true)
  (k_is_slot : PySem.W.keepIn K (.ref f_is_slot) = true)
  (a_NoSlot___init__ : PySem.W.findIn K (.ref C_NoSlot) "__init__" = some (some (.ref f_NoSlot___init__)))
  (i_NoSlot___init__ : PySem.W.isFn K (.ref f_NoSlot___init__) = true)
  (l_NoSlot___init__ : K.lookup f_NoSlot___init__ = some ⟨oc_NoSlot___init__, od_NoSlot___init__, .func (PySem.W.fnOf "__init__" "NoSlot.__init__" (defArgs s_NoSlot___init__) (defBody s_NoSlot___init__) (defScope s_NoSlot___init__) .none kV_NoSlot___init__ dc_NoSlot___init__ pm_NoSlot___init__ an_NoSlot___init__ cd_NoSlot___init__ ct_NoSlot___init__), sl_NoSlot___init__⟩)
  (c_NoSlot___init__ : PySem.W.codeIn K cd_NoSlot___init__ "NoSlot.__init__" = true)
  (k_NoSlot___init__ : PySem.W.keepIn K (.ref f_NoSlot___init__) = true)
  (a_NoTimes___init__ : PySem.W.findIn K (.ref C_NoTimes) "__init__" = some (some (.ref f_NoTimes___init__)))
  (i_NoTimes___init__ : PySem.W.isFn K (.ref f_NoTimes___init__) = true)
  (l_NoTimes___init__ : K.lookup f_NoTimes___init__ = some ⟨oc_NoTimes___init__, od_NoTimes___init__, .func (PySem.W.fnOf "__init__" "NoTimes.__init__" (defArgs s_NoTimes___init__) (defBody s_NoTimes___init__) (defScope s_NoTimes___init__) .none kV_NoTimes___init__ dc_NoTimes___init__ pm_NoTimes___init__ an_NoTimes___init__ cd_NoTimes___init__ ct_NoTimes___init__), sl_NoTimes___init__⟩)
  (c_NoTimes___init__ : PySem.W.codeIn K cd_NoTimes___init__ "NoTimes.__init__" = true)
  (k_NoTimes___init__ : PySem.W.keepIn K (.ref f_NoTimes___init__) = true)
  (a_check_question : PySem.W.nsIn K mainGlobals "check_question" = some (some (.ref f_check_question)))
  (l_check_question : K.lookup f_check_question = some ⟨oc_check_question, od_check_question, .func (PySem.W.fnOf "check_question" "check_question" (defArgs s_check_question) (defBody s_check_question) (defScope s_check_question) .none kV_check_question dc_check_question pm_check_question an_check_question cd_check_question ct_check_question), sl_check_question⟩)
  (c_check_question : PySem.W.codeIn K cd_check_question "check_question" = true)
  (k_check_question : PySem.W.keepIn K (.ref f_check_question) = true)
  (a_shortages : PySem.W.nsIn K mainGlobals "shortages" = some (some (.ref f_shortages)))
  (l_shortages : K.lookup f_shortages = some ⟨oc_shortages, od_shortages, .func (PySem.W.fnOf "shortages" "shortages" (defArgs s_shortages) (defBody s_shortages) (defScope s_shortages) .none kV_shortages dc_shortages pm_shortages an_shortages cd_shortages ct_shortages), sl_shortages⟩)
  (c_shortages : PySem.W.codeIn K cd_shortages "shortages" = true)
  (k_shortages : PySem.W.keepIn K (.ref f_shortages) = true)
  (a_savings : PySem.W.nsIn K mainGlobals "savings" = some (some (.ref f_savings)))
  (l_savings : K.lookup f_savings = some ⟨oc_savings, od_savings, .func (PySem.W.fnOf "savings" "savings" (defArgs s_savings) (defBody s_savings) (defScope s_savings) .none kV_savings dc_savings pm_savings an_savings cd_savings ct_savings), sl_savings⟩)
  (c_savings : PySem.W.codeIn K cd_savings "savings" = true)
  (k_savings : PySem.W.keepIn K (.ref f_savings) = true)
  (a_least_for_least : PySem.W.nsIn K mainGlobals "least_for_least" = some (some (.ref f_least_for_least)))
  (l_least_for_least : K.lookup f_least_for_least = some ⟨oc_least_for_least, od_least_for_least, .func (PySem.W.fnOf "least_for_least" "least_for_least" (defArgs s_least_for_least) (defBody s_least_for_least) (defScope s_least_for_least) .none kV_least_for_least dc_least_for_least pm_least_for_least an_least_for_least cd_least_for_least ct_least_for_least), sl_least_for_least⟩)
  (c_least_for_least : PySem.W.codeIn K cd_least_for_least "least_for_least" = true)
  (k_least_for_least : PySem.W.keepIn K (.ref f_least_for_least) = true)
  (a_least_number : PySem.W.nsIn K mainGlobals "least_number" = some (some (.ref f_least_number)))
  (l_least_number : K.lookup f_least_number = some ⟨oc_least_number, od_least_number, .func (PySem.W.fnOf "least_number" "least_number" (defArgs s_least_number) (defBody s_least_number) (defScope s_least_number) .none kV_least_number dc_least_number pm_least_number an_least_number cd_least_number ct_least_number), sl_least_number⟩)
  (c_least_number : PySem.W.codeIn K cd_least_number "least_number" = true)
  (k_least_number : PySem.W.keepIn K (.ref f_least_number) = true)
  (a_least : PySem.W.nsIn K mainGlobals "least" = some (some (.ref f_least)))
  (l_least : K.lookup f_least = some ⟨oc_least, od_least, .func (PySem.W.fnOf "least" "least" (defArgs s_least) (defBody s_least) (defScope s_least) .none kV_least dc_least pm_least an_least cd_least ct_least), sl_least⟩)
  (c_least : PySem.W.codeIn K cd_least "least" = true)
  (k_least : PySem.W.keepIn K (.ref f_least) = true)
  (a__law_map : PySem.W.nsIn K mainGlobals "_law_map" = some (some (.ref f__law_map)))
  (l__law_map : K.lookup f__law_map = some ⟨oc__law_map, od__law_map, .func (PySem.W.fnOf "_law_map" "_law_map" (defArgs s__law_map) (defBody s__law_map) (defScope s__law_map) .none kV__law_map dc__law_map pm__law_map an__law_map cd__law_map ct__law_map), sl__law_map⟩)
  (c__law_map : PySem.W.codeIn K cd__law_map "_law_map" = true)
  (k__law_map : PySem.W.keepIn K (.ref f__law_map) = true)
  (a_TooLong___init__ : PySem.W.findIn K (.ref C_TooLong) "__init__" = some (some (.ref f_TooLong___init__)))
  (i_TooLong___init__ : PySem.W.isFn K (.ref f_TooLong___init__) = true)
  (l_TooLong___init__ : K.lookup f_TooLong___init__ = some ⟨oc_TooLong___init__, od_TooLong___init__, .func (PySem.W.fnOf "__init__" "TooLong.__init__" (defArgs s_TooLong___init__) (defBody s_TooLong___init__) (defScope s_TooLong___init__) .none kV_TooLong___init__ dc_TooLong___init__ pm_TooLong___init__ an_TooLong___init__ cd_TooLong___init__ ct_TooLong___init__), sl_TooLong___init__⟩)
  (c_TooLong___init__ : PySem.W.codeIn K cd_TooLong___init__ "TooLong.__init__" = true)
  (k_TooLong___init__ : PySem.W.keepIn K (.ref f_TooLong___init__) = true)
  (a_handle_of : PySem.W.nsIn K mainGlobals "handle_of" = some (some (.ref f_handle_of)))
  (l_handle_of : K.lookup f_handle_of = some ⟨oc_handle_of, od_handle_of, .func (PySem.W.fnOf "handle_of" "handle_of" (defArgs s_handle_of) (defBody s_handle_of) (defScope s_handle_of) .none kV_handle_of dc_handle_of pm_handle_of an_handle_of cd_handle_of ct_handle_of), sl_handle_of⟩)
  (c_handle_of : PySem.W.codeIn K cd_handle_of "handle_of" = true)
  (k_handle_of : PySem.W.keepIn K (.ref f_handle_of) = true)
  (a_slots_to_give : PySem.W.nsIn K mainGlobals "slots_to_give" = some (some (.ref f_slots_to_give)))
  (l_slots_to_give : K.lookup f_slots_to_give = some ⟨oc_slots_to_give, od_slots_to_give, .func (PySem.W.fnOf "slots_to_give" "slots_to_give" (defArgs s_slots_to_give) (defBody s_slots_to_give) (defScope s_slots_to_give) .none kV_slots_to_give dc_slots_to_give pm_slots_to_give an_slots_to_give cd_slots_to_give ct_slots_to_give), sl_slots_to_give⟩)
  (c_slots_to_give : PySem.W.codeIn K cd_slots_to_give "slots_to_give" = true)
  (k_slots_to_give : PySem.W.keepIn K (.ref f_slots_to_give) = true)
  (a_plan : PySem.W.nsIn K mainGlobals "plan" = some (some (.ref f_plan)))
  (l_plan : K.lookup f_plan = some ⟨oc_plan, od_plan, .func (PySem.W.fnOf "plan" "plan" (defArgs s_plan) (defBody s_plan) (defScope s_plan) .none kV_plan dc_plan pm_plan an_plan cd_plan ct_plan), sl_plan⟩)
  (c_plan : PySem.W.codeIn K cd_plan "plan" = true)
  (k_plan : PySem.W.keepIn K (.ref f_plan) = true)
  (a_is_call : PySem.W.nsIn K mainGlobals "is_call" = some (some (.ref f_is_call)))
  (l_is_call : K.lookup f_is_call = some ⟨oc_is_call, od_is_call, .func (PySem.W.fnOf "is_call" "is_call" (defArgs s_is_call) (defBody s_is_call) (defScope s_is_call) .none kV_is_call dc_is_call pm_is_call an_is_call cd_is_call ct_is_call), sl_is_call⟩)
  (c_is_call : PySem.W.codeIn K cd_is_call "is_call" = true)
  (k_is_call : PySem.W.keepIn K (.ref f_is_call) = true)
  (a_is_done : PySem.W.nsIn K mainGlobals "is_done" = some (some (.ref f_is_done)))
  (l_is_done : K.lookup f_is_done = some ⟨oc_is_done, od_is_done, .func (PySem.W.fnOf "is_done" "is_done" (defArgs s_is_done) (defBody s_is_done) (defScope s_is_done) .none kV_is_done dc_is_done pm_is_done an_is_done cd_is_done ct_is_done), sl_is_done⟩)
  (c_is_done : PySem.W.codeIn K cd_is_done "is_done" = true)
  (k_is_done : PySem.W.keepIn K (.ref f_is_done) = true)
  (a_judge_plan : PySem.W.nsIn K mainGlobals "judge_plan" = some (some (.ref f_judge_plan)))
  (l_judge_plan : K.lookup f_judge_plan = some ⟨oc_judge_plan, od_judge_plan, .func (PySem.W.fnOf "judge_plan" "judge_plan" (defArgs s_judge_plan) (defBody s_judge_plan) (defScope s_judge_plan) .none kV_judge_plan dc_judge_plan pm_judge_plan an_judge_plan cd_judge_plan ct_judge_plan), sl_judge_plan⟩)
  (c_judge_plan : PySem.W.codeIn K cd_judge_plan "judge_plan" = true)
  (k_judge_plan : PySem.W.keepIn K (.ref f_judge_plan) = true)
  (a__law_asked : PySem.W.nsIn K mainGlobals "_law_asked" = some (some (.ref f__law_asked)))
  (l__law_asked : K.lookup f__law_asked = some ⟨oc__law_asked, od__law_asked, .func (PySem.W.fnOf "_law_asked" "_law_asked" (defArgs s__law_asked) (defBody s__law_asked) (defScope s__law_asked) .none kV__law_asked dc__law_asked pm__law_asked an__law_asked cd__law_asked ct__law_asked), sl__law_asked⟩)
  (c__law_asked : PySem.W.codeIn K cd__law_asked "_law_asked" = true)
  (k__law_asked : PySem.W.keepIn K (.ref f__law_asked) = true)
  (a__law_said : PySem.W.nsIn K mainGlobals "_law_said" = some (some (.ref f__law_said)))
  (l__law_said : K.lookup f__law_said = some ⟨oc__law_said, od__law_said, .func (PySem.W.fnOf "_law_said" "_law_said" (defArgs s__law_said) (defBody s__law_said) (defScope s__law_said) .none kV__law_said dc__law_said pm__law_said an__law_said cd__law_said ct__law_said), sl__law_said⟩)
  (c__law_said : PySem.W.codeIn K cd__law_said "_law_said" = true)
  (k__law_said : PySem.W.keepIn K (.ref f__law_said) = true)
  (a_law : PySem.W.nsIn K mainGlobals "law" = some (some (.ref f_law)))
  (l_law : K.lookup f_law = some ⟨oc_law, od_law, .func (PySem.W.fnOf "law" "law" (defArgs s_law) (defBody s_law) (defScope s_law) .none kV_law dc_law pm_law an_law cd_law ct_law), sl_law⟩)
  (c_law : PySem.W.codeIn K cd_law "law" = true)
  (k_law : PySem.W.keepIn K (.ref f_law) = true)
  (lx_NoSlot : K.lookup C_NoSlot = some (excClassObj xnm_NoSlot xq_NoSlot C_NoSlot xN_NoSlot xbs_NoSlot xbm_NoSlot true xsn_NoSlot xsub_NoSlot xab_NoSlot xcol_NoSlot xdd_NoSlot xk0_NoSlot xk1_NoSlot xk2_NoSlot xk3_NoSlot xk5_NoSlot "ValueError.__new__"))
  (rv_NoSlot : PySem.HandSPX.refsVE xbm_NoSlot = true)
  (sa_NoSlot : PySem.W.findIn K (.ref C_NoSlot) "__setattr__" = some (some (.builtin "object.__setattr__")))
  (no_NoSlot : PySem.W.findIn K (.ref C_NoSlot) "slot" = some none)
  (tI_NoSlot : PySem.W.typeIn K (.ref f_NoSlot___init__) = some (.type "function"))
  (ga_NoSlot : PySem.W.findIn K (.ref C_NoSlot) "__getattribute__" = some (some (.builtin "BaseException.__getattribute__")))
  (gg_NoSlot : PySem.W.findIn K (.ref C_NoSlot) "__getattr__" = some none)
  (lx_NoTimes : K.lookup C_NoTimes = some (excClassObj xnm_NoTimes xq_NoTimes C_NoTimes xN_NoTimes xbs_NoTimes xbm_NoTimes true xsn_NoTimes xsub_NoTimes xab_NoTimes xcol_NoTimes xdd_NoTimes xk0_NoTimes xk1_NoTimes xk2_NoTimes xk3_NoTimes xk5_NoTimes "ValueError.__new__"))
  (rv_NoTimes : PySem.HandSPX.refsVE xbm_NoTimes = true)
  (sa_NoTimes : PySem.W.findIn K (.ref C_NoTimes) "__setattr__" = some (some (.builtin "object.__setattr__")))
  (no_NoTimes : PySem.W.findIn K (.ref C_NoTimes) "times" = some none)
  (tI_NoTimes : PySem.W.typeIn K (.ref f_NoTimes___init__) = some (.type "function"))
  (ga_NoTimes : PySem.W.findIn K (.ref C_NoTimes) "__getattribute__" = some (some (.builtin "BaseException.__getattribute__")))
  (gg_NoTimes : PySem.W.findIn K (.ref C_NoTimes) "__getattr__" = some none)
  (kx_Never : PySem.W.excIn K C_Never veBase "ValueError.__new__" = true)
  (lx_TooLong : K.lookup C_TooLong = some (excClassObj xnm_TooLong xq_TooLong C_TooLong xN_TooLong xbs_TooLong xbm_TooLong true xsn_TooLong xsub_TooLong xab_TooLong xcol_TooLong xdd_TooLong xk0_TooLong xk1_TooLong xk2_TooLong xk3_TooLong xk5_TooLong "ValueError.__new__"))
  (rv_TooLong : PySem.HandSPX.refsVE xbm_TooLong = true)
  (sa_TooLong : PySem.W.findIn K (.ref C_TooLong) "__setattr__" = some (some (.builtin "object.__setattr__")))
  (no_TooLong : PySem.W.findIn K (.ref C_TooLong) "number" = some none)
  (tI_TooLong : PySem.W.typeIn K (.ref f_TooLong___init__) = some (.type "function"))
  (ga_TooLong : PySem.W.findIn K (.ref C_TooLong) "__getattribute__" = some (some (.builtin "BaseException.__getattribute__")))
  (gg_TooLong : PySem.W.findIn K (.ref C_TooLong) "__getattr__" = some none)
  (nP : [P_taking_order].Nodup)
  : LawAtG l w K 12 63 "_law_script" mg fa h := by
  have e := hfa.symm.trans (PySem.W.mg_of X G a_law)
  cases e
  have tb_taking_order : PySem.W.CodeHd h c_taking_order P_taking_order ∧ h.get? P_taking_order = some { cls := .none, data := .fields #[] } := tab_at X HT (by simp) (PySem.W.mg_of X G a_taking_order) l_taking_order lc_taking_order v_taking_order
  let T : Txt K mg := {
    z_ValueError := PySem.W.mg_none_of X G hz_ValueError
    z_all := PySem.W.mg_none_of X G hz_all
    z_bool := PySem.W.mg_none_of X G hz_bool
    z_dict := PySem.W.mg_none_of X G hz_dict
    z_int := PySem.W.mg_none_of X G hz_int
    z_isinstance := PySem.W.mg_none_of X G hz_isinstance
    z_len := PySem.W.mg_none_of X G hz_len
    z_list := PySem.W.mg_none_of X G hz_list
    z_max := PySem.W.mg_none_of X G hz_max
    z_min := PySem.W.mg_none_of X G hz_min
    z_range := PySem.W.mg_none_of X G hz_range
    z_repr := PySem.W.mg_none_of X G hz_repr
    z_sorted := PySem.W.mg_none_of X G hz_sorted
    z_str := PySem.W.mg_none_of X G hz_str
    z_sum := PySem.W.mg_none_of X G hz_sum
    z_tuple := PySem.W.mg_none_of X G hz_tuple
    C_Slots := C_Slots
    g_Slots := PySem.W.mg_of X G hC_Slots
    cl_Slots := ⟨pg_Slots, hd_Slots, po_Slots, sa_Slots⟩
    n_Slots_n := nn_Slots_n
    n_Slots_limit := nn_Slots_limit
    n_Slots_generations := nn_Slots_generations
    n_Slots_rule := nn_Slots_rule
    n_Slots_order := nn_Slots_order
    n_Slots_ages := nn_Slots_ages
    n_Slots_taken := nn_Slots_taken
    n_Slots_held := nn_Slots_held
    ne_Slots := hne_Slots
    it_Slots := ⟨hit1, hit2, hit3, hit4⟩
    lt_Slots := kit_lt hl1_Slots hl2_Slots
    C_NoSlot := C_NoSlot
    g_NoSlot := PySem.W.mg_of X G hC_NoSlot
    C_NoTimes := C_NoTimes
    g_NoTimes := PySem.W.mg_of X G hC_NoTimes
    C_Never := C_Never
    g_Never := PySem.W.mg_of X G hC_Never
    C_TooLong := C_TooLong
    g_TooLong := PySem.W.mg_of X G hC_TooLong
    C_NoHandle := C_NoHandle
    g_NoHandle := PySem.W.mg_of X G hC_NoHandle
    C_SlotError := C_SlotError
    g_SlotError := PySem.W.mg_of X G hC_SlotError
    is_NoSlot := ⟨isga_NoSlot, isgg_NoSlot, isex_NoSlot, ishd_NoSlot, isha_NoSlot, ishn_NoSlot, isht_NoSlot, ishm_NoSlot⟩
    is_NoTimes := ⟨isga_NoTimes, isgg_NoTimes, isex_NoTimes, ishd_NoTimes, isha_NoTimes, ishn_NoTimes, isht_NoTimes, ishm_NoTimes⟩
    ve_NoSlot := isve_NoSlot
    ve_NoTimes := isve_NoTimes
    sb_NoSlot_NoSlot := sb_NoSlot_NoSlot
    sb_NoSlot_NoTimes := sb_NoSlot_NoTimes
    sb_NoSlot_NoHandle := sb_NoSlot_NoHandle
    sb_NoSlot_Never := sb_NoSlot_Never
    sb_NoSlot_TooLong := sb_NoSlot_TooLong
    sb_NoSlot_SlotError := sb_NoSlot_SlotError
    sb_NoTimes_NoSlot := sb_NoTimes_NoSlot
    sb_NoTimes_NoTimes := sb_NoTimes_NoTimes
    sb_NoTimes_NoHandle := sb_NoTimes_NoHandle
    sb_NoTimes_Never := sb_NoTimes_Never
    sb_NoTimes_TooLong := sb_NoTimes_TooLong
    sb_NoTimes_SlotError := sb_NoTimes_SlotError
    g_MOST_SLOTS := ⟨_, PySem.W.mg_of X G hg_MOST_SLOTS⟩
    g_MOST_GENERATIONS := ⟨_, PySem.W.mg_of X G hg_MOST_GENERATIONS⟩
    g_MOST_TIMES := ⟨_, PySem.W.mg_of X G hg_MOST_TIMES⟩
    g_LONGEST_PLAN := ⟨_, PySem.W.mg_of X G hg_LONGEST_PLAN⟩
    g_RULES := ⟨_, PySem.W.mg_of X G hg_RULES, fun H => .inr ⟨_, _, _, hl_RULES, rfl, rfl, (by show 4 ≤ sizeLine; decide), .cons ⟨_, rfl⟩ (.cons ⟨_, rfl⟩ (.cons ⟨_, rfl⟩ (.cons ⟨_, rfl⟩ (.nil))))⟩⟩
    f_is_integer := f_is_integer
    fd_is_integer := _
    F_is_integer := fun_mk (st := s_is_integer) l_is_integer c_is_integer k_is_integer
    m_is_integer := PySem.W.mg_of X G a_is_integer
    b_is_integer := (fun_mk (st := s_is_integer) l_is_integer c_is_integer k_is_integer).binds (ps := ["value"]) fun _ _ _ _ _ _ us hl => match us, hl with | [_], _ => rfl
    f_is_between := f_is_between
    fd_is_between := _
    F_is_between := fun_mk (st := s_is_between) l_is_between c_is_between k_is_between
    m_is_between := PySem.W.mg_of X G a_is_between
    kb_is_between := ⟨fun s us ws _ h1 h2 => match us, ws, h1, h2 with | [_], [_, _], _, _ => .of_eq rfl, fun r1 r2 => r1.append r2⟩
    f_is_rule := f_is_rule
    fd_is_rule := _
    F_is_rule := fun_mk (st := s_is_rule) l_is_rule c_is_rule k_is_rule
    m_is_rule := PySem.W.mg_of X G a_is_rule
    b_is_rule := (fun_mk (st := s_is_rule) l_is_rule c_is_rule k_is_rule).binds (ps := ["value"]) fun _ _ _ _ _ _ us hl => match us, hl with | [_], _ => rfl
    f_check_map := f_check_map
    fd_check_map := _
    F_check_map := fun_mk (st := s_check_map) l_check_map c_check_map k_check_map
    m_check_map := PySem.W.mg_of X G a_check_map
    b_check_map := (fun_mk (st := s_check_map) l_check_map c_check_map k_check_map).binds (ps := ["n", "limit", "generations", "rule"]) fun _ _ _ _ _ _ us hl => match us, hl with | [_, _, _, _], _ => rfl
    f_taking_order := f_taking_order
    fd_taking_order := _
    c_taking_order := c_taking_order
    P_taking_order := P_taking_order
    FC_taking_order := func_mk (st := s_taking_order) l_taking_order cc_taking_order
    F_taking_order := fun_mk (st := s_taking_order) l_taking_order cc_taking_order k_taking_order
    m_taking_order := PySem.W.mg_of X G a_taking_order
    b_taking_order := (fun_mk (st := s_taking_order) l_taking_order cc_taking_order k_taking_order).binds (ps := ["rule", "order", "counts"]) fun _ _ _ _ _ _ us hl => match us, hl with | [_, _, _], _ => rfl
    f_order_behind := f_order_behind
    fd_order_behind := _
    F_order_behind := fun_mk (st := s_order_behind) l_order_behind c_order_behind k_order_behind
    m_order_behind := PySem.W.mg_of X G a_order_behind
    b_order_behind := (fun_mk (st := s_order_behind) l_order_behind c_order_behind k_order_behind).binds (ps := ["rule", "order", "slot"]) fun _ _ _ _ _ _ us hl => match us, hl with | [_, _, _], _ => rfl
    f_Slots___init__ := f_Slots___init__
    fd_Slots___init__ := _
    F_Slots___init__ := fun_mk (st := s_Slots___init__) l_Slots___init__ c_Slots___init__ k_Slots___init__
    mk_Slots := ⟨mk_Slots, a_Slots___init__, i_Slots___init__, kc_Slots⟩
    b_Slots___init__ := (fun_mk (st := s_Slots___init__) l_Slots___init__ c_Slots___init__ k_Slots___init__).binds (ps := ["self", "n", "limit", "generations", "rule"]) fun _ _ _ _ _ _ us hl => match us, hl with | [_, _, _, _, _], _ => rfl
    f_Slots_generation_of := f_Slots_generation_of
    fd_Slots_generation_of := _
    F_Slots_generation_of := fun_mk (st := s_Slots_generation_of) l_Slots_generation_of c_Slots_generation_of k_Slots_generation_of
    mt_Slots_generation_of := ⟨a_Slots_generation_of, i_Slots_generation_of, k_Slots_generation_of⟩
    b_Slots_generation_of := (fun_mk (st := s_Slots_generation_of) l_Slots_generation_of c_Slots_generation_of k_Slots_generation_of).binds (ps := ["self", "slot"]) fun _ _ _ _ _ _ us hl => match us, hl with | [_, _], _ => rfl
    f_Slots___len__ := f_Slots___len__
    fd_Slots___len__ := _
    F_Slots___len__ := fun_mk (st := s_Slots___len__) l_Slots___len__ c_Slots___len__ k_Slots___len__
    mt_Slots___len__ := ⟨a_Slots___len__, i_Slots___len__, k_Slots___len__⟩
    b_Slots___len__ := (fun_mk (st := s_Slots___len__) l_Slots___len__ c_Slots___len__ k_Slots___len__).binds (ps := ["self"]) fun _ _ _ _ _ _ us hl => match us, hl with | [_], _ => rfl
    f_Slots_counts := f_Slots_counts
    fd_Slots_counts := _
    F_Slots_counts := fun_mk (st := s_Slots_counts) l_Slots_counts c_Slots_counts k_Slots_counts
    mt_Slots_counts := ⟨a_Slots_counts, i_Slots_counts, k_Slots_counts⟩
    b_Slots_counts := (fun_mk (st := s_Slots_counts) l_Slots_counts c_Slots_counts k_Slots_counts).binds (ps := ["self"]) fun _ _ _ _ _ _ us hl => match us, hl with | [_], _ => rfl
    f_Slots_live := f_Slots_live
    fd_Slots_live := _
    F_Slots_live := fun_mk (st := s_Slots_live) l_Slots_live c_Slots_live k_Slots_live
    mt_Slots_live := ⟨a_Slots_live, i_Slots_live, k_Slots_live⟩
    b_Slots_live := (fun_mk (st := s_Slots_live) l_Slots_live c_Slots_live k_Slots_live).binds (ps := ["self"]) fun _ _ _ _ _ _ us hl => match us, hl with | [_], _ => rfl
    f_Slots_free := f_Slots_free
    fd_Slots_free := _
    F_Slots_free := fun_mk (st := s_Slots_free) l_Slots_free c_Slots_free k_Slots_free
    mt_Slots_free := ⟨a_Slots_free, i_Slots_free, k_Slots_free⟩
    b_Slots_free := (fun_mk (st := s_Slots_free) l_Slots_free c_Slots_free k_Slots_free).binds (ps := ["self"]) fun _ _ _ _ _ _ us hl => match us, hl with | [_], _ => rfl
    f_Slots___contains__ := f_Slots___contains__
    fd_Slots___contains__ := _
    F_Slots___contains__ := fun_mk (st := s_Slots___contains__) l_Slots___contains__ c_Slots___contains__ k_Slots___contains__
    mt_Slots___contains__ := ⟨a_Slots___contains__, i_Slots___contains__, k_Slots___contains__⟩
    b_Slots___contains__ := (fun_mk (st := s_Slots___contains__) l_Slots___contains__ c_Slots___contains__ k_Slots___contains__).binds (ps := ["self", "handle"]) fun _ _ _ _ _ _ us hl => match us, hl with | [_, _], _ => rfl
    f_Slots_check_handle := f_Slots_check_handle
    fd_Slots_check_handle := _
    F_Slots_check_handle := fun_mk (st := s_Slots_check_handle) l_Slots_check_handle c_Slots_check_handle k_Slots_check_handle
    mt_Slots_check_handle := ⟨a_Slots_check_handle, i_Slots_check_handle, k_Slots_check_handle⟩
    b_Slots_check_handle := (fun_mk (st := s_Slots_check_handle) l_Slots_check_handle c_Slots_check_handle k_Slots_check_handle).binds (ps := ["self", "handle"]) fun _ _ _ _ _ _ us hl => match us, hl with | [_, _], _ => rfl
    f_Slots___getitem__ := f_Slots___getitem__
    fd_Slots___getitem__ := _
    F_Slots___getitem__ := fun_mk (st := s_Slots___getitem__) l_Slots___getitem__ c_Slots___getitem__ k_Slots___getitem__
    mt_Slots___getitem__ := ⟨a_Slots___getitem__, i_Slots___getitem__, k_Slots___getitem__⟩
    b_Slots___getitem__ := (fun_mk (st := s_Slots___getitem__) l_Slots___getitem__ c_Slots___getitem__ k_Slots___getitem__).binds (ps := ["self", "handle"]) fun _ _ _ _ _ _ us hl => match us, hl with | [_, _], _ => rfl
    f_Slots_take := f_Slots_take
    fd_Slots_take := _
    F_Slots_take := fun_mk (st := s_Slots_take) l_Slots_take c_Slots_take k_Slots_take
    mt_Slots_take := ⟨a_Slots_take, i_Slots_take, k_Slots_take⟩
    b_Slots_take := (fun_mk (st := s_Slots_take) l_Slots_take c_Slots_take k_Slots_take).binds (ps := ["self", "value"]) fun _ _ _ _ _ _ us hl => match us, hl with | [_, _], _ => rfl
    f_Slots_give := f_Slots_give
    fd_Slots_give := _
    F_Slots_give := fun_mk (st := s_Slots_give) l_Slots_give c_Slots_give k_Slots_give
    mt_Slots_give := ⟨a_Slots_give, i_Slots_give, k_Slots_give⟩
    b_Slots_give := (fun_mk (st := s_Slots_give) l_Slots_give c_Slots_give k_Slots_give).binds (ps := ["self", "handle"]) fun _ _ _ _ _ _ us hl => match us, hl with | [_, _], _ => rfl
    f_Slots_copy := f_Slots_copy
    fd_Slots_copy := _
    F_Slots_copy := fun_mk (st := s_Slots_copy) l_Slots_copy c_Slots_copy k_Slots_copy
    mt_Slots_copy := ⟨a_Slots_copy, i_Slots_copy, k_Slots_copy⟩
    b_Slots_copy := (fun_mk (st := s_Slots_copy) l_Slots_copy c_Slots_copy k_Slots_copy).binds (ps := ["self"]) fun _ _ _ _ _ _ us hl => match us, hl with | [_], _ => rfl
    f_Slots_arguments := f_Slots_arguments
    fd_Slots_arguments := _
    F_Slots_arguments := fun_mk (st := s_Slots_arguments) l_Slots_arguments c_Slots_arguments k_Slots_arguments
    mt_Slots_arguments := ⟨a_Slots_arguments, i_Slots_arguments, k_Slots_arguments⟩
    b_Slots_arguments := (fun_mk (st := s_Slots_arguments) l_Slots_arguments c_Slots_arguments k_Slots_arguments).binds (ps := ["self"]) fun _ _ _ _ _ _ us hl => match us, hl with | [_], _ => rfl
    f_Slots_state := f_Slots_state
    fd_Slots_state := _
    F_Slots_state := fun_mk (st := s_Slots_state) l_Slots_state c_Slots_state k_Slots_state
    mt_Slots_state := ⟨a_Slots_state, i_Slots_state, k_Slots_state⟩
    b_Slots_state := (fun_mk (st := s_Slots_state) l_Slots_state c_Slots_state k_Slots_state).binds (ps := ["self"]) fun _ _ _ _ _ _ us hl => match us, hl with | [_], _ => rfl
    f_Slots___eq__ := f_Slots___eq__
    fd_Slots___eq__ := _
    F_Slots___eq__ := fun_mk (st := s_Slots___eq__) l_Slots___eq__ c_Slots___eq__ k_Slots___eq__
    mt_Slots___eq__ := ⟨a_Slots___eq__, i_Slots___eq__, k_Slots___eq__⟩
    b_Slots___eq__ := (fun_mk (st := s_Slots___eq__) l_Slots___eq__ c_Slots___eq__ k_Slots___eq__).binds (ps := ["self", "other"]) fun _ _ _ _ _ _ us hl => match us, hl with | [_, _], _ => rfl
    f__law_cell_at := f__law_cell_at
    fd__law_cell_at := _
    F__law_cell_at := fun_mk (st := s__law_cell_at) l__law_cell_at c__law_cell_at k__law_cell_at
    m__law_cell_at := PySem.W.mg_of X G a__law_cell_at
    b__law_cell_at := (fun_mk (st := s__law_cell_at) l__law_cell_at c__law_cell_at k__law_cell_at).binds (ps := ["_law_script", "_law_k"]) fun _ _ _ _ _ _ us hl => match us, hl with | [_, _], _ => rfl
    f__law_source_of := f__law_source_of
    fd__law_source_of := _
    F__law_source_of := fun_mk (st := s__law_source_of) l__law_source_of c__law_source_of k__law_source_of
    m__law_source_of := PySem.W.mg_of X G a__law_source_of
    b__law_source_of := (fun_mk (st := s__law_source_of) l__law_source_of c__law_source_of k__law_source_of).binds (ps := ["_law_cell"]) fun _ _ _ _ _ _ us hl => match us, hl with | [_], _ => rfl
    f__law_next := f__law_next
    fd__law_next := _
    F__law_next := fun_mk (st := s__law_next) l__law_next c__law_next k__law_next
    m__law_next := PySem.W.mg_of X G a__law_next
    b__law_next := (fun_mk (st := s__law_next) l__law_next c__law_next k__law_next).binds (ps := ["_law_source", "_law_many"]) fun _ _ _ _ _ _ us hl => match us, hl with | [_, _], _ => rfl
    f__law_one := f__law_one
    fd__law_one := _
    F__law_one := fun_mk (st := s__law_one) l__law_one c__law_one k__law_one
    m__law_one := PySem.W.mg_of X G a__law_one
    b__law_one := (fun_mk (st := s__law_one) l__law_one c__law_one k__law_one).binds (ps := ["_law_source", "_law_some"]) fun _ _ _ _ _ _ us hl => match us, hl with | [_, _], _ => rfl
    f__law_numbers := f__law_numbers
    fd__law_numbers := _
    F__law_numbers := fun_mk (st := s__law_numbers) l__law_numbers c__law_numbers k__law_numbers
    m__law_numbers := PySem.W.mg_of X G a__law_numbers
    b__law_numbers := (fun_mk (st := s__law_numbers) l__law_numbers c__law_numbers k__law_numbers).binds (ps := ["_law_source", "_law_most"]) fun _ _ _ _ _ _ us hl => match us, hl with | [_, _], _ => rfl
    f__law_deeds := f__law_deeds
    fd__law_deeds := _
    F__law_deeds := fun_mk (st := s__law_deeds) l__law_deeds c__law_deeds k__law_deeds
    m__law_deeds := PySem.W.mg_of X G a__law_deeds
    b__law_deeds := (fun_mk (st := s__law_deeds) l__law_deeds c__law_deeds k__law_deeds).binds (ps := ["_law_source", "_law_limit", "_law_many"]) fun _ _ _ _ _ _ us hl => match us, hl with | [_, _, _], _ => rfl
    f__law_execute := f__law_execute
    fd__law_execute := _
    F__law_execute := fun_mk (st := s__law_execute) l__law_execute c__law_execute k__law_execute
    m__law_execute := PySem.W.mg_of X G a__law_execute
    b__law_execute := (fun_mk (st := s__law_execute) l__law_execute c__law_execute k__law_execute).binds (ps := ["_law_slots", "_law_deeds_here", "_law_values"]) fun _ _ _ _ _ _ us hl => match us, hl with | [_, _, _], _ => rfl
    f_least_for_last := f_least_for_last
    fd_least_for_last := _
    F_least_for_last := fun_mk (st := s_least_for_last) l_least_for_last c_least_for_last k_least_for_last
    m_least_for_last := PySem.W.mg_of X G a_least_for_last
    b_least_for_last := (fun_mk (st := s_least_for_last) l_least_for_last c_least_for_last k_least_for_last).binds (ps := ["slots", "slot", "times"]) fun _ _ _ _ _ _ us hl => match us, hl with | [_, _, _], _ => rfl
    f_least_for_lowest := f_least_for_lowest
    fd_least_for_lowest := _
    F_least_for_lowest := fun_mk (st := s_least_for_lowest) l_least_for_lowest c_least_for_lowest k_least_for_lowest
    m_least_for_lowest := PySem.W.mg_of X G a_least_for_lowest
    b_least_for_lowest := (fun_mk (st := s_least_for_lowest) l_least_for_lowest c_least_for_lowest k_least_for_lowest).binds (ps := ["slots", "slot", "times"]) fun _ _ _ _ _ _ us hl => match us, hl with | [_, _, _], _ => rfl
    f_least_for_first := f_least_for_first
    fd_least_for_first := _
    F_least_for_first := fun_mk (st := s_least_for_first) l_least_for_first c_least_for_first k_least_for_first
    m_least_for_first := PySem.W.mg_of X G a_least_for_first
    b_least_for_first := (fun_mk (st := s_least_for_first) l_least_for_first c_least_for_first k_least_for_first).binds (ps := ["slots", "slot", "times"]) fun _ _ _ _ _ _ us hl => match us, hl with | [_, _, _], _ => rfl
    f_is_slot := f_is_slot
    fd_is_slot := _
    F_is_slot := fun_mk (st := s_is_slot) l_is_slot c_is_slot k_is_slot
    m_is_slot := PySem.W.mg_of X G a_is_slot
    b_is_slot := (fun_mk (st := s_is_slot) l_is_slot c_is_slot k_is_slot).binds (ps := ["slots", "value"]) fun _ _ _ _ _ _ us hl => match us, hl with | [_, _], _ => rfl
    f_NoSlot___init__ := f_NoSlot___init__
    fd_NoSlot___init__ := _
    F_NoSlot___init__ := fun_mk (st := s_NoSlot___init__) l_NoSlot___init__ c_NoSlot___init__ k_NoSlot___init__
    b_NoSlot___init__ := (fun_mk (st := s_NoSlot___init__) l_NoSlot___init__ c_NoSlot___init__ k_NoSlot___init__).binds (ps := ["self", "slot"]) fun _ _ _ _ _ _ us hl => match us, hl with | [_, _], _ => rfl
    f_NoTimes___init__ := f_NoTimes___init__
    fd_NoTimes___init__ := _
    F_NoTimes___init__ := fun_mk (st := s_NoTimes___init__) l_NoTimes___init__ c_NoTimes___init__ k_NoTimes___init__
    b_NoTimes___init__ := (fun_mk (st := s_NoTimes___init__) l_NoTimes___init__ c_NoTimes___init__ k_NoTimes___init__).binds (ps := ["self", "times"]) fun _ _ _ _ _ _ us hl => match us, hl with | [_, _], _ => rfl
    f_check_question := f_check_question
    fd_check_question := _
    F_check_question := fun_mk (st := s_check_question) l_check_question c_check_question k_check_question
    m_check_question := PySem.W.mg_of X G a_check_question
    b_check_question := (fun_mk (st := s_check_question) l_check_question c_check_question k_check_question).binds (ps := ["slots", "slot", "times"]) fun _ _ _ _ _ _ us hl => match us, hl with | [_, _, _], _ => rfl
    f_shortages := f_shortages
    fd_shortages := _
    F_shortages := fun_mk (st := s_shortages) l_shortages c_shortages k_shortages
    m_shortages := PySem.W.mg_of X G a_shortages
    b_shortages := (fun_mk (st := s_shortages) l_shortages c_shortages k_shortages).binds (ps := ["slots", "slot", "times"]) fun _ _ _ _ _ _ us hl => match us, hl with | [_, _, _], _ => rfl
    f_savings := f_savings
    fd_savings := _
    F_savings := fun_mk (st := s_savings) l_savings c_savings k_savings
    m_savings := PySem.W.mg_of X G a_savings
    b_savings := (fun_mk (st := s_savings) l_savings c_savings k_savings).binds (ps := ["slots", "slot", "times"]) fun _ _ _ _ _ _ us hl => match us, hl with | [_, _, _], _ => rfl
    f_least_for_least := f_least_for_least
    fd_least_for_least := _
    F_least_for_least := fun_mk (st := s_least_for_least) l_least_for_least c_least_for_least k_least_for_least
    m_least_for_least := PySem.W.mg_of X G a_least_for_least
    b_least_for_least := (fun_mk (st := s_least_for_least) l_least_for_least c_least_for_least k_least_for_least).binds (ps := ["slots", "slot", "times"]) fun _ _ _ _ _ _ us hl => match us, hl with | [_, _, _], _ => rfl
    f_least_number := f_least_number
    fd_least_number := _
    F_least_number := fun_mk (st := s_least_number) l_least_number c_least_number k_least_number
    m_least_number := PySem.W.mg_of X G a_least_number
    b_least_number := (fun_mk (st := s_least_number) l_least_number c_least_number k_least_number).binds (ps := ["slots", "slot", "times"]) fun _ _ _ _ _ _ us hl => match us, hl with | [_, _, _], _ => rfl
    f_least := f_least
    fd_least := _
    F_least := fun_mk (st := s_least) l_least c_least k_least
    m_least := PySem.W.mg_of X G a_least
    b_least := (fun_mk (st := s_least) l_least c_least k_least).binds (ps := ["slots", "slot", "times"]) fun _ _ _ _ _ _ us hl => match us, hl with | [_, _, _], _ => rfl
    f__law_map := f__law_map
    fd__law_map := _
    F__law_map := fun_mk (st := s__law_map) l__law_map c__law_map k__law_map
    m__law_map := PySem.W.mg_of X G a__law_map
    b__law_map := (fun_mk (st := s__law_map) l__law_map c__law_map k__law_map).binds (ps := ["_law_source", "_law_most"]) fun _ _ _ _ _ _ us hl => match us, hl with | [_, _], _ => rfl
    f_TooLong___init__ := f_TooLong___init__
    fd_TooLong___init__ := _
    F_TooLong___init__ := fun_mk (st := s_TooLong___init__) l_TooLong___init__ c_TooLong___init__ k_TooLong___init__
    b_TooLong___init__ := (fun_mk (st := s_TooLong___init__) l_TooLong___init__ c_TooLong___init__ k_TooLong___init__).binds (ps := ["self", "number"]) fun _ _ _ _ _ _ us hl => match us, hl with | [_, _], _ => rfl
    f_handle_of := f_handle_of
    fd_handle_of := _
    F_handle_of := fun_mk (st := s_handle_of) l_handle_of c_handle_of k_handle_of
    m_handle_of := PySem.W.mg_of X G a_handle_of
    b_handle_of := (fun_mk (st := s_handle_of) l_handle_of c_handle_of k_handle_of).binds (ps := ["slots", "slot"]) fun _ _ _ _ _ _ us hl => match us, hl with | [_, _], _ => rfl
    f_slots_to_give := f_slots_to_give
    fd_slots_to_give := _
    F_slots_to_give := fun_mk (st := s_slots_to_give) l_slots_to_give c_slots_to_give k_slots_to_give
    m_slots_to_give := PySem.W.mg_of X G a_slots_to_give
    b_slots_to_give := (fun_mk (st := s_slots_to_give) l_slots_to_give c_slots_to_give k_slots_to_give).binds (ps := ["board", "slot", "kept"]) fun _ _ _ _ _ _ us hl => match us, hl with | [_, _, _], _ => rfl
    f_plan := f_plan
    fd_plan := _
    F_plan := fun_mk (st := s_plan) l_plan c_plan k_plan
    m_plan := PySem.W.mg_of X G a_plan
    b_plan := (fun_mk (st := s_plan) l_plan c_plan k_plan).binds (ps := ["slots", "slot", "times"]) fun _ _ _ _ _ _ us hl => match us, hl with | [_, _, _], _ => rfl
    f_is_call := f_is_call
    fd_is_call := _
    F_is_call := fun_mk (st := s_is_call) l_is_call c_is_call k_is_call
    m_is_call := PySem.W.mg_of X G a_is_call
    b_is_call := (fun_mk (st := s_is_call) l_is_call c_is_call k_is_call).binds (ps := ["slots", "value"]) fun _ _ _ _ _ _ us hl => match us, hl with | [_, _], _ => rfl
    f_is_done := f_is_done
    fd_is_done := _
    F_is_done := fun_mk (st := s_is_done) l_is_done c_is_done k_is_done
    m_is_done := PySem.W.mg_of X G a_is_done
    b_is_done := (fun_mk (st := s_is_done) l_is_done c_is_done k_is_done).binds (ps := ["board", "call"]) fun _ _ _ _ _ _ us hl => match us, hl with | [_, _], _ => rfl
    f_judge_plan := f_judge_plan
    fd_judge_plan := _
    F_judge_plan := fun_mk (st := s_judge_plan) l_judge_plan c_judge_plan k_judge_plan
    m_judge_plan := PySem.W.mg_of X G a_judge_plan
    b_judge_plan := (fun_mk (st := s_judge_plan) l_judge_plan c_judge_plan k_judge_plan).binds (ps := ["slots", "slot", "times", "told"]) fun _ _ _ _ _ _ us hl => match us, hl with | [_, _, _, _], _ => rfl
    f__law_asked := f__law_asked
    fd__law_asked := _
    F__law_asked := fun_mk (st := s__law_asked) l__law_asked c__law_asked k__law_asked
    m__law_asked := PySem.W.mg_of X G a__law_asked
    b__law_asked := (fun_mk (st := s__law_asked) l__law_asked c__law_asked k__law_asked).binds (ps := ["_law_word", "_law_slots", "_law_slot", "_law_times"]) fun _ _ _ _ _ _ us hl => match us, hl with | [_, _, _, _], _ => rfl
    f__law_said := f__law_said
    fd__law_said := _
    F__law_said := fun_mk (st := s__law_said) l__law_said c__law_said k__law_said
    m__law_said := PySem.W.mg_of X G a__law_said
    b__law_said := (fun_mk (st := s__law_said) l__law_said c__law_said k__law_said).binds (ps := ["_law_word", "_law_slots", "_law_slot", "_law_times"]) fun _ _ _ _ _ _ us hl => match us, hl with | [_, _, _, _], _ => rfl
    f_law := f_law
    fd_law := _
    F_law := fun_mk (st := s_law) l_law c_law k_law
    m_law := PySem.W.mg_of X G a_law
    b_law := (fun_mk (st := s_law) l_law c_law k_law).binds (ps := ["_law_script"]) fun _ _ _ _ _ _ us hl => match us, hl with | [_], _ => rfl
    x_NoSlot := ⟨⟨xk_NoSlot, xe_NoSlot, xt_NoSlot, xh_NoSlot⟩, ⟨⟨_, _, _, _, _, _, _, _, _, _, _, _, _, _, _, lx_NoSlot, rv_NoSlot⟩, sa_NoSlot, xe_NoSlot, xt_NoSlot, xk_NoSlot⟩, no_NoSlot, a_NoSlot___init__, tI_NoSlot, ga_NoSlot, gg_NoSlot⟩
    x_NoTimes := ⟨⟨xk_NoTimes, xe_NoTimes, xt_NoTimes, xh_NoTimes⟩, ⟨⟨_, _, _, _, _, _, _, _, _, _, _, _, _, _, _, lx_NoTimes, rv_NoTimes⟩, sa_NoTimes, xe_NoTimes, xt_NoTimes, xk_NoTimes⟩, no_NoTimes, a_NoTimes___init__, tI_NoTimes, ga_NoTimes, gg_NoTimes⟩
    x_Never := ⟨⟨xk_Never, xe_Never, xt_Never, xh_Never⟩, kx_Never⟩
    x_TooLong := ⟨⟨xk_TooLong, xe_TooLong, xt_TooLong, xh_TooLong⟩, ⟨⟨_, _, _, _, _, _, _, _, _, _, _, _, _, _, _, lx_TooLong, rv_TooLong⟩, sa_TooLong, xe_TooLong, xt_TooLong, xk_TooLong⟩, no_TooLong, a_TooLong___init__, tI_TooLong, ga_TooLong, gg_TooLong⟩
    x_NoHandle := ⟨xk_NoHandle, xe_NoHandle, xt_NoHandle, xh_NoHandle⟩
    x_SlotError := ⟨xk_SlotError, xe_SlotError, xt_SlotError, xh_SlotError⟩
    nP := nP
  }
  refine ⟨T.fd_law, T.codes, spLaw T.tabs K, ?_, ?_, ?_, fun s v => .of_eq rfl, fun H a ns hl _ ht hS => ⟨a, ns, rfl, hS, hl, ?_, fun _ => rfl⟩, fun base _ _ hB => ok_law T hB⟩
  · intro p hp; simp only [Txt.codes, List.mem_cons, List.not_mem_nil, or_false] at hp; rcases hp with rfl
    · exact tb_taking_order.2
  · intro p hp; simp only [Txt.codes, List.mem_cons, List.not_mem_nil, or_false] at hp; rcases hp with rfl
    · exact np_taking_order
  · intro p hp; simp only [Txt.codes, List.mem_cons, List.not_mem_nil, or_false] at hp; rcases hp with rfl
    · exact tb_taking_order.1
  · intro p hp; simp only [Txt.tabs, List.mem_cons, List.not_mem_nil, or_false] at hp; rcases hp with rfl
    · exact LamX.TabS.nil (ht (c_taking_order, P_taking_order) (by simp [Txt.codes, T]))
end Sw
open PySem PySem.W PyProof.Rows in
set_option maxRecDepth 100000 in
set_option maxHeartbeats 0 in
theorem PySem.Challenge.cw_slotwraps_k28_questions_refused_holds : PySem.Challenge.rw_slotwraps_k28_questions_refused.Holds := by
  w_on; o_law; k_head; (case hw => w_witness2)
  k_fill
  refine Sw.walkG (l := PySem.Challenge.rw_slotwraps_k28_questions_refused) (n := 63) (k := 12) (x := "_law_script") (LN := ["taking_order"]) rfl (by decide) rfl ⟨rfl, by decide, by decide⟩ (by decide +kernel) (fun w h Y => by first | exact PySem.W.km_in_of Y | exact PySem.W.kIn_of Y) ?F
  case F =>
    intro w mg fa h Y KX G hmg HT
    refine' Sw.all_mk KX G hmg HT ?hz_ValueError ?hz_all ?hz_bool ?hz_dict ?hz_int ?hz_isinstance ?hz_len ?hz_list ?hz_max ?hz_min ?hz_range ?hz_repr ?hz_sorted ?hz_str ?hz_sum ?hz_tuple ?hC_Slots ?pg_Slots ?hd_Slots ?po_Slots ?sa_Slots ?mk_Slots ?kc_Slots ?nn_Slots_n ?nn_Slots_limit ?nn_Slots_generations ?nn_Slots_rule ?nn_Slots_order ?nn_Slots_ages ?nn_Slots_taken ?nn_Slots_held ?hne_Slots ?hit1 ?hit2 ?hit3 ?hit4 ?hl1_Slots ?hl2_Slots ?hC_NoSlot ?xk_NoSlot ?xe_NoSlot ?xt_NoSlot ?xh_NoSlot ?hC_NoTimes ?xk_NoTimes ?xe_NoTimes ?xt_NoTimes ?xh_NoTimes ?hC_Never ?xk_Never ?xe_Never ?xt_Never ?xh_Never ?hC_TooLong ?xk_TooLong ?xe_TooLong ?xt_TooLong ?xh_TooLong ?hC_NoHandle ?xk_NoHandle ?xe_NoHandle ?xt_NoHandle ?xh_NoHandle ?hC_SlotError ?xk_SlotError ?xe_SlotError ?xt_SlotError ?xh_SlotError ?isga_NoSlot ?isgg_NoSlot ?isex_NoSlot ?ishd_NoSlot ?isha_NoSlot ?ishn_NoSlot ?isht_NoSlot ?ishm_NoSlot ?isga_NoTimes ?isgg_NoTimes ?isex_NoTimes ?ishd_NoTimes ?isha_NoTimes ?ishn_NoTimes ?isht_NoTimes ?ishm_NoTimes ?isve_NoSlot ?isve_NoTimes ?sb_NoSlot_NoSlot ?sb_NoSlot_NoTimes ?sb_NoSlot_NoHandle ?sb_NoSlot_Never ?sb_NoSlot_TooLong ?sb_NoSlot_SlotError ?sb_NoTimes_NoSlot ?sb_NoTimes_NoTimes ?sb_NoTimes_NoHandle ?sb_NoTimes_Never ?sb_NoTimes_TooLong ?sb_NoTimes_SlotError ?hg_MOST_SLOTS ?hg_MOST_GENERATIONS ?hg_MOST_TIMES ?hg_LONGEST_PLAN ?hg_RULES ?hl_RULES ?a_is_integer ?l_is_integer ?c_is_integer ?k_is_integer ?a_is_between ?l_is_between ?c_is_between ?k_is_between ?a_is_rule ?l_is_rule ?c_is_rule ?k_is_rule ?a_check_map ?l_check_map ?c_check_map ?k_check_map ?a_taking_order ?l_taking_order ?cc_taking_order ?k_taking_order ?lc_taking_order ?v_taking_order ?np_taking_order ?a_order_behind ?l_order_behind ?c_order_behind ?k_order_behind ?a_Slots___init__ ?i_Slots___init__ ?l_Slots___init__ ?c_Slots___init__ ?k_Slots___init__ ?a_Slots_generation_of ?i_Slots_generation_of ?l_Slots_generation_of ?c_Slots_generation_of ?k_Slots_generation_of ?a_Slots___len__ ?i_Slots___len__ ?l_Slots___len__ ?c_Slots___len__ ?k_Slots___len__ ?a_Slots_counts ?i_Slots_counts ?l_Slots_counts ?c_Slots_counts ?k_Slots_counts ?a_Slots_live ?i_Slots_live ?l_Slots_live ?c_Slots_live ?k_Slots_live ?a_Slots_free ?i_Slots_free ?l_Slots_free ?c_Slots_free ?k_Slots_free ?a_Slots___contains__ ?i_Slots___contains__ ?l_Slots___contains__ ?c_Slots___contains__ ?k_Slots___contains__ ?a_Slots_check_handle ?i_Slots_check_handle ?l_Slots_check_handle ?c_Slots_check_handle ?k_Slots_check_handle ?a_Slots___getitem__ ?i_Slots___getitem__ ?l_Slots___getitem__ ?c_Slots___getitem__ ?k_Slots___getitem__ ?a_Slots_take ?i_Slots_take ?l_Slots_take ?c_Slots_take ?k_Slots_take ?a_Slots_give ?i_Slots_give ?l_Slots_give ?c_Slots_give ?k_Slots_give ?a_Slots_copy ?i_Slots_copy ?l_Slots_copy ?c_Slots_copy ?k_Slots_copy ?a_Slots_arguments ?i_Slots_arguments ?l_Slots_arguments ?c_Slots_arguments ?k_Slots_arguments ?a_Slots_state ?i_Slots_state ?l_Slots_state ?c_Slots_state ?k_Slots_state ?a_Slots___eq__ ?i_Slots___eq__ ?l_Slots___eq__ ?c_Slots___eq__ ?k_Slots___eq__ ?a__law_cell_at ?l__law_cell_at ?c__law_cell_at ?k__law_cell_at ?a__law_source_of ?l__law_source_of ?c__law_source_of ?k__law_source_of ?a__law_next ?l__law_next ?c__law_next ?k__law_next ?a__law_one ?l__law_one ?c__law_one ?k__law_one ?a__law_numbers ?l__law_numbers ?c__law_numbers ?k__law_numbers ?a__law_deeds ?l__law_deeds ?c__law_deeds ?k__law_deeds ?a__law_execute ?l__law_execute ?c__law_execute ?k__law_execute ?a_least_for_last ?l_least_for_last ?c_least_for_last ?k_least_for_last ?a_least_for_lowest ?l_least_for_lowest ?c_least_for_lowest ?k_least_for_lowest ?a_least_for_first ?l_least_for_first ?c_least_for_first ?k_least_for_first ?a_is_slot ?l_is_slot ?c_is_slot ?k_is_slot ?a_NoSlot___init__ ?i_NoSlot___init__ ?l_NoSlot___init__ ?c_NoSlot___init__ ?k_NoSlot___init__ ?a_NoTimes___init__ ?i_NoTimes___init__ ?l_NoTimes___init__ ?c_NoTimes___init__ ?k_NoTimes___init__ ?a_check_question ?l_check_question ?c_check_question ?k_check_question ?a_shortages ?l_shortages ?c_shortages ?k_shortages ?a_savings ?l_savings ?c_savings ?k_savings ?a_least_for_least ?l_least_for_least ?c_least_for_least ?k_least_for_least ?a_least_number ?l_least_number ?c_least_number ?k_least_number ?a_least ?l_least ?c_least ?k_least ?a__law_map ?l__law_map ?c__law_map ?k__law_map ?a_TooLong___init__ ?i_TooLong___init__ ?l_TooLong___init__ ?c_TooLong___init__ ?k_TooLong___init__ ?a_handle_of ?l_handle_of ?c_handle_of ?k_handle_of ?a_slots_to_give ?l_slots_to_give ?c_slots_to_give ?k_slots_to_give ?a_plan ?l_plan ?c_plan ?k_plan ?a_is_call ?l_is_call ?c_is_call ?k_is_call ?a_is_done ?l_is_done ?c_is_done ?k_is_done ?a_judge_plan ?l_judge_plan ?c_judge_plan ?k_judge_plan ?a__law_asked ?l__law_asked ?c__law_asked ?k__law_asked ?a__law_said ?l__law_said ?c__law_said ?k__law_said ?a_law ?l_law ?c_law ?k_law ?lx_NoSlot ?rv_NoSlot ?sa_NoSlot ?no_NoSlot ?tI_NoSlot ?ga_NoSlot ?gg_NoSlot ?lx_NoTimes ?rv_NoTimes ?sa_NoTimes ?no_NoTimes ?tI_NoTimes ?ga_NoTimes ?gg_NoTimes ?kx_Never ?lx_TooLong ?rv_TooLong ?sa_TooLong ?no_TooLong ?tI_TooLong ?ga_TooLong ?gg_TooLong ?nP
    (case hz_ValueError => k_is)
    (case hz_all => k_is)
    (case hz_bool => k_is)
    (case hz_dict => k_is)
    (case hz_int => k_is)
    (case hz_isinstance => k_is)
    (case hz_len => k_is)
    (case hz_list => k_is)
    (case hz_max => k_is)
    (case hz_min => k_is)
    (case hz_range => k_is)
    (case hz_repr => k_is)
    (case hz_sorted => k_is)
    (case hz_str => k_is)
    (case hz_sum => k_is)
    (case hz_tuple => k_is)
    (case hC_Slots => k_is)
    (case pg_Slots => k_is)
    (case hd_Slots => k_is)
    (case po_Slots => k_is)
    (case sa_Slots => k_is)
    (case mk_Slots => k_is)
    (case kc_Slots => k_is)
    (case nn_Slots_n => k_is)
    (case nn_Slots_limit => k_is)
    (case nn_Slots_generations => k_is)
    (case nn_Slots_rule => k_is)
    (case nn_Slots_order => k_is)
    (case nn_Slots_ages => k_is)
    (case nn_Slots_taken => k_is)
    (case nn_Slots_held => k_is)
    (case hne_Slots => k_is)
    (case hit1 => k_is)
    (case hit2 => k_is)
    (case hit3 => k_is)
    (case hit4 => k_is)
    (case hl1_Slots => k_is)
    (case hl2_Slots => k_is)
    (case hC_NoSlot => k_is)
    (case xk_NoSlot => k_is)
    (case xe_NoSlot => k_is)
    (case xt_NoSlot => k_is)
    (case xh_NoSlot => k_is)
    (case hC_NoTimes => k_is)
    (case xk_NoTimes => k_is)
    (case xe_NoTimes => k_is)
    (case xt_NoTimes => k_is)
    (case xh_NoTimes => k_is)
    (case hC_Never => k_is)
    (case xk_Never => k_is)
    (case xe_Never => k_is)
    (case xt_Never => k_is)
    (case xh_Never => k_is)
    (case hC_TooLong => k_is)
    (case xk_TooLong => k_is)
    (case xe_TooLong => k_is)
    (case xt_TooLong => k_is)
    (case xh_TooLong => k_is)
    (case hC_NoHandle => k_is)
    (case xk_NoHandle => k_is)
    (case xe_NoHandle => k_is)
    (case xt_NoHandle => k_is)
    (case xh_NoHandle => k_is)
    (case hC_SlotError => k_is)
    (case xk_SlotError => k_is)
    (case xe_SlotError => k_is)
    (case xt_SlotError => k_is)
    (case xh_SlotError => k_is)
    (case isga_NoSlot => k_is)
    (case isgg_NoSlot => k_is)
    (case isex_NoSlot => k_is)
    (case ishd_NoSlot => k_is)
    (case isha_NoSlot => k_is)
    (case ishn_NoSlot => k_is)
    (case isht_NoSlot => k_is)
    (case ishm_NoSlot => k_is)
    (case isga_NoTimes => k_is)
    (case isgg_NoTimes => k_is)
    (case isex_NoTimes => k_is)
    (case ishd_NoTimes => k_is)
    (case isha_NoTimes => k_is)
    (case ishn_NoTimes => k_is)
    (case isht_NoTimes => k_is)
    (case ishm_NoTimes => k_is)
    (case isve_NoSlot => k_is)
    (case isve_NoTimes => k_is)
    (case sb_NoSlot_NoSlot => k_is)
    (case sb_NoSlot_NoTimes => k_is)
    (case sb_NoSlot_NoHandle => k_is)
    (case sb_NoSlot_Never => k_is)
    (case sb_NoSlot_TooLong => k_is)
    (case sb_NoSlot_SlotError => k_is)
    (case sb_NoTimes_NoSlot => k_is)
    (case sb_NoTimes_NoTimes => k_is)
    (case sb_NoTimes_NoHandle => k_is)
    (case sb_NoTimes_Never => k_is)
    (case sb_NoTimes_TooLong => k_is)
    (case sb_NoTimes_SlotError => k_is)
    (case hg_MOST_SLOTS => k_is)
    (case hg_MOST_GENERATIONS => k_is)
    (case hg_MOST_TIMES => k_is)
    (case hg_LONGEST_PLAN => k_is)
    (case hg_RULES => k_is)
    (case hl_RULES => k_is)
    (case a_is_integer => k_is)
    (case l_is_integer => k_is)
    (case c_is_integer => k_is)
    (case k_is_integer => k_is)
    (case a_is_between => k_is)
    (case l_is_between => k_is)
    (case c_is_between => k_is)
    (case k_is_between => k_is)
    (case a_is_rule => k_is)
    (case l_is_rule => k_is)
    (case c_is_rule => k_is)
    (case k_is_rule => k_is)
    (case a_check_map => k_is)
    (case l_check_map => k_is)
    (case c_check_map => k_is)
    (case k_check_map => k_is)
    (case a_taking_order => k_is)
    (case l_taking_order => k_is)
    (case cc_taking_order => k_is)
    (case k_taking_order => k_is)
    (case lc_taking_order => k_is)
    (case v_taking_order => rfl)
    (case np_taking_order => first | kernel_rfl | rfl | decide)
    (case a_order_behind => k_is)
    (case l_order_behind => k_is)
    (case c_order_behind => k_is)
    (case k_order_behind => k_is)
    (case a_Slots___init__ => k_is)
    (case i_Slots___init__ => k_is)
    (case l_Slots___init__ => k_is)
    (case c_Slots___init__ => k_is)
    (case k_Slots___init__ => k_is)
    (case a_Slots_generation_of => k_is)
    (case i_Slots_generation_of => k_is)
    (case l_Slots_generation_of => k_is)
    (case c_Slots_generation_of => k_is)
    (case k_Slots_generation_of => k_is)
    (case a_Slots___len__ => k_is)
    (case i_Slots___len__ => k_is)
    (case l_Slots___len__ => k_is)
    (case c_Slots___len__ => k_is)
    (case k_Slots___len__ => k_is)
    (case a_Slots_counts => k_is)
    (case i_Slots_counts => k_is)
    (case l_Slots_counts => k_is)
    (case c_Slots_counts => k_is)
    (case k_Slots_counts => k_is)
    (case a_Slots_live => k_is)
    (case i_Slots_live => k_is)
    (case l_Slots_live => k_is)
    (case c_Slots_live => k_is)
    (case k_Slots_live => k_is)
    (case a_Slots_free => k_is)
    (case i_Slots_free => k_is)
    (case l_Slots_free => k_is)
    (case c_Slots_free => k_is)
    (case k_Slots_free => k_is)
    (case a_Slots___contains__ => k_is)
    (case i_Slots___contains__ => k_is)
    (case l_Slots___contains__ => k_is)
    (case c_Slots___contains__ => k_is)
    (case k_Slots___contains__ => k_is)
    (case a_Slots_check_handle => k_is)
    (case i_Slots_check_handle => k_is)
    (case l_Slots_check_handle => k_is)
    (case c_Slots_check_handle => k_is)
    (case k_Slots_check_handle => k_is)
    (case a_Slots___getitem__ => k_is)
    (case i_Slots___getitem__ => k_is)
    (case l_Slots___getitem__ => k_is)
    (case c_Slots___getitem__ => k_is)
    (case k_Slots___getitem__ => k_is)
    (case a_Slots_take => k_is)
    (case i_Slots_take => k_is)
    (case l_Slots_take => k_is)
    (case c_Slots_take => k_is)
    (case k_Slots_take => k_is)
    (case a_Slots_give => k_is)
    (case i_Slots_give => k_is)
    (case l_Slots_give => k_is)
    (case c_Slots_give => k_is)
    (case k_Slots_give => k_is)
    (case a_Slots_copy => k_is)
    (case i_Slots_copy => k_is)
    (case l_Slots_copy => k_is)
    (case c_Slots_copy => k_is)
    (case k_Slots_copy => k_is)
    (case a_Slots_arguments => k_is)
    (case i_Slots_arguments => k_is)
    (case l_Slots_arguments => k_is)
    (case c_Slots_arguments => k_is)
    (case k_Slots_arguments => k_is)
    (case a_Slots_state => k_is)
    (case i_Slots_state => k_is)
    (case l_Slots_state => k_is)
    (case c_Slots_state => k_is)
    (case k_Slots_state => k_is)
    (case a_Slots___eq__ => k_is)
    (case i_Slots___eq__ => k_is)
    (case l_Slots___eq__ => k_is)
    (case c_Slots___eq__ => k_is)
    (case k_Slots___eq__ => k_is)
    (case a__law_cell_at => k_is)
    (case l__law_cell_at => k_is)
    (case c__law_cell_at => k_is)
    (case k__law_cell_at => k_is)
    (case a__law_source_of => k_is)
    (case l__law_source_of => k_is)
    (case c__law_source_of => k_is)
    (case k__law_source_of => k_is)
    (case a__law_next => k_is)
    (case l__law_next => k_is)
    (case c__law_next => k_is)
    (case k__law_next => k_is)
    (case a__law_one => k_is)
    (case l__law_one => k_is)
    (case c__law_one => k_is)
    (case k__law_one => k_is)
    (case a__law_numbers => k_is)
    (case l__law_numbers => k_is)
    (case c__law_numbers => k_is)
    (case k__law_numbers => k_is)
    (case a__law_deeds => k_is)
    (case l__law_deeds => k_is)
    (case c__law_deeds => k_is)
    (case k__law_deeds => k_is)
    (case a__law_execute => k_is)
    (case l__law_execute => k_is)
    (case c__law_execute => k_is)
    (case k__law_execute => k_is)
    (case a_least_for_last => k_is)
    (case l_least_for_last => k_is)
    (case c_least_for_last => k_is)
    (case k_least_for_last => k_is)
    (case a_least_for_lowest => k_is)
    (case l_least_for_lowest => k_is)
    (case c_least_for_lowest => k_is)
    (case k_least_for_lowest => k_is)
    (case a_least_for_first => k_is)
    (case l_least_for_first => k_is)
    (case c_least_for_first => k_is)
    (case k_least_for_first => k_is)
    (case a_is_slot => k_is)
    (case l_is_slot => k_is)
    (case c_is_slot => k_is)
    (case k_is_slot => k_is)
    (case a_NoSlot___init__ => k_is)
    (case i_NoSlot___init__ => k_is)
    (case l_NoSlot___init__ => k_is)
    (case c_NoSlot___init__ => k_is)
    (case k_NoSlot___init__ => k_is)
    (case a_NoTimes___init__ => k_is)
    (case i_NoTimes___init__ => k_is)
    (case l_NoTimes___init__ => k_is)
    (case c_NoTimes___init__ => k_is)
    (case k_NoTimes___init__ => k_is)
    (case a_check_question => k_is)
    (case l_check_question => k_is)
    (case c_check_question => k_is)
    (case k_check_question => k_is)
    (case a_shortages => k_is)
    (case l_shortages => k_is)
    (case c_shortages => k_is)
    (case k_shortages => k_is)
    (case a_savings => k_is)
    (case l_savings => k_is)
    (case c_savings => k_is)
    (case k_savings => k_is)
    (case a_least_for_least => k_is)
    (case l_least_for_least => k_is)
    (case c_least_for_least => k_is)
    (case k_least_for_least => k_is)
    (case a_least_number => k_is)
    (case l_least_number => k_is)
    (case c_least_number => k_is)
    (case k_least_number => k_is)
    (case a_least => k_is)
    (case l_least => k_is)
    (case c_least => k_is)
    (case k_least => k_is)
    (case a__law_map => k_is)
    (case l__law_map => k_is)
    (case c__law_map => k_is)
    (case k__law_map => k_is)
    (case a_TooLong___init__ => k_is)
    (case i_TooLong___init__ => k_is)
    (case l_TooLong___init__ => k_is)
    (case c_TooLong___init__ => k_is)
    (case k_TooLong___init__ => k_is)
    (case a_handle_of => k_is)
    (case l_handle_of => k_is)
    (case c_handle_of => k_is)
    (case k_handle_of => k_is)
    (case a_slots_to_give => k_is)
    (case l_slots_to_give => k_is)
    (case c_slots_to_give => k_is)
    (case k_slots_to_give => k_is)
    (case a_plan => k_is)
    (case l_plan => k_is)
    (case c_plan => k_is)
    (case k_plan => k_is)
    (case a_is_call => k_is)
    (case l_is_call => k_is)
    (case c_is_call => k_is)
    (case k_is_call => k_is)
    (case a_is_done => k_is)
    (case l_is_done => k_is)
    (case c_is_done => k_is)
    (case k_is_done => k_is)
    (case a_judge_plan => k_is)
    (case l_judge_plan => k_is)
    (case c_judge_plan => k_is)
    (case k_judge_plan => k_is)
    (case a__law_asked => k_is)
    (case l__law_asked => k_is)
    (case c__law_asked => k_is)
    (case k__law_asked => k_is)
    (case a__law_said => k_is)
    (case l__law_said => k_is)
    (case c__law_said => k_is)
    (case k__law_said => k_is)
    (case a_law => k_is)
    (case l_law => k_is)
    (case c_law => k_is)
    (case k_law => k_is)
    (case lx_NoSlot => k_is)
    (case rv_NoSlot => decide +kernel)
    (case sa_NoSlot => k_is)
    (case no_NoSlot => k_is)
    (case tI_NoSlot => k_is)
    (case ga_NoSlot => k_is)
    (case gg_NoSlot => k_is)
    (case lx_NoTimes => k_is)
    (case rv_NoTimes => decide +kernel)
    (case sa_NoTimes => k_is)
    (case no_NoTimes => k_is)
    (case tI_NoTimes => k_is)
    (case ga_NoTimes => k_is)
    (case gg_NoTimes => k_is)
    (case kx_Never => k_exc)
    (case lx_TooLong => k_is)
    (case rv_TooLong => decide +kernel)
    (case sa_TooLong => k_is)
    (case no_TooLong => k_is)
    (case tI_TooLong => k_is)
    (case ga_TooLong => k_is)
    (case gg_TooLong => k_is)
    (case nP => decide)
#print axioms PySem.Challenge.cw_slotwraps_k28_questions_refused_holds
