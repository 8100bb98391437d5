import PyProof.Rows.All
import Wide.All
import OpenK.AllK
import Wide.FinOn
import HandS.ForMost
import HandS.Codes
import HandS.Defaults
import HandS.IsInst
import HandS.SetFor
import HandS.SortInts
import HandS.Dict
import HandS.Conv
import HandS.TupAny
import HandS.Lambda
import HandS.SortKw
import HandS.EndTab
import HandS.Style
import KE.SortKeyHeap
import KE.KLam
import HandS.Deep
import HandS.DictEq
import HandS.DeepEq
import PySem.Challenge.RW_slotwraps_k65_whole_any_rule_of_reuse
set_option Elab.async false
set_option linter.all false
set_option maxRecDepth 100000
set_option maxHeartbeats 4000000

namespace Sw
open PySem L2

/-! ### readings, step by step -/
section
variable {K : PySem.W.Frag} {D : Ends} {σ : St} {H H1 : Hp} {Q : VK} {QA : List V → Hp → Prop} {QB : Bool → Hp → Prop} {QS : St → Hp → Prop} {t u : TS} {ta tb tc : TE} {tt tt' : TT} {tA : TA} {r r' : R2} {i j : Nat} {x y v : V}
theorem r_seq (h : t { D with nx := fun σ H => u D σ H } σ H) : tSeq t u D σ H := h
theorem r_cut (Mid : St → Hp → Prop) (h : t { D with nx := Mid } σ H) (h2 : ∀ σ' H', Mid σ' H' → u D σ' H') : C8.tCut t u D σ H := ⟨Mid, h, h2⟩
theorem r_asg {g : TG} (h : ta σ H fun x H1 => g x σ H1 fun σ2 H2 => D.nx σ2 H2) : tAsg ta g D σ H := h
theorem r_gname (h : QS (σ.set i (some v)) H) : gName i v σ H QS := h
theorem r_drop (h : ta σ H fun _ H1 => D.nx σ H1) : tDrop ta D σ H := h
theorem r_ret (h : ta σ H fun v H1 => D.rt v H1) : tRet ta D σ H := h
theorem r_retN (h : D.rt .non H) : tRetN D σ H := h
theorem r_next (h : D.nx σ H) : tNext D σ H := h
theorem r_break (h : D.bk σ H) : tBreak D σ H := h
theorem r_cont (h : D.ct σ H) : tCont D σ H := h
theorem r_ifS (h : tt σ H fun b H1 => if b = true then t D σ H1 else u D σ H1) : tIfS tt t u D σ H := h
theorem r_var (hv : σ[i]? = some (some v)) (h : Q v H) : tVar i σ H Q := ⟨v, hv, h⟩
theorem r_c (h : Q v H) : tC v σ H Q := h
theorem r_op (h : ta σ H fun x H1 => tb σ H1 fun y H2 => r x y H2 Q) : tOp r ta tb σ H Q := h
theorem r_un {r : V → Hp → VK → Prop} (h : ta σ H fun x H1 => r x H1 Q) : tUn r ta σ H Q := h
theorem r_rU {g : Int → V} {a : Int} (h : Q (g a) H) : rU g (.int a) H Q := ⟨_, rfl, h⟩
theorem r_rI0 {g : Int → Int → V} {a b : Int} (h : Q (g a b) H) : rI0 g (.int a) (.int b) H Q := ⟨_, _, rfl, rfl, h⟩
theorem r_rI {C : Int → Int → Prop} {g : Int → Int → V} {a b : Int} (hc : C a b) (h : Q (g a b) H) : rI C g (.int a) (.int b) H Q := ⟨_, _, rfl, rfl, hc, h⟩
theorem r_test (h : ta σ H fun x H' => ∃ k, x = .bl k ∧ QB k H') : tTest ta σ H QB := h
theorem r_B (h : ta σ H fun x H' => ∃ k, x = .bl k ∧ QB k H') : tB ta σ H QB := h
theorem r_k {b : Bool} (h : QB b H) : ∃ k, V.bl b = V.bl k ∧ QB k H := ⟨b, rfl, h⟩
theorem r_eqi {a b : Int} (h : Q (.bl (decide (a = b))) H) : rEq (.int a) (.int b) H Q := ⟨rfl, by
  have e : decide (V.int a = V.int b) = decide (a = b) := by
    by_cases c : a = b
    · subst c; simp
    · rw [decide_eq_false c]; exact decide_eq_false fun q => c (V.int.inj q)
  rw [e]; exact h⟩
theorem r_nei {a b : Int} (h : Q (.bl (!decide (a = b))) H) : rNe (.int a) (.int b) H Q := ⟨rfl, by
  have e : decide (V.int a = V.int b) = decide (a = b) := by
    by_cases c : a = b
    · subst c; simp
    · rw [decide_eq_false c]; exact decide_eq_false fun q => c (V.int.inj q)
  rw [e]; exact h⟩
theorem r_eqs {a b : Str} (h : Q (.bl (decide (a = b))) H) : rEq (.str a) (.str b) H Q := ⟨rfl, by
  have e : decide (V.str a = V.str b) = decide (a = b) := by
    by_cases c : a = b
    · subst c; simp
    · rw [decide_eq_false c]; exact decide_eq_false fun q => c (V.str.inj q)
  rw [e]; exact h⟩
theorem r_chain (h : ta σ H fun x H1 => tb σ H1 fun y H2 => r x y H2 fun z H3 => ∃ k, z = .bl k ∧ (if k = true then tc σ H3 fun w' H4 => r' y w' H4 Q else Q (.bl false) H3)) : tChain r r' ta tb tc σ H Q := h
theorem r_and (h : tt σ H fun c H1 => if c = true then tt' σ H1 QB else QB false H1) : tAnd tt tt' σ H QB := h
theorem r_or (h : tt σ H fun c H1 => if c = true then QB true H1 else tt' σ H1 QB) : tOr tt tt' σ H QB := h
theorem r_not (h : tt σ H fun c H1 => QB (!c) H1) : tNot tt σ H QB := h
theorem r_andV (h : ta σ H fun x H1 => ∃ c, x = .bl c ∧ if c = true then tb σ H1 Q else Q (.bl false) H1) : tAndV ta tb σ H Q := h
theorem r_orV (h : ta σ H fun x H1 => ∃ c, x = .bl c ∧ if c = true then Q (.bl true) H1 else tb σ H1 Q) : tOrV ta tb σ H Q := h
theorem r_notV (h : ta σ H fun x H1 => ∃ c, x = .bl c ∧ Q (.bl (!c)) H1) : tNotV ta σ H Q := h
theorem r_k2 {b : Bool} {F : Bool → Prop} (h : F b) : ∃ k, V.bl b = V.bl k ∧ F k := ⟨b, rfl, h⟩
theorem r_ifE (h : tt σ H fun c H1 => if c = true then ta σ H1 Q else tb σ H1 Q) : tIf tt ta tb σ H Q := h
theorem r_nil (h : QA [] H) : tNil σ H QA := h
theorem r_cons (h : ta σ H fun x H1 => tA σ H1 fun xs H2 => QA (x :: xs) H2) : tCons ta tA σ H QA := h
theorem r_tup (h : tA σ H fun xs H1 => xs.length ≤ sizeLine ∧ ∀ p, H1 p = none → Q (.ref p) (upd H1 p (.tup xs))) : tTup tA σ H Q := h
theorem r_lst (h : tA σ H fun xs H1 => xs.length ≤ sizeLine ∧ ∀ p, H1 p = none → Q (.ref p) (upd H1 p (.lst xs))) : tLst tA σ H Q := h
theorem r_call {sp : Sp} {dvs : List V} {E : XK} (h : tA σ H fun vs H1 => sp (vs ++ dvs) H1 Q E) : tCall sp dvs E tA σ H Q := h
theorem r_callN {n m : Nat} {sp : Sp} {gV : List V → List V → List V} {E : XK} {tk : TA} (h : tA σ H fun vs H1 => tk σ H1 fun zs H2 => vs.length = n ∧ zs.length = m ∧ sp (gV vs zs) H2 Q E) : tCallN n m sp gV E tA tk σ H Q := h
theorem r_CB {r : List V → Hp → VK → Prop} (h : tA σ H fun vs H1 => r vs H1 Q) : tCB r tA σ H Q := h
theorem r_BM {T : String} {r : V → List V → Hp → VK → Prop} (h : ta σ H fun x H1 => tyV K T x H1 ∧ tA σ H1 fun xs H2 => r x xs H2 Q) : tBM K T r ta tA σ H Q := h
theorem r_BM0 {T : String} {r : V → List V → Hp → VK → Prop} (h : ta σ H fun x H1 => tyV K T x H1 ∧ r x [] H1 Q) : tBM0 K T r ta σ H Q := h
theorem r_fld {a C dx : Addr} {fs : List (Str × V)} {f : Str} (ho : H a = some (.ins C dx fs)) (c : Cls K C) (n : NoAttr K C f) (l : fs.lookup f = some v) (h : Q v H) (he : ta σ H fun x H1 => x = .ref a ∧ H1 = H) : tFld K (fun σ H Q => Q (.ref a) H) f σ H Q := ⟨a, C, dx, fs, v, rfl, ho, c, n, l, h⟩
theorem r_fldE {f : Str} (h : ta σ H fun x H1 => ∃ a C dx fs v, x = .ref a ∧ H1 a = some (.ins C dx fs) ∧ Cls K C ∧ NoAttr K C f ∧ fs.lookup f = some v ∧ Q v H1) : tFld K ta f σ H Q := h
theorem r_sl {r : V → Option Int → Option Int → Hp → VK → Prop} {te : TE} {tl th : TO} (h : te σ H fun x H1 => tl σ H1 fun lo H2 => th σ H2 fun hi H3 => r x lo hi H3 Q) : tSl r te tl th σ H Q := h
theorem r_part {Qp : Option Int → Hp → Prop} (h : ta σ H fun x H1 => ∃ i, x = .int i ∧ Qp (some i) H1) : tPart ta σ H Qp := h
theorem r_noPart {Qp : Option Int → Hp → Prop} (h : Qp none H) : tNoPart σ H Qp := h
theorem r_exi {a : Int} {F : Int → Prop} (h : F a) : ∃ i, V.int a = .int i ∧ F i := ⟨a, rfl, h⟩
theorem r_slL {a : Addr} {xs : List V} {lo hi : Option Int} (hs : SqL K H a xs) (h : ∀ p, H p = none → Q (.ref p) (upd H p (.lst (cutV xs lo hi)))) : rSlL K (.ref a) lo hi H Q := ⟨a, xs, rfl, hs, h⟩
theorem r_ixl {p : Addr} {xs : List V} {a : Int} (h1 : SqL K H p xs) (h2 : atI xs a = some v) (h : Q v H) : rIxL K (.ref p) (.int a) H Q := ⟨_, _, _, _, rfl, rfl, h1, h2, h⟩
theorem r_ixt {p : Addr} {xs : List V} {a : Int} (h1 : SqT K H p xs) (h2 : atI xs a = some v) (h : Q v H) : rIxT K (.ref p) (.int a) H Q := ⟨_, _, _, _, rfl, rfl, h1, h2, h⟩
theorem r_gsub {s : TSet} (h : ta σ H fun o H1 => tb σ H1 fun i H2 => s o i v H2 fun H3 => QS σ H3) : gSub ta tb s v σ H QS := h
theorem r_setl {p : Addr} {xs : List V} {a : Int} {j : Nat} {QH : Hp → Prop} (h1 : H p = some (.lst xs)) (h2 : ixN xs.length a = some j) (h : QH (upd H p (.lst (xs.set j v)))) : rSetL (.ref p) (.int a) v H QH := ⟨_, _, _, _, rfl, rfl, h1, h2, h⟩
theorem r_par (h : tA σ H fun vs H1 => ∃ v w, vs = [v, w] ∧ D.nx ((σ.set i (some v)).set j (some w)) H1) : tPar i j tA D σ H := h
theorem r_par2 {F : V → V → Prop} (h : F x y) : ∃ v w, [x, y] = [v, w] ∧ F v w := ⟨x, y, rfl, h⟩
theorem r_gtup {n : Nat} {t : TGs} {p : Addr} {xs : List V} (h1 : SqT K H p xs) (h2 : xs.length = n) (h : t xs σ H QS) : gTup K n t (.ref p) σ H QS := ⟨_, _, rfl, h1, h2, h⟩
theorem r_gcons {t : TG} {u : TGs} {vs : List V} (h : t v σ H fun σ' H' => u vs σ' H' QS) : gCons t u (v :: vs) σ H QS := ⟨_, _, rfl, h⟩
theorem r_gnil (h : QS σ H) : gNil [] σ H QS := ⟨rfl, h⟩
theorem small_sz {n : Nat} (h : n ≤ 1000) : n ≤ sizeLine := Nat.le_trans h (by decide)
theorem r_new {n : Nat} {F : Prop} (hn : n ≤ 1000) (h : F) : n ≤ sizeLine ∧ F := ⟨small_sz hn, h⟩
theorem flat_rep (n : Nat) (v : V) : (List.replicate n [v]).flatten = List.replicate n v := by
  induction n with
  | zero => rfl
  | succ n ih => rw [List.replicate_succ, List.flatten_cons, ih, List.replicate_succ]; rfl
theorem r_rep1 {l : Addr} {n : Nat} (h1 : H l = some (.lst [v])) (hn : n ≤ 1000) (h : ∀ p, H p = none → Q (.ref p) (upd H p (.lst (List.replicate n v)))) : rRep (.ref l) (.int n) H Q := by
  refine ⟨_, _, _, rfl, rfl, h1, by omega, by omega, small_sz (by simp; exact hn), fun p hp => ?_⟩
  rw [Int.toNat_natCast, flat_rep]; exact h p hp
theorem r_popAt {l : Addr} {xs : List V} {a : Int} {j : Nat} {y : V} (h1 : H l = some (.lst xs)) (b1 : -(2 ^ 63) ≤ a) (b2 : a < 2 ^ 63) (h2 : seqIndex? a xs.length = some j) (h3 : xs[j]? = some y) (h : Q y (upd H l (.lst (xs.eraseIdx j)))) : rPopAt (.ref l) [.int a] H Q :=
  ⟨_, _, _, _, _, rfl, rfl, h1, b1, b2, h2, h3, h⟩
theorem tyl {l : Addr} {xs : List V} (h1 : H l = some (.lst xs)) : tyV K "list" (.ref l) H := .inl ⟨rfl, _, SqL.of h1⟩
theorem map_eraseIdx {α β : Type} (f : α → β) : ∀ (l : List α) (j : Nat), (l.map f).eraseIdx j = (l.eraseIdx j).map f
  | [], j => by cases j <;> rfl
  | a :: r, 0 => rfl
  | a :: r, j + 1 => by
    show f a :: (r.map f).eraseIdx j = f a :: (r.eraseIdx j).map f
    rw [map_eraseIdx f r j]
theorem r_sum {l : Addr} {ns : List Int} (h1 : SqL K H l (ns.map V.int)) (h : Q (.int ns.sum) H) : rSum K [.ref l] H Q := ⟨_, _, rfl, h1, h⟩
theorem seqIx_nat {j n : Nat} (h : j < n) : seqIndex? (j : Int) n = some j := by
  unfold seqIndex?
  have e : (if (j : Int) < 0 then (j : Int) + n else j) = j := if_neg (by omega)
  have e2 : (decide (0 ≤ (j : Int)) && decide ((j : Int) < n)) = true := by simp; omega
  simp only [e, e2, if_true, Int.toNat_natCast]
theorem seqIx_last {n : Nat} (h : 0 < n) : seqIndex? (-1) n = some (n - 1) := by
  unfold seqIndex?
  have e : (if (-1 : Int) < 0 then (-1 : Int) + n else -1) = ((n - 1 : Nat) : Int) := by rw [if_pos (by decide)]; omega
  have e2 : (decide (0 ≤ ((n - 1 : Nat) : Int)) && decide (((n - 1 : Nat) : Int) < n)) = true := by simp; omega
  simp only [e, e2, if_true, Int.toNat_natCast]
theorem if_d {p A B : Prop} [Decidable p] (h1 : p → A) (h2 : ¬ p → B) : if decide p = true then A else B := by
  by_cases h : p
  · rw [decide_eq_true h, if_pos rfl]; exact h1 h
  · rw [decide_eq_false h, if_neg Bool.false_ne_true]; exact h2 h
theorem if_nd {p A B : Prop} [Decidable p] (h1 : ¬ p → A) (h2 : p → B) : if (!decide p) = true then A else B := by
  by_cases h : p
  · rw [decide_eq_true h]; exact iteF (h2 h)
  · rw [decide_eq_false h]; exact iteT (h1 h)
theorem if_b {b : Bool} {A B : Prop} (h1 : b = true → A) (h2 : b = false → B) : if b = true then A else B := by
  cases b with
  | true => exact iteT (h1 rfl)
  | false => exact iteF (h2 rfl)
theorem if_T {b : Bool} {A B : Prop} (h : b = true) (h1 : A) : if b = true then A else B := by rw [if_pos h]; exact h1
theorem if_F {b : Bool} {A B : Prop} (h : b = false) (h1 : B) : if b = true then A else B := by rw [h]; exact iteF h1
end
theorem CMul.l {i j : Int} (h1 : -(2 ^ 64) < i) (h2 : i < 2 ^ 64) : CMul i j := .inl ⟨h1, h2⟩
theorem CMul.r {i j : Int} (h1 : -(2 ^ 64) < j) (h2 : j < 2 ^ 64) : CMul i j := .inr ⟨h1, h2⟩
/-- all but s is kept -/
def Kp (s : Addr) (H H' : Hp) : Prop := ∀ b o, b ≠ s → H b = some o → H' b = some o
theorem Kp.refl {s : Addr} (H : Hp) : Kp s H H := fun _ _ _ h => h
theorem Kp.trans {s : Addr} {H H1 H2 : Hp} (a : Kp s H H1) (b : Kp s H1 H2) : Kp s H H2 := fun c o n h => b c o n (a c o n h)
theorem Kp.upd {s p : Addr} {H H1 : Hp} {o : HO} (a : Kp s H H1) (h : H1 p = none) : Kp s H (L2.upd H1 p o) := fun c u n e => by rw [upd_ne (ne_of_none (a c u n e) h)]; exact a c u n e
theorem Kp.own {s p : Addr} {H H1 : Hp} {o : HO} (a : Kp s H H1) (h : H p = none) : Kp s H (L2.upd H1 p o) := fun c u n e => by rw [upd_ne (ne_of_none e h)]; exact a c u n e
theorem Kp.at {s : Addr} {H H1 : Hp} {o : HO} (a : Kp s H H1) : Kp s H (L2.upd H1 s o) := fun c u n e => by rw [upd_ne n]; exact a c u n e
theorem Kp.seq {s a : Addr} {H H' : Hp} {xs : List V} (e : Kp s H H') (n : a ≠ s) (h : SqL K H a xs) : SqL K H' a xs := by
  rcases h with (h | ⟨o, h⟩) | h
  · exact .inl (.inl (e _ _ n h))
  · exact .inl (.inr ⟨o, e _ _ n h⟩)
  · exact .inr h
theorem Kp.set {s a : Addr} {H H' : Hp} {xs : List V} (e : Kp s H H') (n : a ≠ s) (h : SqT K H a xs) : SqT K H' a xs := by
  rcases h with (h | ⟨o, h⟩) | h
  · exact .inl (.inl (e _ _ n h))
  · exact .inl (.inr ⟨o, e _ _ n h⟩)
  · exact .inr h
theorem _root_.L2.Same.kp {s : Addr} {H H' : Hp} (e : Same H H') : Kp s H H' := fun _ _ _ h => e _ _ h
/-- a global whose value is a tuple of the module -/
def tGT (K : PySem.W.Frag) (xs : List V) : TE := fun _ H Q => ∀ a, SqT K H a xs → Q (.ref a) H
theorem pe_gt {X : Cx} {x : Str} {xs : List V} {pos : Pos} (hg : Gl X x) (h : ∃ a, X.mg x = some (.ref a) ∧ ∀ H, SqT X.K H a xs) (hd : (x == ("__debug__" : Str)) = false := by decide) : PE X (.Name x pos) (tGT X.K xs) := by
  obtain ⟨a, e, ht⟩ := h
  exact ⟨fun pins s σ H Q I q => (pe_glob (v := .ref a) hg e rfl hd).run pins s σ H Q I (q a (ht H))⟩
/-- a global whose value is an int -/
theorem pe_gk {X : Cx} {x : Str} {i : Int} {pos : Pos} (hg : Gl X x) (h : ∃ t, X.mg x = some (.int i t)) (hd : (x == ("__debug__" : Str)) = false := by decide) : PE X (.Name x pos) (tC (.int i)) := by
  obtain ⟨t, e⟩ := h
  exact pe_glob hg e ⟨t, rfl⟩ hd
/-- a built-in class as a value -/
theorem pe_ty {X : Cx} {x : Str} {n : String} {pos : Pos} (hg : Gl X x) (hm : X.mg x = none) (hv : bootBuiltins x = some (.type n)) (hn : x ≠ "__name__" := by decide) (hd : (x == ("__debug__" : Str)) = false := by decide) : PE X (.Name x pos) (tC (.ty n)) := pe_bltn hg hm hv rfl hn hd
/-- a value whose kind is known -/
inductive Kn (K : PySem.W.Frag) (H : Hp) : V → String → Prop
  | non : Kn K H .non "NoneType"
  | bl (b : Bool) : Kn K H (.bl b) "bool"
  | int (i : Int) : Kn K H (.int i) "int"
  | str (x : Str) : Kn K H (.str x) "str"
  | lst {a : Addr} {xs : List V} (e : H a = some (.lst xs)) : Kn K H (.ref a) "list"
  | tup {a : Addr} {xs : List V} (e : H a = some (.tup xs)) : Kn K H (.ref a) "tuple"
  | dK {a : Addr} {kvs : List (Key × V)} (e : H a = some (.dK kvs)) : Kn K H (.ref a) "dict"
theorem Kn.ty {K : PySem.W.Frag} {H : Hp} {v : V} {n : String} (k : Kn K H v n) : TyX K H v (.type n) := by
  cases k with
  | non => exact .base .non
  | bl b => exact .base (.bl b)
  | int i => exact .base (.int i)
  | str x => exact .base (.str x)
  | lst e => exact .base (.lst e)
  | tup e => exact .base (.tup e)
  | dK e => exact .base (.dK e)
theorem Kn.ext {K : PySem.W.Frag} {H H' : Hp} {v : V} {n : String} (k : Kn K H v n) (e : ∀ a o, H a = some o → H' a = some o) : Kn K H' v n := by
  cases k with
  | non => exact .non
  | bl b => exact .bl b
  | int i => exact .int i
  | str x => exact .str x
  | lst h => exact .lst (e _ _ h)
  | tup h => exact .tup (e _ _ h)
  | dK h => exact .dK (e _ _ h)
theorem r_isi {K : PySem.W.Frag} {H : Hp} {Q : VK} {v : V} {n m : String} {b : Bool} (k : Kn K H v n) (e : kitB n m = some b) (h : Q (.bl b) H) : rIsi K [v, .ty m] H Q := ⟨_, _, _, _, _, rfl, .ty m, k.ty, kit_ty e, h⟩
theorem r_inT {K : PySem.W.Frag} {H : Hp} {Q : VK} {v : V} {p : Addr} {xs : List V} (hs : SqT K H p xs) (h1 : flatV v = true) (h2 : xs.all flatV = true) (h : Q (.bl (inV v xs)) H) : rIn K false v (.ref p) H Q := ⟨p, xs, rfl, .inr hs, h1, h2, h⟩
theorem r_inL {K : PySem.W.Frag} {H : Hp} {Q : VK} {v : V} {p : Addr} {xs : List V} (hs : SqL K H p xs) (h1 : flatV v = true) (h2 : xs.all flatV = true) (h : Q (.bl (inV v xs)) H) : rIn K false v (.ref p) H Q := ⟨p, xs, rfl, .inl hs, h1, h2, h⟩
theorem r_ninL {K : PySem.W.Frag} {H : Hp} {Q : VK} {v : V} {p : Addr} {xs : List V} (hs : SqL K H p xs) (h1 : flatV v = true) (h2 : xs.all flatV = true) (h : Q (.bl (!inV v xs)) H) : rIn K true v (.ref p) H Q := ⟨p, xs, rfl, .inl hs, h1, h2, h⟩
theorem dpall_ints {K : PySem.W.Frag} {H : Hp} : ∀ ns : List Int, DpAll K H (ns.map V.int) (ns.map PyData.int)
  | [] => .nil
  | i :: r => .cons (.int i) (dpall_ints r)
theorem eqvAll_ints : ∀ ns ms : List Int, PyData.eqvAll (ns.map PyData.int) (ms.map PyData.int) = decide (ns = ms)
  | [], [] => rfl
  | [], _ :: _ => rfl
  | _ :: _, [] => rfl
  | a :: r, b :: t => by
    show (PyData.eqv (.int a) (.int b) && PyData.eqvAll (r.map PyData.int) (t.map PyData.int)) = _
    rw [eqvAll_ints r t]
    show ((a == b) && decide (r = t)) = _
    by_cases h : a = b <;> simp [h]
theorem eqv_ints (ns ms : List Int) : PyData.eqv (.list (ns.map PyData.int)) (.list (ms.map PyData.int)) = decide (ns = ms) := by
  rw [← eqvAll_ints]
  simp only [PyData.eqv]
theorem canLay_ints : ∀ ns : List Int, PyData.canLayAll0 (ns.map PyData.int) = true
  | [] => rfl
  | a :: r => by
    have ih := canLay_ints r
    simp [PyData.canLayAll0, PyData.canLay0, ih]
theorem depth_ints : ∀ ns : List Int, PyData.depthAll (ns.map PyData.int) = 0
  | [] => rfl
  | a :: r => by
    have ih := depth_ints r
    simp [PyData.depthAll, PyData.depth, ih]
theorem shaped_ints (ns : List Int) : SeqAt.shaped (.list (ns.map PyData.int)) = true := by
  have h1 := canLay_ints ns
  have h2 := depth_ints ns
  simp [SeqAt.shaped, PyData.canLay0, PyData.depth, h1, h2]
theorem r_neI {K : PySem.W.Frag} {H : Hp} {Q : VK} {p q : Addr} {ns ms : List Int} (h1 : SqL K H p (ns.map V.int)) (h2 : SqL K H q (ms.map V.int)) (h : Q (.bl (!decide (ns = ms))) H) : rNeD K (.ref p) (.ref q) H Q :=
  ⟨_, _, .lst h1 (dpall_ints ns), .lst h2 (dpall_ints ms), shaped_ints _, shaped_ints _, by rw [eqv_ints]; exact h⟩
theorem r_eqI {K : PySem.W.Frag} {H : Hp} {Q : VK} {p q : Addr} {ns ms : List Int} (h1 : SqL K H p (ns.map V.int)) (h2 : SqL K H q (ms.map V.int)) (h : Q (.bl (decide (ns = ms))) H) : rEqD K (.ref p) (.ref q) H Q :=
  ⟨_, _, .lst h1 (dpall_ints ns), .lst h2 (dpall_ints ms), shaped_ints _, shaped_ints _, by rw [eqv_ints]; exact h⟩
theorem flat_ints (ns : List Int) : (ns.map V.int).all flatV = true := by simp [flatV]
theorem inV_ints (i : Int) (ns : List Int) : inV (.int i) (ns.map V.int) = decide (i ∈ ns) := by
  induction ns with
  | nil => rfl
  | cons a r ih =>
    show (eqV (.int a) (.int i) || inV (.int i) (r.map V.int)) = _
    rw [ih]
    show ((a == i) || decide (i ∈ r)) = _
    by_cases h : a = i
    · subst h; simp
    · have h' : ¬ i = a := fun e => h e.symm
      simp [h, h']
theorem _root_.L2.Same.upd {p : Addr} {H H1 : Hp} {o : HO} (a : Same H H1) (h : H1 p = none) : Same H (L2.upd H1 p o) := fun c u e => by rw [upd_ne (ne_of_none (a c u e) h)]; exact a c u e
def rIsN : R2 := fun x y H Q => y = .non ∧ Q (.bl (decide (x = .non))) H
def rNotN : R2 := fun x y H Q => y = .non ∧ Q (.bl (!decide (x = .non))) H
theorem o_isN {X : Cx} : OpR X (compareOp .Is) rIsN := op_isN
theorem o_notN {X : Cx} : OpR X (compareOp .IsNot) rNotN := op_notN
theorem r_isNi {H : Hp} {Q : VK} {i : Int} (h : Q (.bl false) H) : rIsN (.int i) .non H Q := ⟨rfl, h⟩
theorem r_isNn {H : Hp} {Q : VK} (h : Q (.bl true) H) : rIsN .non .non H Q := ⟨rfl, h⟩
theorem r_isNr {H : Hp} {Q : VK} {a : Addr} (h : Q (.bl false) H) : rIsN (.ref a) .non H Q := ⟨rfl, h⟩
theorem r_notNi {H : Hp} {Q : VK} {i : Int} (h : Q (.bl true) H) : rNotN (.int i) .non H Q := ⟨rfl, h⟩
theorem r_notNn {H : Hp} {Q : VK} (h : Q (.bl false) H) : rNotN .non .non H Q := ⟨rfl, h⟩
theorem r_notNr {H : Hp} {Q : VK} {a : Addr} (h : Q (.bl true) H) : rNotN (.ref a) .non H Q := ⟨rfl, h⟩
theorem r_cat {H : Hp} {Q : VK} {l b : Addr} {xs zs : List V} (h1 : H l = some (.lst xs)) (h2 : H b = some (.lst zs)) (hn : xs.length + zs.length ≤ 1000) (h : ∀ p, H p = none → Q (.ref p) (upd H p (.lst (xs ++ zs)))) : rCat (.ref l) (.ref b) H Q :=
  ⟨_, _, _, _, rfl, rfl, h1, h2, Nat.le_trans hn (by decide), h⟩
theorem cut_ints (ns : List Int) (lo hi : Option Int) : ∃ ms : List Int, cutV (ns.map V.int) lo hi = ms.map V.int ∧ ms.length ≤ ns.length := by
  unfold cutV
  refine ⟨(ns.drop _).take _, by rw [List.map_take, List.map_drop], ?_⟩
  rw [List.length_take, List.length_drop]
  omega
theorem _root_.L2.Same.off {p : Addr} {H H1 H2 : Hp} (e : Same H H1) (h : H p = none) (k : Kp p H1 H2) : Same H H2 := fun b o q => k b o (ne_of_none q h) (e b o q)
theorem _root_.L2.Same.own {p : Addr} {H H1 : Hp} {o : HO} (e : Same H H1) (h : H p = none) : Same H (L2.upd H1 p o) := fun b u q => by rw [upd_ne (ne_of_none q h)]; exact e b u q
/-! ### loops -/
/-- a for loop over what J tells -/
def Loop (J : It) (g : TG) (tb : TS) (D : Ends) (σ : St) (H : Hp) : Prop := tFor (fun _ H R => R J H) g tb D σ H
/-- a comprehension over what J tells -/
def LcLoop (J : It) (g : TG) (tt : TT) (te : TE) (vs : List Nat) (σ : St) (H : Hp) (Q : VK) : Prop := tLc (fun _ H R => R J H) g tt te vs σ H Q
section
variable {K : PySem.W.Frag} {D : Ends} {σ : St} {H : Hp} {Q : VK} {g : TG} {tb : TS} {tt : TT} {te : TE} {wi : TI} {vs : List Nat} {tA : TA}
theorem r_for (h : wi σ H fun J H1 => Loop J g tb D σ H1) : tFor wi g tb D σ H := h
theorem r_lc (h : wi σ H fun J H1 => LcLoop J g tt te vs σ H1 Q) : tLc wi g tt te vs σ H Q := h
theorem r_iR1 {R : It → Hp → Prop} (h : tA σ H fun xs H1 => ∃ j : Int, xs = [.int j] ∧ -(2 ^ 62) ≤ j ∧ j < 2 ^ 62 ∧ R (Itr 0 j.toNat) H1) : iRng1 tA σ H R := h
theorem r_iR2 {R : It → Hp → Prop} (h : tA σ H fun xs H1 => ∃ i j : Int, xs = [.int i, .int j] ∧ (-(2 ^ 62) ≤ i ∧ i < 2 ^ 62 ∧ -(2 ^ 62) ≤ j ∧ j < 2 ^ 62) ∧ R (Itr i (j - i).toNat) H1) : iRng2 tA σ H R := h
theorem r_iL {R : It → Hp → Prop} (h : te σ H fun x H1 => ∃ a, x = .ref a ∧ (∃ xs, SqL K H1 a xs) ∧ R (Itl K a) H1) : iList K te σ H R := h
theorem r_iT {R : It → Hp → Prop} (h : te σ H fun x H1 => ∃ a, x = .ref a ∧ (∃ xs, SqT K H1 a xs) ∧ R (Itt K a) H1) : iTup K te σ H R := h
theorem rng1L {a : Int} (n : Nat) (e : a = n) (hb : n < 2 ^ 62) (h : Loop (Itr 0 n) g tb D σ H) : ∃ j : Int, [V.int a] = [.int j] ∧ -(2 ^ 62) ≤ j ∧ j < 2 ^ 62 ∧ Loop (Itr 0 j.toNat) g tb D σ H := by
  subst e
  exact ⟨_, rfl, by omega, by omega, by rw [Int.toNat_natCast]; exact h⟩
theorem rng2L {a b : Int} (n : Nat) (e : b = a + n) (h1 : -(2 ^ 62) ≤ a) (h2 : a + n < 2 ^ 62) (h : Loop (Itr a n) g tb D σ H) : ∃ i j : Int, [V.int a, V.int b] = [.int i, .int j] ∧ (-(2 ^ 62) ≤ i ∧ i < 2 ^ 62 ∧ -(2 ^ 62) ≤ j ∧ j < 2 ^ 62) ∧ Loop (Itr i (j - i).toNat) g tb D σ H := by
  subst e
  refine ⟨_, _, rfl, by omega, ?_⟩
  rw [show (a + (n : Int) - a).toNat = n by omega]; exact h
theorem overLL {a : Addr} {xs : List V} (hs : SqL K H a xs) (h : Loop (Itl K a) g tb D σ H) : ∃ b, V.ref a = .ref b ∧ (∃ ys, SqL K H b ys) ∧ Loop (Itl K b) g tb D σ H := ⟨a, rfl, ⟨xs, hs⟩, h⟩
theorem overTL {a : Addr} {xs : List V} (hs : SqT K H a xs) (h : Loop (Itt K a) g tb D σ H) : ∃ b, V.ref a = .ref b ∧ (∃ ys, SqT K H b ys) ∧ Loop (Itt K b) g tb D σ H := ⟨a, rfl, ⟨xs, hs⟩, h⟩
theorem rng1C {a : Int} (n : Nat) (e : a = n) (hb : n < 2 ^ 62) (h : LcLoop (Itr 0 n) g tt te vs σ H Q) : ∃ j : Int, [V.int a] = [.int j] ∧ -(2 ^ 62) ≤ j ∧ j < 2 ^ 62 ∧ LcLoop (Itr 0 j.toNat) g tt te vs σ H Q := by
  subst e
  exact ⟨_, rfl, by omega, by omega, by rw [Int.toNat_natCast]; exact h⟩
theorem rng2C {a b : Int} (n : Nat) (e : b = a + n) (h1 : -(2 ^ 62) ≤ a) (h2 : a + n < 2 ^ 62) (h : LcLoop (Itr a n) g tt te vs σ H Q) : ∃ i j : Int, [V.int a, V.int b] = [.int i, .int j] ∧ (-(2 ^ 62) ≤ i ∧ i < 2 ^ 62 ∧ -(2 ^ 62) ≤ j ∧ j < 2 ^ 62) ∧ LcLoop (Itr i (j - i).toNat) g tt te vs σ H Q := by
  subst e
  refine ⟨_, _, rfl, by omega, ?_⟩
  rw [show (a + (n : Int) - a).toNat = n by omega]; exact h
theorem overLC {a : Addr} {xs : List V} (hs : SqL K H a xs) (h : LcLoop (Itl K a) g tt te vs σ H Q) : ∃ b, V.ref a = .ref b ∧ (∃ ys, SqL K H b ys) ∧ LcLoop (Itl K b) g tt te vs σ H Q := ⟨a, rfl, ⟨xs, hs⟩, h⟩
theorem overTC {a : Addr} {xs : List V} (hs : SqT K H a xs) (h : LcLoop (Itt K a) g tt te vs σ H Q) : ∃ b, V.ref a = .ref b ∧ (∃ ys, SqT K H b ys) ∧ LcLoop (Itt K b) g tt te vs σ H Q := ⟨a, rfl, ⟨xs, hs⟩, h⟩
theorem loop_range {n : Nat} (Pv : Nat → St → Hp → Prop) (h0 : Pv 0 σ H) (hs : ∀ (i : Nat) σ H, i < n → Pv i σ H → g (.int i) σ H fun σ2 H2 => tb { D with nx := Pv (i + 1), ct := Pv (i + 1), bk := D.nx } σ2 H2)
    (hd : ∀ σ H, Pv n σ H → D.nx σ H) : Loop (Itr 0 n) g tb D σ H :=
  for_range (lo := 0) Pv h0 (fun i σ H hi p => by rw [Int.zero_add]; exact hs i σ H hi p) hd
theorem loop_list {a : Addr} {xs : List V} (Pv : Nat → St → Hp → Prop) (h0 : Pv 0 σ H) (hl : ∀ i σ H, i ≤ xs.length → Pv i σ H → SqL K H a xs)
    (hs : ∀ (i : Nat) x σ H, xs[i]? = some x → Pv i σ H → g x σ H fun σ2 H2 => tb { D with nx := Pv (i + 1), ct := Pv (i + 1), bk := D.nx } σ2 H2) (hd : ∀ σ H, Pv xs.length σ H → D.nx σ H) : Loop (Itl K a) g tb D σ H :=
  for_list Pv h0 hl hs hd
theorem loop_tup {a : Addr} {xs : List V} (Pv : Nat → St → Hp → Prop) (h0 : Pv 0 σ H) (hl : ∀ i σ H, i ≤ xs.length → Pv i σ H → SqT K H a xs)
    (hs : ∀ (i : Nat) x σ H, xs[i]? = some x → Pv i σ H → g x σ H fun σ2 H2 => tb { D with nx := Pv (i + 1), ct := Pv (i + 1), bk := D.nx } σ2 H2) (hd : ∀ σ H, Pv xs.length σ H → D.nx σ H) : Loop (Itt K a) g tb D σ H :=
  for_tup Pv h0 hl hs hd
theorem filt_more {α : Type} (f : Nat → Bool) (v : Nat → α) (i : Nat) : ((List.range (i + 1)).filter f).map v = if f i then ((List.range i).filter f).map v ++ [v i] else ((List.range i).filter f).map v := by
  rw [List.range_succ, List.filter_append, List.map_append]
  by_cases h : f i = true <;> simp [h]
/-- a comprehension over range(n) whose test and item change nothing -/
theorem lc_pureR {n : Nat} (f : Nat → Bool) (v : Nat → V) (hn : n ≤ 1000000)
    (hs : ∀ D acc (i : Nat) (N : Hp → Prop), H D = none → i < n → acc.length < sizeLine → (f i = true → N (upd H D (.lst (acc ++ [v i])))) → (f i = false → N (upd H D (.lst acc))) →
      g (.int i) (wipe σ vs) (upd H D (.lst acc)) fun σ2 H2 => wipe σ2 vs = wipe σ vs ∧ tt σ2 H2 fun b H3 => if b = true then te σ2 H3 fun y H4 => ∃ a, H4 D = some (.lst a) ∧ a.length < sizeLine ∧ N (upd H4 D (.lst (a ++ [y]))) else N H3)
    (hd : ∀ D, H D = none → Q (.ref D) (upd H D (.lst (((List.range n).filter f).map v)))) : LcLoop (Itr 0 n) g tt te vs σ H Q := by
  intro D hD
  refine lc_range (lo := 0) (n := n) (fun i H' => H' = upd H D (.lst (((List.range i).filter f).map v))) rfl (fun i H' hi e => ?_) (fun H' e => ?_)
  · subst e
    rw [Int.zero_add]
    refine hs D _ i _ hD hi ?_ (fun h => ?_) (fun h => ?_)
    · have := List.length_filter_le f (List.range i)
      rw [List.length_map]
      rw [List.length_range] at this
      exact Nat.lt_of_le_of_lt (Nat.le_trans this (Nat.le_trans (Nat.le_of_lt hi) hn)) (by decide)
    · rw [filt_more, if_pos h]
    · rw [filt_more, if_neg (by rw [h]; exact Bool.false_ne_true)]
  · subst e
    exact hd D hD
theorem filtL_more {xs : List V} {i : Nat} {x : V} (f : V → Bool) (v : V → V) (h : xs[i]? = some x) : ((xs.take (i + 1)).filter f).map v = if f x then ((xs.take i).filter f).map v ++ [v x] else ((xs.take i).filter f).map v := by
  rw [List.take_succ, h, List.filter_append, List.map_append]
  by_cases c : f x = true <;> simp [c]
/-- the same over a list -/
theorem lc_pureL {a : Addr} {xs : List V} (f : V → Bool) (v : V → V) (hx : SqL K H a xs) (hn : xs.length ≤ 1000000)
    (hs : ∀ D acc (i : Nat) x (N : Hp → Prop), H D = none → xs[i]? = some x → acc.length < sizeLine → (f x = true → N (upd H D (.lst (acc ++ [v x])))) → (f x = false → N (upd H D (.lst acc))) →
      g x (wipe σ vs) (upd H D (.lst acc)) fun σ2 H2 => wipe σ2 vs = wipe σ vs ∧ tt σ2 H2 fun b H3 => if b = true then te σ2 H3 fun y H4 => ∃ a, H4 D = some (.lst a) ∧ a.length < sizeLine ∧ N (upd H4 D (.lst (a ++ [y]))) else N H3)
    (hd : ∀ D, H D = none → Q (.ref D) (upd H D (.lst ((xs.filter f).map v)))) : LcLoop (Itl K a) g tt te vs σ H Q := by
  intro D hD
  refine lc_list (K := K) (a := a) (xs := xs) (fun i H' => H' = upd H D (.lst (((xs.take i).filter f).map v))) rfl (fun i H' _ e => ?_) (fun i x H' hi e => ?_) (fun H' e => ?_)
  · subst e
    exact Same.seq (Same.upd (Same.refl H) hD) hx
  · subst e
    refine hs D _ i x _ hD hi ?_ (fun h => ?_) (fun h => ?_)
    · have h1 := List.length_filter_le f (xs.take i)
      rw [List.length_map]
      rw [List.length_take] at h1
      exact Nat.lt_of_le_of_lt (Nat.le_trans h1 (Nat.le_trans (Nat.min_le_right _ _) hn)) (by decide)
    · rw [filtL_more f v hi, if_pos h]
    · rw [filtL_more f v hi, if_neg (by rw [h]; exact Bool.false_ne_true)]
  · subst e
    rw [List.take_length]
    exact hd D hD
theorem r_wipe {σ' : St} {F : Prop} (e : wipe σ' vs = wipe σ vs) (h : F) : wipe σ' vs = wipe σ vs ∧ F := ⟨e, h⟩
theorem r_kept {D : Addr} {acc : List V} {y : V} {N : Hp → Prop} (hl : acc.length < sizeLine) (h : N (upd H D (.lst (acc ++ [y])))) : ∃ a, upd H D (.lst acc) D = some (.lst a) ∧ a.length < sizeLine ∧ N (upd (upd H D (.lst acc)) D (.lst (a ++ [y]))) := ⟨acc, upd_same, hl, by rw [upd_upd]; exact h⟩
end
/-! rules over the written part, by its name (within a comprehension's block too) -/
section
variable {X : Cx} {K : PySem.W.Frag}
theorem ixL (h : X.K = K := by rfl) : IxR X (rIxL K) := h ▸ ix_list
theorem ixT (h : X.K = K := by rfl) : IxR X (rIxT K) := h ▸ ix_tup
theorem inK (h : X.K = K := by rfl) : OpR X (compareOp .In) (rIn K false) := h ▸ op_in_seq
theorem ninK (h : X.K = K := by rfl) : OpR X (compareOp .NotIn) (rIn K true) := h ▸ op_notIn_seq
theorem eqK (hu : X.A.units + 64 < cLine) (h : X.K = K := by rfl) : OpR X (compareOp .Eq) (rEqD K) := h ▸ op_eqD hu
theorem neK (hu : X.A.units + 64 < cLine) (h : X.K = K := by rfl) : OpR X (compareOp .NotEq) (rNeD K) := h ▸ op_neD hu
theorem slK (h : X.K = K := by rfl) : SlR X (rSlL K) := h ▸ sl_list
theorem isiK (h : X.K = K := by rfl) : CallR X (.builtin "isinstance") (rIsi K) := h ▸ call_isi
theorem sumK (hc : X.calm = true) (h : X.K = K := by rfl) : CallR X (.builtin "sum") (rSum K) := h ▸ cr_sum hc
theorem allK (hc : X.calm = true) (h : X.K = K := by rfl) : CallR X (.builtin "all") (rAll K) := h ▸ cr_all hc
end
/-! built-in calls by named readings -/
def rIntC : List V → Hp → VK → Prop := fun xs H Q => (∃ i, xs = [.int i] ∧ Q (.int i) H) ∨ ∃ k, xs = [.bl k] ∧ Q (.int (if k then 1 else 0)) H
theorem c_int {X : Cx} : CallR X (.type "int") rIntC := call_int1
def rLenC (K : PySem.W.Frag) : List V → Hp → VK → Prop := fun xs H Q => ∃ x n, xs = [x] ∧ LenV K x H n ∧ Q (.int n) H
theorem c_len {X : Cx} {K : PySem.W.Frag} (h : X.K = K := by rfl) : CallR X (.builtin "len") (rLenC K) := h ▸ call_len
def rListC (K : PySem.W.Frag) : List V → Hp → VK → Prop := fun xs H Q => ∃ p ys, xs = [.ref p] ∧ (SqL K H p ys ∨ SqT K H p ys) ∧ ∀ l, H l = none → Q (.ref l) (upd H l (.lst ys))
theorem c_list {X : Cx} {K : PySem.W.Frag} (h : X.K = K := by rfl) : CallR X (.type "list") (rListC K) := h ▸ call_list_of
def rTupC (K : PySem.W.Frag) : List V → Hp → VK → Prop := fun xs H Q => ∃ p ys, xs = [.ref p] ∧ ((SqL K H p ys ∧ ∀ l, H l = none → Q (.ref l) (upd H l (.tup ys))) ∨ (SqT K H p ys ∧ Q (.ref p) H))
theorem c_tuple {X : Cx} {K : PySem.W.Frag} (h : X.K = K := by rfl) : CallR X (.type "tuple") (rTupC K) := h ▸ call_tuple_of
def rMax2 : List V → Hp → VK → Prop := fun xs H Q => ∃ i j, xs = [.int i, .int j] ∧ Q (.int (if j > i then j else i)) H
theorem c_max2 {X : Cx} (hc : X.calm = true) : CallR X (.builtin "max") rMax2 := call_max2 hc
def rMin2 : List V → Hp → VK → Prop := fun xs H Q => ∃ i j, xs = [.int i, .int j] ∧ Q (.int (if j < i then j else i)) H
theorem c_min2 {X : Cx} (hc : X.calm = true) : CallR X (.builtin "min") rMin2 := call_min2 hc
section
variable {K : PySem.W.Frag} {H : Hp} {Q : VK} {v : V} {p l : Addr} {xs : List V}
theorem r_int {a : Int} (h : Q (.int a) H) : rIntC [V.int a] H Q := .inl ⟨a, rfl, h⟩
theorem r_intb {b : Bool} (h : Q (.int (if b then 1 else 0)) H) : rIntC [V.bl b] H Q := .inr ⟨b, rfl, h⟩
theorem r_lenl (hs : SqL K H p xs) (h : Q (.int xs.length) H) : rLenC K [.ref p] H Q := ⟨_, _, rfl, .inl ⟨_, hs, rfl⟩, h⟩
theorem r_lent (hs : SqT K H p xs) (h : Q (.int xs.length) H) : rLenC K [.ref p] H Q := ⟨_, _, rfl, .inr ⟨_, hs, rfl⟩, h⟩
theorem r_listl (hs : SqL K H p xs) (h : ∀ l, H l = none → Q (.ref l) (upd H l (.lst xs))) : rListC K [.ref p] H Q := ⟨_, _, rfl, .inl hs, h⟩
theorem r_listt (hs : SqT K H p xs) (h : ∀ l, H l = none → Q (.ref l) (upd H l (.lst xs))) : rListC K [.ref p] H Q := ⟨_, _, rfl, .inr hs, h⟩
theorem r_tupl (hs : SqL K H p xs) (h : ∀ l, H l = none → Q (.ref l) (upd H l (.tup xs))) : rTupC K [.ref p] H Q := ⟨_, _, rfl, .inl ⟨hs, h⟩⟩
theorem r_tupt (hs : SqT K H p xs) (h : Q (.ref p) H) : rTupC K [.ref p] H Q := ⟨_, _, rfl, .inr ⟨hs, h⟩⟩
theorem r_max2 {a b : Int} (h : Q (.int (max a b)) H) : rMax2 [.int a, .int b] H Q := ⟨_, _, rfl, by
  have e : (if b > a then b else a) = max a b := by split <;> omega
  rw [e]; exact h⟩
theorem r_min2 {a b : Int} (h : Q (.int (min a b)) H) : rMin2 [.int a, .int b] H Q := ⟨_, _, rfl, by
  have e : (if b < a then b else a) = min a b := by split <;> omega
  rw [e]; exact h⟩
theorem r_append (h1 : H l = some (.lst xs)) (h2 : xs.length < sizeLine) (h : Q .non (upd H l (.lst (xs ++ [v])))) : rAppend (.ref l) [v] H Q := ⟨_, _, _, rfl, rfl, h1, h2, h⟩
theorem r_tyl {F : Prop} (h1 : H l = some (.lst xs)) (h : F) : tyV K "list" (.ref l) H ∧ F := ⟨tyl h1, h⟩
end
local macro_rules | `(tactic| walk_at "ne") => `(tactic| first | assumption | (apply Ne.symm; assumption) | grind)
local macro_rules | `(tactic| walk_at "hp") => `(tactic| first | assumption | exact upd_same | ((refine (upd_ne ?_).trans ?_) <;> first | walk_at "ne" | walk_at "hp"))
local macro_rules | `(tactic| walk_at "si") => `(tactic| first | decide | assumption | omega | exact CMul.l (by omega) (by omega) | exact CMul.r (by omega) (by omega) | exact ⟨by omega, by omega⟩)
local macro_rules | `(tactic| walk_at "rd1") => `(tactic| first
  | (with_reducible refine r_seq ?_) | (with_reducible refine r_asg ?_) | (with_reducible refine r_gname ?_) | (with_reducible refine r_drop ?_) | (with_reducible refine r_ret ?_) | (with_reducible refine r_retN ?_) | (with_reducible refine r_next ?_)
  | (with_reducible refine r_ifS ?_) | (with_reducible refine r_c ?_) | (with_reducible refine r_op ?_) | (with_reducible refine r_un ?_) | (with_reducible refine r_rU ?_) | (with_reducible refine r_rI0 ?_)
  | (with_reducible refine r_test ?_) | (with_reducible refine r_B ?_) | (with_reducible refine r_k ?_) | (with_reducible refine r_eqi ?_) | (with_reducible refine r_nei ?_) | (with_reducible refine r_eqs ?_) | (with_reducible refine r_chain ?_)
  | (with_reducible refine r_and ?_) | (with_reducible refine r_or ?_) | (with_reducible refine r_not ?_) | (with_reducible refine r_andV ?_) | (with_reducible refine r_orV ?_) | (with_reducible refine r_notV ?_) | (with_reducible refine r_k2 ?_) | (with_reducible refine r_ifE ?_)
  | (with_reducible refine r_nil ?_) | (with_reducible refine r_cons ?_) | (with_reducible refine r_tup ?_) | (with_reducible refine r_lst ?_) | (with_reducible refine r_call ?_) | (with_reducible refine r_callN ?_) | (with_reducible refine r_CB ?_)
  | (with_reducible refine r_BM ?_) | (with_reducible refine r_BM0 ?_) | (with_reducible refine r_fldE ?_) | (with_reducible refine r_gsub ?_) | (with_reducible refine r_par ?_) | (with_reducible refine r_par2 ?_) | (with_reducible refine r_int ?_) | (with_reducible refine r_intb ?_) | (with_reducible refine r_isNi ?_) | (with_reducible refine r_isNn ?_) | (with_reducible refine r_isNr ?_) | (with_reducible refine r_notNi ?_) | (with_reducible refine r_notNn ?_) | (with_reducible refine r_notNr ?_) | (with_reducible refine r_max2 ?_) | (with_reducible refine r_min2 ?_)
  | (with_reducible refine r_wipe (by with_unfolding_all rfl) ?_)
  | (with_reducible refine r_for ?_) | (with_reducible refine r_lc ?_) | (with_reducible refine r_iR1 ?_) | (with_reducible refine r_iR2 ?_) | (with_reducible refine r_iL ?_) | (with_reducible refine r_iT ?_)
  | (with_reducible refine r_sl ?_) | (with_reducible refine r_part ?_) | (with_reducible refine r_noPart ?_) | (with_reducible refine r_exi ?_)
  | (with_reducible refine r_gcons ?_) | (with_reducible refine r_gnil ?_)
  | ((with_reducible refine r_new ?_ ?_); (focus first | exact Nat.le_of_ble_eq_true rfl | (simp; omega)))
  | ((with_reducible show gTup _ _ _ _ _ _ _); refine r_gtup (SqT.of (by walk_at "hp")) (by rfl) ?_)
  | (with_reducible refine iteT ?_) | (with_reducible refine iteF ?_)
  | ((with_reducible show tVar _ _ _ _); refine r_var rfl ?_)
  | (with_reducible refine if_F (b := !true) rfl ?_) | (with_reducible refine if_T (b := !false) rfl ?_)
  | ((with_reducible show rIsi _ _ _ _); first | (refine r_isi (b := true) (by first | assumption | exact .non | exact .bl _ | exact .int _ | exact .str _ | exact .lst (by walk_at "hp") | exact .tup (by walk_at "hp") | exact .dK (by walk_at "hp")) (by decide +kernel) ?_) | (refine r_isi (b := false) (by first | assumption | exact .non | exact .bl _ | exact .int _ | exact .str _ | exact .lst (by walk_at "hp") | exact .tup (by walk_at "hp") | exact .dK (by walk_at "hp")) (by decide +kernel) ?_))
  | ((with_reducible refine r_rI ?_ ?_); (focus walk_at "si"))
  | ((with_reducible show rIxL _ _ _ _ _); refine r_ixl (SqL.of (by walk_at "hp")) (by rfl) ?_)
  | ((with_reducible show tyV _ "list" _ _ ∧ _); refine r_tyl (by walk_at "hp") ?_)
  | ((with_reducible show rSetL _ _ _ _ _); refine r_setl (by walk_at "hp") (by rfl) ?_)
  | (with_reducible refine if_T (decide_eq_true ?_) ?_; (focus first | assumption | omega))
  | (with_reducible refine if_F (decide_eq_false ?_) ?_; (focus first | assumption | omega)))
local macro_rules | `(tactic| walk_at "rd") => `(tactic| repeat walk_at "rd1")
local macro_rules | `(tactic| walk_at "go") => `(tactic| (dsimp only [cxOf, L2.start, List.map, List.length, List.replicate, List.cons_append, List.nil_append, Nat.sub, Nat.reduceSub, Nat.reduceAdd]))

/-! ### the law's draws -/
/-- a source of choices stands at s -/
def Src (H : Hp) (s : Addr) : Prop := ∃ a b c : Int, H s = some (.lst [.int a, .int b, .int c])
theorem Src.kp {H H' : Hp} {s t : Addr} (h : Src H s) (k : Kp t H H') (n : s ≠ t) : Src H' s := by
  obtain ⟨a, b, c, h⟩ := h
  exact ⟨a, b, c, k _ _ n h⟩
theorem Src.upd {H : Hp} {s p : Addr} {o : HO} (h : Src H s) (n : H p = none) : Src (upd H p o) s := by
  obtain ⟨a, b, c, h⟩ := h
  exact ⟨a, b, c, by rw [upd_ne (ne_of_none h n)]; exact h⟩
/-- the source alone is changed -/
def Off (s : Addr) (H H' : Hp) : Prop := ∀ b, b ≠ s → H' b = H b
theorem Off.kp {s : Addr} {H H' : Hp} (h : Off s H H') : Kp s H H' := fun b o n e => (h b n).trans e
theorem Off.none {s b : Addr} {H H' : Hp} (h : Off s H H') (hs : Src H s) (n : H b = none) : H' b = none := by
  obtain ⟨_, _, _, hs⟩ := hs
  rw [h b (by rintro rfl; rw [n] at hs; cases hs)]; exact n
def spNext : Sp := fun vs H Q _ => ∃ (s : Addr) (m : Int), vs = [.ref s, .int m] ∧ Src H s ∧ 0 < m ∧ m < 1073741824 ∧ ∀ (r : Int) (H' : Hp), 0 ≤ r → r < m → Src H' s → Off s H H' → Q (.int r) H'

/-! ### the rules' module -/
def isInt : V → Bool
  | .int _ => true
  | _ => false
def inBnd (lo hi : Int) : V → Bool
  | .int i => decide (lo ≤ i) && decide (i ≤ hi)
  | _ => false
inductive Rl | last | first | lowest | least
  deriving DecidableEq
def Rl.s : Rl → Str
  | .last => "last"
  | .first => "first"
  | .lowest => "lowest"
  | .least => "least"
def isRl : V → Bool
  | .str x => inV (.str x) [.str "last", .str "first", .str "lowest", .str "least"]
  | _ => false
def spIsInt (K : PySem.W.Frag) : Sp := fun vs H Q _ => ∃ (v : V) (T : String), vs = [v] ∧ Kn K H v T ∧ Q (.bl (isInt v)) H
def spBetween (K : PySem.W.Frag) : Sp := fun vs H Q _ => ∃ (v : V) (T : String) (lo hi : Int), vs = [v, .int lo, .int hi] ∧ Kn K H v T ∧ Q (.bl (inBnd lo hi v)) H
def spIsRule (K : PySem.W.Frag) : Sp := fun vs H Q _ => ∃ (v : V) (T : String), vs = [v] ∧ Kn K H v T ∧ Q (.bl (isRl v)) H
/-- valid arguments -/
structure Args (n l g : Int) : Prop where
  n1 : 1 ≤ n
  n2 : n ≤ 64
  l1 : 1 ≤ l
  l2 : l ≤ n
  g1 : 1 ≤ g
  g2 : g ≤ 1000000000
def spCheck : Sp := fun vs H Q _ => ∃ (n l g : Int) (r : Rl), vs = [.int n, .int l, .int g, .str r.s] ∧ Args n l g ∧ Q .non H
def spFull : Sp := fun vs H Q _ => ∃ (n l g : Int), vs = [.int n, .int l, .int g] ∧ 1 ≤ g ∧ g ≤ 1000000000 ∧ Q (.int (g * (n - l + 1) + l)) H
def hor (n l g : Int) : Rl → Int
  | .last => g + 1
  | .lowest => g + 1
  | _ => g * (n - l + 1) + l
def spHorizon : Sp := fun vs H Q _ => ∃ (n l g : Int) (r : Rl), vs = [.int n, .int l, .int g, .str r.s] ∧ Args n l g ∧ ∀ H', Same H H' → Q (.int (hor n l g r)) H'
def spRetired : Sp := fun vs H Q _ => ∃ (n l g : Int), vs = [.int n, .int l, .int g] ∧ Args n l g ∧ Q (.int (g * (n - l + 1) + l - 1)) H

/-! ### sorted(xs, key=lambda x: (counts[x], x)) -/
section
variable {prog : Program} {w : World} {A : Around} {s : Shared}
/-- a lambda of one argument is called: what its body gives -/
theorem key_call {f c' : Addr} {pm ctv v : Value} {qual xn : Str} {params : Arguments} {body : Expr} {scope : Scope} {cl : List (Str × Addr)} {k : PyData}
    (ho : s.heap.get? f = some (PySem.W.kla_obj "<lambda>" qual params body scope cl pm c' ctv)) (hcd : s.heap.CodeRec (.ref c') qual) (hroom : A.depth < recursionLimit) (hlim : s.heap.NoLimit)
    (hbind : bindArgs (PySem.W.kla_fn "<lambda>" qual params body scope cl pm (.ref c') ctv) ⟨[v], []⟩ = pure [(xn, v)]) (hx : scope.names.lookup xn = some .local) (hcell : ∀ y ∈ scope.names, y.2 ≠ .cell)
    (hco : scope.isCoroutine = false) (hgen : scope.isGenerator = false) (hk : scope.kind = .function)
    (hbody : ∀ (L : Addr) (h₁ : Heap) (tk : Nat), (∀ b o, s.heap.get? b = some o → h₁.get? b = some o) → h₁.Ns L (fun y => [(xn, v)].reverse.lookup y) →
      wpAny (model prog w) (A.deeper (PySem.W.envX qual scope L f (.ref c') cl)) (eval body (PySem.W.envX qual scope L f (.ref c') cl)) (PySem.W.KeyPure k { s with heap := h₁, toks := tk }) (fun _ _ => False) { s with heap := h₁, toks := tk }) :
    wpAny (model prog w) A (call (.ref f) [v]) (PySem.W.KeyPure k s) (fun _ _ => False) s := by
  refine wpAny_call (PySem.W.kla_callFunE hroom ho rfl hco hgen rfl hcd ?_)
  rw [hbind]
  refine wpAny_pure (wpAny_newFunctionEnv hcell (fun y hy => by rw [List.mem_singleton.mp hy]; exact hx) (fun h₁ hns hsb => ⟨hlim.fresh _ hsb, ?_⟩) hk)
  have kp : ∀ b o, s.heap.get? b = some o → h₁.get? b = some o := fun b o e => hsb.extBut b o (Nat.ne_of_lt (Heap.lt_size e)) (Heap.get?_push_of_some _ e)
  refine PySem.W.kla_codeExpr (wpAny_mono (hbody _ h₁ _ kp hns) (fun u s' hq => ?_) fun _ _ z => z.elim)
  obtain ⟨h', tk, rfl, k2, r⟩ := hq
  exact ⟨h', tk, rfl, fun b o e => k2 b o (kp b o e), r⟩
end
section
variable {prog : Program} {w : World} {A : Around} {s : Shared} {E : Value → Shared → Prop}
/-- counts[x], counts captured and x the argument -/
theorem key_item {qual xn C : Str} {scope : Scope} {L f cc l : Addr} {cd : Value} {cl : List (Str × Addr)} {m : Str → Option Value} {i : Nat} {t : Tok} {u : Value} {items : Array Value} {p1 p2 p3 : Pos} {Q : Value → Shared → Prop}
    (hk : scope.kind = .function) (hx : scope.names.lookup xn = some .local) (hC : scope.names.lookup C = some .free) (hcl : cl.lookup C = some cc) (hcell : s.heap.IsCell cc (some (.ref l))) (hl : s.heap.IsList l items)
    (hn : s.heap.Ns L m) (hm : m xn = some (.int i t)) (hi : (i : Int) < 2 ^ 63) (hu : items[i]? = some u) (h : Q u s)
    (d1 : (xn == ("__debug__" : Str)) = false) (d2 : (C == ("__debug__" : Str)) = false) (d3 : (C == ("__classdict__" : Str)) = false) :
    wpAny (model prog w) A (eval (.Subscript (.Name C p1) (.Name xn p2) p3) (PySem.W.envX qual scope L f cd cl)) Q E s := by
  refine PyProof.Rows.Subscript_ (wpAny_Name (wpAny_loadName_free hk hC hcl hcell ?_ d3) d2)
  refine wpAny_Name (wpAny_loadName_local hk hx hn hm ?_) d1
  exact PyProof.Rows.item_listR hl (by omega) hi (by rw [Int.toNat_natCast]; exact hu) h
/-- (e, x), e an int, x the argument -/
theorem key_pair {qual xn : Str} {scope : Scope} {L f : Addr} {cd : Value} {cl : List (Str × Addr)} {m : Str → Option Value} {i : Int} {t : Tok} {z : Int} {e : Expr} {p2 pos : Pos} {x1}
    (hk : scope.kind = .function) (hx : scope.names.lookup xn = some .local) (hn : s.heap.Ns L m) (hm : m xn = some (.int i t)) (d1 : (xn == ("__debug__" : Str)) = false)
    (hs : starEach [e, .Name xn p2] (PySem.W.envX qual scope L f cd cl) = [(false, eval e (PySem.W.envX qual scope L f cd cl)), (false, eval (.Name xn p2) (PySem.W.envX qual scope L f cd cl))])
    (he : ∀ Q : Value → Shared → Prop, (∀ (u : Tok) (tk : Nat), Q (.int z u) { s with toks := tk }) → wpAny (model prog w) A (eval e (PySem.W.envX qual scope L f cd cl)) Q E s) :
    wpAny (model prog w) A (eval (.Tuple [e, .Name xn p2] x1 pos) (PySem.W.envX qual scope L f cd cl)) (PySem.W.KeyPure (.tuple [.int z, .int i]) s) E s := by
  refine wpAny_Tuple_spliced ?_
  rw [hs]
  refine Calls.spliced_cons (he _ fun u tk => ?_)
  refine Calls.spliced_cons (wpAny_Name (wpAny_loadName_local hk hx hn hm ?_) d1)
  refine Calls.spliced_nil ⟨by show 2 ≤ sizeLine; decide, ?_⟩
  refine ⟨_, _, rfl, fun b o q => Heap.get?_push_of_some _ q, ?_⟩
  exact .tuple (as := []) (Heap.get?_push_size _ rfl) rfl rfl (.cons (as := []) (.int z u) (.cons (as := []) (.int i t) .nil))
end
/-- the key's first part, by the item's number: what it gives -/
def KeyIs (e : Expr) (C xn : Str) (gk : Int → Int) : Prop :=
  ∀ (prog : Program) (w : World) (A : Around) (s : Shared) (E : Value → Shared → Prop) (qual : Str) (scope : Scope) (L f cc l : Addr) (cd : Value) (cl : List (Str × Addr)) (m : Str → Option Value) (i : Nat) (t : Tok) (z : Int) (tz : Tok) (items : Array Value) (Q : Value → Shared → Prop),
    scope.kind = .function → scope.names.lookup xn = some .local → scope.names.lookup C = some .free → cl.lookup C = some cc → s.heap.IsCell cc (some (.ref l)) → s.heap.IsList l items → s.heap.Ns L m → m xn = some (.int i t) → (i : Int) < 2 ^ 63 → items[i]? = some (.int z tz) →
    (∀ (u : Tok) (tk : Nat), Q (.int (gk z) u) { s with toks := tk }) → wpAny (model prog w) A (eval e (PySem.W.envX qual scope L f cd cl)) Q E s
theorem keyIs_item {xn C : Str} {p1 p2 p3 : Pos} (d1 : (xn == ("__debug__" : Str)) = false := by decide) (d2 : (C == ("__debug__" : Str)) = false := by decide) (d3 : (C == ("__classdict__" : Str)) = false := by decide) :
    KeyIs (.Subscript (.Name C p1) (.Name xn p2) p3) C xn (fun z => z) := fun _ _ _ _ _ _ _ _ _ _ _ _ _ _ _ _ _ _ _ _ hk hx hC hcl hc hl hn hm hi hu h => key_item hk hx hC hcl hc hl hn hm hi hu (h _ _) d1 d2 d3
theorem keyIs_neg {xn C : Str} {p1 p2 p3 p4 p5 : Pos} {j : Nat} (d1 : (xn == ("__debug__" : Str)) = false := by decide) (d2 : (C == ("__debug__" : Str)) = false := by decide) (d3 : (C == ("__classdict__" : Str)) = false := by decide) :
    KeyIs (.BinOp (.Constant (.int 0) j p4) .Sub (.Subscript (.Name C p1) (.Name xn p2) p3) p5) C xn (fun z => 0 - z) := fun _ _ _ _ _ _ _ _ _ _ _ _ _ _ _ _ _ _ _ _ hk hx hC hcl hc hl hn hm hi hu h => by
  refine wpAny_BinOp (wpAny_Constant_int ?_)
  exact key_item hk hx hC hcl hc hl hn hm hi hu (PyProof.Rows.sub_int (h _ _)) d1 d2 d3
/-- by the key gk of the count, then by the number -/
def byKey (gk : Int → Int) (cs : List Int) (ns : List Nat) : List Nat := ns.mergeSort fun a b => decide (gk (cs.getD a 0) < gk (cs.getD b 0) ∨ (gk (cs.getD a 0) = gk (cs.getD b 0) ∧ a ≤ b))
/-- what such a sort asks of its list -/
def rSortLam (T : List (Addr × Str)) (K : PySem.W.Frag) (gk : Int → Int) (j : Nat) (σ : St) (Q : VK) : V → Hp → Prop := fun x H1 => ∃ (a l : Addr) (ns : List Nat) (cs : List Int), x = .ref a ∧ SqL K H1 a (ns.map fun (n : Nat) => V.int n) ∧ σ[j]? = some (some (.ref l)) ∧ SqL K H1 l (cs.map V.int) ∧
  (∀ n ∈ ns, n < cs.length) ∧ LamX.Tabs T H1 ∧ ∀ (H2 : Hp) (p : Addr), LamX.ExtN H1 H2 → LamX.Tabs T H2 → H2 p = none → Q (.ref p) (upd H2 p (.lst ((byKey gk cs ns).map fun (n : Nat) => V.int n)))
def tSortLam (T : List (Addr × Str)) (K : PySem.W.Frag) (gk : Int → Int) (j : Nat) (te : TE) : TE := fun σ H Q => te σ H (rSortLam T K gk j σ Q)
theorem SqL.extN {K : PySem.W.Frag} {H H' : Hp} {a : Addr} {xs : List V} (h : SqL K H a xs) (e : LamX.ExtN H H') : SqL K H' a xs := by
  rcases h with (h | ⟨o, h⟩) | h
  · exact .inl (.inl (e _ _ h fun _ z => by cases z))
  · exact .inl (.inr ⟨o, e _ _ h fun _ z => by cases z⟩)
  · exact .inr h
theorem each_nat : ∀ {ns : List Nat} {us : List Value}, Vals (ns.map fun (n : Nat) => V.int n) us → PySem.W.EachIs (fun v (n : Nat) => ∃ t, v = Value.int n t) us ns
  | [], _, h => by cases h; exact .nil
  | _ :: _, _, h => by
    cases h with
    | cons r t => exact .cons r (each_nat t)
theorem vals_each : ∀ {ns : List Nat} {us : List Value}, PySem.W.EachIs (fun v (n : Nat) => ∃ t, v = Value.int n t) us ns → Vals (ns.map fun (n : Nat) => V.int n) us
  | _, _, .nil => .nil
  | _, _, .cons r t => .cons r (vals_each t)
theorem pe_sortLam {X : Cx} {T : List (Addr × Str)} {c P : Addr} {j : Nat} {e e1 : Expr} {te : TE} {xn C : Str} {gk : Int → Int} {params : Arguments} {scope : Scope} {x1} {p p2 p3 lpos kpos pos : Pos} (hg : Gl X "sorted") (hm : X.mg "sorted" = none) (he : PE X e te)
    (TB : LamX.TabB X.base X.mg c P) (hcode : X.env.code = .ref c) (hmT : (P, X.env.qual ++ "<lambda>") ∈ T) (huT : ∀ q ∈ T, q.1 = P → q.2 = X.env.qual ++ "<lambda>") (hr : Room 2 X.A)
    (hN : X.N[j]? = some C) (hC : X.env.scope.names.lookup C = some .cell) (hke : KeyIs e1 C xn gk)
    (sk : scope.kind = .function) (sx : scope.names.lookup xn = some .local) (sC : scope.names.lookup C = some .free) (scell : ∀ y ∈ scope.names, y.2 ≠ .cell) (sfree : ∀ y ∈ scope.names, y.2 = .free → y.1 = C) (sco : scope.isCoroutine = false) (sgen : scope.isGenerator = false)
    (hclo : ∀ (cells : List (Str × Addr)) (cc : Addr), cells.lookup C = some cc → (cloFrom cells scope.names []).lookup C = some cc)
    (hdef : defaultsOf params X.env = ([], []))
    (hbind : ∀ (q : Str) (cl : List (Str × Addr)) (pm cv ctv v : Value), bindArgs (PySem.W.kla_fn "<lambda>" q params (.Tuple [e1, .Name xn p2] x1 p3) scope cl pm cv ctv) ⟨[v], []⟩ = pure [(xn, v)])
    (hs : ∀ env : Env, starEach [e1, .Name xn p2] env = [(false, eval e1 env), (false, eval (.Name xn p2) env)])
    (dx : (xn == ("__debug__" : Str)) = false := by decide)
    (hst : starEach (e :: []) X.env = (false, eval e X.env) :: starEach [] X.env := by rfl) (hse : backTo pos (starEach (e :: []) X.env) = (false, eval e X.env) :: backTo pos (starEach [] X.env) := by rfl) (hpl : (backTo pos (starEach (e :: []) X.env)).any (·.1) = false := by rfl)
    (hall : (backToKw pos (keywordEach [⟨some "key", .Lambda params (.Tuple [e1, .Name xn p2] x1 p3) scope lpos, kpos⟩] X.env)).all (·.1.isSome) = true := by rfl)
    (hnone : (backToKw pos (keywordEach [⟨some "key", .Lambda params (.Tuple [e1, .Name xn p2] x1 p3) scope lpos, kpos⟩] X.env)).any (·.1.isNone) = false := by rfl)
    (hks : (backToKw pos (keywordEach [⟨some "key", .Lambda params (.Tuple [e1, .Name xn p2] x1 p3) scope lpos, kpos⟩] X.env)).filterMap (·.1) = [Str.ofString "key"] := by rfl) :
    PE X (.Call (.Name "sorted" p) [e] [⟨some "key", .Lambda params (.Tuple [e1, .Name xn p2] x1 p3) scope lpos, kpos⟩] pos) (tSortLam T X.K gk j te) := by
  refine ⟨fun pins s σ H Q I h => ?_⟩
  refine wpAny_Call_Name_kw (ld_blt I hg hm PyProof.Rows.boot_sorted ?_)
  have hargs : PA X [e] (tCons te tNil) := pa_cons he pa_nil hst
  refine PyProof.Rows.callWith_kw (thn (hargs.run pos pins s σ H (fun vs H1 => match vs with | [x] => rSortLam T X.K gk j σ Q x H1 | _ => False) I h) fun us s1 hh => ?_) hse hpl hall hnone
  obtain ⟨vs, H1, I1, r1, q1⟩ := hh
  match vs, r1, q1 with
  | [x], r1, q1 =>
    obtain ⟨a, l, ns, cs, rfl, ha, hj, hl, hlt, hT, q⟩ := q1
    obtain rfl := Vals.ref1 r1
    rw [hks]
    show wpAny _ _ (evalAll ((do let v ← eval (.Lambda params (.Tuple [e1, .Name xn p2] x1 p3) scope lpos) X.env; standAt pos; pure v) :: [])) _ _ s1
    have hfr : ∀ y ∈ scope.names, y.2 = .free → ∃ c, X.env.cells.lookup y.1 = some c := fun y hy ey => by
      rw [sfree y hy ey]
      exact I1.ok.has C (.inl hC)
    refine wpAny_evalAll_cons (wpAny_bind (LamX.lam_make2 I1 TB hcode hmT huT hT hdef hfr fun f c' pm ctv H2 s2 I2 eN T2 hf hfn hff hco => ?_))
    refine wpAny_bind (wpAny_standAt (wpAny_pure (wpAny_evalAll_nil ?_)))
    show wpAny _ _ (call (.builtin "sorted") [.ref a] [(Str.ofString "key", .ref f)]) _ _ s2
    obtain ⟨its, rv, pl, hz⟩ := I2.list (SqL.extN ha eN)
    obtain ⟨ics, rc, plc, hzc⟩ := I2.list (SqL.extN hl eN)
    have hea := each_nat rv
    -- the captured list
    obtain ⟨m, hn, hloc⟩ := I2.loc
    obtain ⟨u, ru, lk⟩ := hloc j C (.ref l) hN hj (.inr (.inl hC))
    obtain rfl : u = Value.ref l := ru
    obtain ⟨cc, hcc, hcell⟩ : ∃ cc, X.env.cells.lookup C = some cc ∧ s2.heap.IsCell cc (some (.ref l)) := by
      rcases lk with ⟨k, _⟩ | ⟨_, cc, e1, e2⟩
      · have k' : X.env.scope.names.lookup C = some .local := k
        rw [hC] at k'; cases k'
      · exact ⟨cc, e1, e2⟩
    have hcrec : s2.heap.CodeRec (.ref c') (X.env.qual ++ "<lambda>") := by
      obtain ⟨⟨oc, vs, t, e1, e2, e3⟩, _, _⟩ := I2.hok c' _ hco
      exact ⟨c', oc, vs, t, rfl, e1, e2, e3⟩
    have hlim := I2.nolimit
    refine PySem.W.sorted_key_data (R := fun v (n : Nat) => ∃ t, v = Value.int n t) (b := false) (f := .ref f) (fun n : Nat => PyData.tuple [.int (gk (cs.getD n 0)), .int n]) pl.isList hea ?_ (.inl ?_) (by rw [List.length_map] at hz; exact hz) (fun n _ => ?_) (PyProof.Rows.ksk_s1 _ _) (fun _ => PyProof.Rows.ksk_l1 _ _)
      (fun _ => PyProof.Rows.ksk_t1 _ _) ?_ ?_
    · intro d hd d' hd'
      obtain ⟨n, _, rfl⟩ := List.mem_map.mp hd
      obtain ⟨n', _, rfl⟩ := List.mem_map.mp hd'
      simp [PySem.W.alike, PySem.W.alikeAll]
    · intro d hd
      obtain ⟨n, _, rfl⟩ := List.mem_map.mp hd
      exact ⟨_, _, rfl⟩
    · have h1 := hr.un
      have h2 : PyData.depth (.tuple [.int (gk (cs.getD n 0)), .int (n : Int)]) = 1 := rfl
      rw [h2]; omega
    · rintro v n ⟨t, rfl⟩ hn h tk kp
      have hnl := hlt n hn
      obtain ⟨w', ew, rw'⟩ := rc.get (i := n) (x := V.int cs[n]) (by simp [hnl])
      obtain ⟨tz, rfl⟩ : ∃ tz, w' = Value.int cs[n] tz := rw'
      have hn63 : (n : Int) < 2 ^ 63 := by
        have q := rc.length
        have h3 : ics.length ≤ sizeLine := by rw [← q]; exact hzc
        rw [List.length_map] at q
        rw [sizeLine_eq] at h3
        omega
      obtain ⟨o1, n1, g1, g2, g3, g4⟩ := plc
      have ed : cs.getD n 0 = cs[n] := by simp [hnl]
      refine key_call (s := { s2 with heap := h, toks := tk }) (xn := xn) (kp _ _ hf) (hcrec.keeps kp) (by have := hr.dp; show X.A.depth < _; omega) (hlim.keeps kp) (hbind _ _ _ _ _ _) sx scell sco sgen sk fun L h₁ tk' kp2 hns => ?_
      obtain ⟨oc, z1, z2⟩ := hcell
      rw [ed]
      refine key_pair (t := t) (s := { s2 with heap := h₁, toks := tk' }) sk sx hns (by simp) dx (hs _) fun Q' hq => ?_
      refine hke _ _ _ _ _ _ _ _ _ cc l _ _ _ n t cs[n] tz ics.toArray Q' sk sx sC (hclo _ _ hcc) ⟨oc, kp2 _ _ (kp _ _ z1), z2⟩ ⟨o1, kp2 _ _ (kp _ _ g1), g2, n1, g4⟩ hns (by simp) hn63 (by simpa using ew) hq
    · intro out cap h' tk kp hfree hat hlen hE
      have e1 := vals_each hE
      have e2 : (ns.mergeSort (PySem.W.dataLe false fun n : Nat => PyData.tuple [.int (gk (cs.getD n 0)), .int n])) = byKey gk cs ns := by
        unfold byKey
        rw [PySem.W.dataLe_ii (fun n : Nat => gk (cs.getD n 0)) (fun n : Nat => (n : Int))]
        congr 1
        funext a b
        congr 1
        simp
      rw [e2] at e1
      have hl2 : ((byKey gk cs ns).map fun (n : Nat) => V.int n).length ≤ sizeLine := by
        rw [List.length_map] at hz ⊢
        unfold byKey
        rw [List.length_mergeSort]; exact hz
      exact ⟨.ref _, upd H2 (s2.heap.objs.size + 1) (.lst ((byKey gk cs ns).map fun (n : Nat) => V.int n)), I2.laid (t' := tk) kp (Nat.le_succ _) ⟨hl2, out, cap, e1, hat⟩, rfl, q H2 _ eN T2 (I2.hok.fresh (Nat.le_succ _))⟩

/-! ### own special methods: in, not in, len, x[i] -/
section
variable {X : Cx} {CX : CXT} {n : Nat} {C f : Addr} {fd : FuncData} {ps : List Str} {sp : Sp} {E : XK} {K : PySem.W.Frag}
/-- a def called from somewhere below the running body -/
theorem run_at {A : Around} {pins : List (Addr × Obj)} {σ : St} {H : Hp} {s : Shared} {Q : VK} {us : List Value} {vs : List V} (F : FnOk X.prog X.w X.K X.mg X.base CX n f fd ps sp) (hr : Room n A) (hA : A.frames = X.A.frames) (hb : Binds X.K fd ps []) (hx : Passes CX X E)
    (I : Inv X pins σ H s) (r : Vals vs us) (h : sp vs H Q E) : wpAny (model X.prog X.w) A (call (.ref f) us) (EP X pins σ Q) X.xe s := by
  have hl : us.length = ps.length := r.length.symm.trans (F.len _ _ _ _ h)
  have e := I.env0
  have e0 : Env0 X.prog X.w X.K X.mg X.base A X.stack s H := ⟨hA.trans e.frames, e.mod, e.bs, e.bsz, e.funs, e.frf, e.hok, e.bare⟩
  have hbd := hb s us I.kIn (by simpa using hl)
  rw [List.append_nil] at hbd
  refine wpAny_call (codeAny_mono (F.run A X.stack s H ⟨us, []⟩ us vs Q E hr e0 hbd r h) fun out s' hq => ?_)
  match out, hq with
  | .error e, hq => exact hx pins σ H s e s' I hq
  | .ok (.ret _), hq => exact I.after hq
/-- x in o, by o's own __contains__ -/
def rInOwn (C : Addr) (sp : Sp) (E : XK) (neg : Bool) : R2 := fun x y H Q => ∃ a dx fs, y = .ref a ∧ H a = some (.ins C dx fs) ∧ sp [.ref a, x] H (fun v H' => ∃ b, v = .bl b ∧ Q (.bl (if neg then !b else b)) H') E
theorem op_inOwn (F : FnOk X.prog X.w X.K X.mg X.base CX n f fd ps sp) (hr : Room n X.A) (mt : Meth X.K C "__contains__" f) (hb : Binds X.K fd ps []) (hx : Passes CX X E) : OpR X (compareOp .In) (rInOwn C sp E false) := by
  intro pins s σ H x y v u Q I rx ry h
  obtain ⟨a, dx, fs, rfl, ha, hsp⟩ := h
  cases ry
  obtain ⟨mA, J, _⟩ := ins_get I.hok ha
  obtain ⟨od, J, _⟩ := J.look
  obtain ⟨m, hF⟩ := I.fr
  refine PySem.W.in_K hF I.ok.mod.kin J mt.at_ mt.fn ?_
  refine thn (run_at F hr rfl hb hx I (.cons (show RelV (.ref a) (.ref a) from rfl) (.cons rx .nil)) hsp) fun r s' hq => ?_
  obtain ⟨z, H', I', rz, b, rfl, q⟩ := hq
  obtain rfl : r = Value.bool b := rz
  exact wpAny_truthy_bool ⟨.bl b, H', I', rfl, q⟩
theorem op_ninOwn (F : FnOk X.prog X.w X.K X.mg X.base CX n f fd ps sp) (hr : Room n X.A) (mt : Meth X.K C "__contains__" f) (hb : Binds X.K fd ps []) (hx : Passes CX X E) : OpR X (compareOp .NotIn) (rInOwn C sp E true) := by
  intro pins s σ H x y v u Q I rx ry h
  obtain ⟨a, dx, fs, rfl, ha, hsp⟩ := h
  cases ry
  obtain ⟨mA, J, _⟩ := ins_get I.hok ha
  obtain ⟨od, J, _⟩ := J.look
  obtain ⟨m, hF⟩ := I.fr
  refine PySem.W.notIn_K hF I.ok.mod.kin J mt.at_ mt.fn ?_
  refine thn (run_at F hr rfl hb hx I (.cons (show RelV (.ref a) (.ref a) from rfl) (.cons rx .nil)) hsp) fun r s' hq => ?_
  obtain ⟨z, H', I', rz, b, rfl, q⟩ := hq
  obtain rfl : r = Value.bool b := rz
  exact wpAny_truthy_bool ⟨.bl (!b), H', I', rfl, q⟩
/-- len(o), by o's own __len__ -/
def rLenOwn (C : Addr) (sp : Sp) (E : XK) : List V → Hp → VK → Prop := fun xs H Q => ∃ a dx fs, xs = [.ref a] ∧ H a = some (.ins C dx fs) ∧ sp [.ref a] H (fun v H' => ∃ i : Int, v = .int i ∧ 0 ≤ i ∧ i < 2 ^ 62 ∧ Q (.int i) H') E
theorem c_lenOwn (F : FnOk X.prog X.w X.K X.mg X.base CX n f fd ps sp) (hr : Room (n + 1) X.A) (mt : Meth X.K C "__len__" f) (hb : Binds X.K fd ps []) (hx : Passes CX X E) : CallR X (.builtin "len") (rLenOwn C sp E) := by
  intro pins s σ H xs us Q I r h
  obtain ⟨a, dx, fs, rfl, ha, hsp⟩ := h
  obtain rfl := Vals.ref1 r
  obtain ⟨mA, J, _⟩ := ins_get I.hok ha
  obtain ⟨od, J, _⟩ := J.look
  obtain ⟨m, hF⟩ := I.fr
  refine PySem.W.len_K hF I.ok.mod.kin J mt.at_ mt.fn ?_
  refine thn (run_at F hr.in1 rfl hb hx I (.cons (show RelV (.ref a) (.ref a) from rfl) .nil) hsp) fun r s' hq => ?_
  obtain ⟨z, H', I', rz, i, rfl, i0, i1, q⟩ := hq
  obtain ⟨t, rfl⟩ : ∃ t, r = Value.int i t := rz
  exact ⟨⟨i0, by omega⟩, .int i, H', I'.tok _, ⟨_, rfl⟩, q⟩
/-- o[i], by o's own __getitem__ -/
def rIxOwn (C : Addr) (sp : Sp) (E : XK) : R2 := fun x y H Q => ∃ a dx fs, x = .ref a ∧ H a = some (.ins C dx fs) ∧ sp [.ref a, y] H Q E
theorem pe_ixOwn {a b : Expr} {ta tb : TE} {pos : Pos} (F : FnOk X.prog X.w X.K X.mg X.base CX n f fd ps sp) (hr : Room (n + 1) X.A) (mt : Meth X.K C "__getitem__" f) (hfn : PySem.W.fnIn X.K f = true) (hbd : Binds X.K fd ps []) (hx : Passes CX X E) (ha : PE X a ta) (hb : PE X b tb)
    (hs : ∀ o i, subscripted b true o i = runValue (.builtin "lifetime.subscript" ⟨[o, i], []⟩) := by intro _ _; rfl) : PE X (.Subscript a b pos) (tOp (rIxOwn C sp E) ta tb) := by
  refine ⟨fun pins s σ H Q I h => ?_⟩
  refine PyProof.Rows.Subscript_ (thn (ha.run pins s σ H _ I h) fun v s1 ⟨x, H1, I1, r1, q1⟩ => thn (hb.run pins s1 σ H1 _ I1 q1) fun u s2 ⟨y, H2, I2, r2, q2⟩ => ?_)
  obtain ⟨o, dx, fs, rfl, ho, hsp⟩ := q2
  obtain rfl : v = Value.ref o := r1
  obtain ⟨mA, J, _⟩ := ins_get I2.hok ho
  obtain ⟨od, J, _⟩ := J.look
  obtain ⟨m, hF⟩ := I2.fr
  exact PySem.W.sub_K hF I2.ok.mod.kin J mt.at_ hfn mt.fn (run_at F hr.in1 rfl hbd hx I2 (.cons (show RelV (.ref o) (.ref o) from rfl) (.cons r2 .nil)) hsp) (hs _ _)
end

/-! ### defs that hold a lambda: their code objects and tables -/
structure FunC (K : PySem.W.Frag) (x qual : Str) (st : Stmt) (f : Addr) (fd : FuncData) (c : Addr) : Prop where
  ex : ∃ (oc : Value) (od : Option Addr) (kV doc pm : Value) (an : Option Addr) (ct : Value) (osl : Array (Option Value)),
    fd = PySem.W.fnOf x qual (defArgs st) (defBody st) (defScope st) .none kV doc pm an (.ref c) ct ∧ K.lookup f = some ⟨oc, od, .func fd, osl⟩ ∧ PySem.W.codeIn K (.ref c) qual = true
theorem FunC.ok {P : Program} {w : World} {K : PySem.W.Frag} {mg : Str → Option Value} {base : Heap} {x qual : Str} {st : Stmt} {f c : Addr} {fd : FuncData} {N ps : List Str} {k : Nat} {sp : Sp} (F : FunC K x qual st f fd c) (S : FnScope N ps (defScope st)) (len : ∀ vs H Q E, sp vs H Q E → vs.length = ps.length)
    (hbody : ∀ (cdv : Value) (A : Around) (outer : List Env) (s : Shared) (H : Hp) (vs : List V) (Q : VK) (E : XK), Room k (A.deeper (PyProof.Rows.envOfC qual (defScope st) s.heap.objs.size f (.ref c))) → sp vs H Q E →
      ∃ t, PSs (cxOf CX0 P w K mg base N qual (defScope st) f (.ref c) A outer s H E).nox (defBody st) t ∧ t { nx := fun _ H' => Q .non H', rt := Q } (start N vs) H) : FnOk P w K mg base CX0 (k + 1) f fd ps sp := by
  obtain ⟨oc, od, kV, doc, pm, an, ct, osl, rfl, lk, hcd⟩ := F.ex
  refine fn_of lk hcd S len fun A outer s H vs Q E hr hsp => ?_
  obtain ⟨t, h, q⟩ := hbody (.ref c) A outer s H vs Q E hr hsp
  exact ⟨t, h.nox, q⟩
theorem func_mk {K : PySem.W.Frag} {x qual : Str} {st : Stmt} {f c : Addr} {oc : Value} {od an : Option Addr} {osl : Array (Option Value)} {kV doc pm ct : Value} (l : K.lookup f = some ⟨oc, od, .func (PySem.W.fnOf x qual (defArgs st) (defBody st) (defScope st) .none kV doc pm an (.ref c) ct), osl⟩)
    (h : PySem.W.codeIn K (.ref c) qual = true) : FunC K x qual st f (PySem.W.fnOf x qual (defArgs st) (defBody st) (defScope st) .none kV doc pm an (.ref c) ct) c := ⟨⟨oc, od, kV, doc, pm, an, ct, osl, rfl, l, h⟩⟩
/-- the defs of these names have empty tables -/
def TabsAt (l : List Str) (mg : Str → Option Value) (h : Heap) : Prop := ∀ x ∈ l, ∃ (a : Addr) (o : Obj) (fd : FuncData) (c P : Addr), mg x = some (.ref a) ∧ h.get? a = some o ∧ o.data = .func fd ∧ fd.code = .ref c ∧ PySem.W.CodeHd h c P ∧ h.get? P = some { cls := .none, data := .fields #[] }
theorem tab_at {K : PySem.W.Frag} {h : Heap} {mg : Str → Option Value} {l : List Str} {x : Str} {f c P : Addr} {fd : FuncData} {e cls : Value} {dd od : Option Addr} {vs : Array Value} {sl osl : Array (Option Value)} (X : K.In h) (HT : TabsAt l mg h) (hx : x ∈ l) (hm : mg x = some (.ref f))
    (hf : K.lookup f = some ⟨cls, od, .func fd, osl⟩) (hc : K.lookup c = some ⟨e, dd, .fields vs, sl⟩) (hv : vs[11]? = some (.ref P)) (hcd : fd.code = .ref c := by rfl) :
    PySem.W.CodeHd h c P ∧ h.get? P = some { cls := .none, data := .fields #[] } := by
  obtain ⟨a', o', fd', c', P', h1, h2, h3, h4, h5, h6⟩ := HT x hx
  rw [hm] at h1; cases h1
  rw [X _ _ hf] at h2; cases h2
  cases h3
  rw [hcd] at h4; cases h4
  obtain ⟨o2, vs2, _, _, _, _, _, _, _, g1, g2, g3, g4, _⟩ := id h5
  rw [X _ _ hc] at g1; cases g1
  cases g3
  rw [hv] at g4; cases g4
  exact ⟨h5, h6⟩
theorem walkT {l : PySem.W.OpenLaw} {n k : Nat} {q : Program} {loose : List Str} {XP : (Str → Option Value) → Heap → Prop} {YP : World → Heap → Prop} {d : DefRec} {K : Params → PySem.W.Frag} {x : Str} {LN : List Str}
    (hn : l.most = some n) (hn2 : n ≤ sizeLine) (hdf : d.params.defaults = []) (hr : Room k callerA) (hrec : (LN.all fun x => (PyProof.Rows.recsOf q).any fun e => e.name == x) = true) (hY : ∀ (w : World) (h : Heap), YP w h → (K w.params).In h)
    (F : ∀ (w : World) (mg : Str → Option Value) (fa : Addr) (h : Heap), YP w h → (K w.params).In h → h.Ns mainGlobals mg → mg d.name = some (.ref fa) → TabsAt LN mg h → LamX.LawAtS l w (K w.params) CX0 k n x mg fa h) :
    PySem.W.WalkO q loose XP YP l.row.toRowW d [] (fun f vs => PySem.call f vs) := by
  refine Att.attach_callB hn hdf fun w s₀ s₁ mg mb fa o pm cd doc a vs ns G Y ho hd hcd hmg hobj hints hlen hbits hg => ?_
  have KX := hY w _ Y
  have own : TabsAt LN mg s₁.heap := fun x hx => by
    obtain ⟨dL, hm, hn1⟩ := List.any_eq_true.mp (List.all_eq_true.mp hrec x hx)
    have hn2 : dL.name = x := beq_iff_eq.mp hn1
    obtain ⟨a', o', fd', c', P', h1, h2, h3, h4, h5, h6⟩ := G.T.tab dL hm
    rw [hn2] at h1
    exact ⟨a', o', fd', c', P', h1, h2, h3, h4, PySem.W.CodeHd.of h5 h6, h6.2⟩
  obtain ⟨fd, cs, sp, hT, nT, C, hb, hsp, hF⟩ := F w mg fa _ Y KX G.T.g hmg own
  exact LamX.law_callTs KX G.T.g G.T.b G.T.builtins G.T.nolimit hg hT nT C G.T.bmain hobj hints (Nat.le_trans hlen hn2) hr hF hb (fun H hH hS => hsp H a ns hlen hbits hH hS) fun H e s' z => z
/-! ### what is kept, tables aside -/
def New (H : Hp) (b : Addr) : Prop := ∀ o, H b = some o → ∃ ps, o = HO.tbl ps
theorem New.of {H : Hp} {b : Addr} (h : H b = none) : New H b := fun o e => by rw [h] at e; cases e
def Out (F : Addr → Prop) (H H' : Hp) : Prop := ∀ b o, ¬ F b → H b = some o → (∀ ps, o ≠ HO.tbl ps) → H' b = some o
def Nil : Addr → Prop := fun _ => False
theorem Out.refl {F : Addr → Prop} (H : Hp) : Out F H H := fun _ _ _ h _ => h
theorem Out.trans {F F' : Addr → Prop} {H H1 H2 : Hp} (a : Out F H H1) (b : Out F' H1 H2) (g : ∀ c, F' c → F c ∨ New H c) : Out F H H2 := fun c o n h t => b c o (fun z => (g c z).elim n fun w => by obtain ⟨ps, e⟩ := w o h; exact t ps e) (a c o n h t) t
theorem Out.nil {F : Addr → Prop} {H H1 H2 : Hp} (a : Out F H H1) (b : Out Nil H1 H2) : Out F H H2 := a.trans b fun _ z => z.elim
theorem Out.mono {F F' : Addr → Prop} {H H1 : Hp} (a : Out F H H1) (g : ∀ c, F c → F' c ∨ New H c) : Out F' H H1 := fun c o n h t => a c o (fun z => (g c z).elim n fun w => by obtain ⟨ps, e⟩ := w o h; exact t ps e) h t
theorem Out.new {F : Addr → Prop} {H H1 : Hp} {p : Addr} (a : Out F H H1) (h : New H1 p) : F p ∨ New H p := by
  by_cases f : F p
  · exact .inl f
  · refine .inr fun o e => ?_
    by_cases t : ∀ ps, o ≠ HO.tbl ps
    · exact h _ (a p o f e t)
    · exact Classical.byContradiction fun z => t fun ps q => z ⟨ps, q⟩
theorem Out.upd {F : Addr → Prop} {H H1 : Hp} {p : Addr} {o : HO} (a : Out F H H1) (h : F p ∨ New H p) : Out F H (L2.upd H1 p o) := fun c u n e t => by
  rw [upd_ne (fun z => by subst z; exact h.elim n fun w => by obtain ⟨ps, q⟩ := w u e; exact t ps q)]
  exact a c u n e t
theorem Out.fresh {F : Addr → Prop} {H H1 : Hp} {p : Addr} {o : HO} (a : Out F H H1) (h : H1 p = none) : Out F H (L2.upd H1 p o) := a.upd (a.new (.of h))
theorem Out.same {F : Addr → Prop} {H H' : Hp} (h : Same H H') : Out F H H' := fun b o _ e _ => h b o e
theorem Out.ext {H H' : Hp} (h : LamX.ExtN H H') : Out Nil H H' := fun b o _ e t => h b o e t
theorem Out.toExt {H H' : Hp} (h : Out Nil H H') : LamX.ExtN H H' := fun b o e t => h b o (fun z => z) e t
theorem Out.kp {s : Addr} {H H' : Hp} (h : Kp s H H') : Out (fun b => b = s) H H' := fun b o n e _ => h b o n e
theorem Out.seq {K : PySem.W.Frag} {F : Addr → Prop} {H H' : Hp} {a : Addr} {xs : List V} (e : Out F H H') (n : ¬ F a) (h : SqL K H a xs) : SqL K H' a xs := by
  rcases h with (h | ⟨o, h⟩) | h
  · exact .inl (.inl (e _ _ n h fun _ z => by cases z))
  · exact .inl (.inr ⟨o, e _ _ n h fun _ z => by cases z⟩)
  · exact .inr h
theorem Out.set {K : PySem.W.Frag} {F : Addr → Prop} {H H' : Hp} {a : Addr} {xs : List V} (e : Out F H H') (n : ¬ F a) (h : SqT K H a xs) : SqT K H' a xs := by
  rcases h with (h | ⟨o, h⟩) | h
  · exact .inl (.inl (e _ _ n h fun _ z => by cases z))
  · exact .inl (.inr ⟨o, e _ _ n h fun _ z => by cases z⟩)
  · exact .inr h
theorem Out.lst {F : Addr → Prop} {H H' : Hp} {a : Addr} {xs : List V} (e : Out F H H') (n : ¬ F a) (h : H a = some (.lst xs)) : H' a = some (.lst xs) := e _ _ n h fun _ z => by cases z
theorem Out.tup {F : Addr → Prop} {H H' : Hp} {a : Addr} {xs : List V} (e : Out F H H') (n : ¬ F a) (h : H a = some (.tup xs)) : H' a = some (.tup xs) := e _ _ n h fun _ z => by cases z
theorem Out.src {F : Addr → Prop} {H H' : Hp} {s : Addr} (e : Out F H H') (n : ¬ F s) (h : Src H s) : Src H' s := by
  obtain ⟨a, b, c, h⟩ := h
  exact ⟨a, b, c, e.lst n h⟩
/-- tables, when a list, dict or instance is put -/
def Plain : HO → Prop
  | .tbl _ => False
  | .ext _ => False
  | _ => True
theorem tabs_keep {T : List (Addr × Str)} {H H' : Hp} (t : LamX.Tabs T H) (k : ∀ b o, H b = some o → ¬ Plain o → H' b = some o) : LamX.Tabs T H' := fun p hp => by
  obtain ⟨ps, h1, h2, h3⟩ := t p hp
  refine ⟨ps, k _ _ h1 (fun z => z), h2, fun pos cv e => ?_⟩
  obtain ⟨c, e1, e2⟩ := h3 pos cv e
  exact ⟨c, e1, k _ _ e2 (fun z => z)⟩
theorem tabs_new {T : List (Addr × Str)} {H : Hp} {a : Addr} {o : HO} (t : LamX.Tabs T H) (h : H a = none) : LamX.Tabs T (upd H a o) := tabs_keep t fun b u e _ => by rw [upd_ne (ne_of_none e h)]; exact e
theorem tabs_put {T : List (Addr × Str)} {H : Hp} {a : Addr} {o u : HO} (t : LamX.Tabs T H) (h : H a = some u) (p : Plain u) : LamX.Tabs T (upd H a o) := tabs_keep t fun b v e n => by
  rw [upd_ne (fun z => by subst z; rw [h] at e; cases e; exact n p)]; exact e
theorem tabs_kp {T : List (Addr × Str)} {s : Addr} {H H' : Hp} (t : LamX.Tabs T H) (k : Kp s H H') (h : Src H s) : LamX.Tabs T H' := tabs_keep t fun b o e n => k b o (fun z => by
  subst z
  obtain ⟨_, _, _, h⟩ := h
  rw [h] at e; cases e; exact n trivial) e
theorem tabs_same {T : List (Addr × Str)} {H H' : Hp} (t : LamX.Tabs T H) (k : Same H H') : LamX.Tabs T H' := tabs_keep t fun b o e _ => k b o e
def spLaw (Tb : List (Addr × Str)) (K : PySem.W.Frag) : Sp := fun vs H Q _ => ∃ (a : Addr) (ns : List Int), vs = [.ref a] ∧ SqL K H a (ns.map V.int) ∧ ns.length ≤ 63 ∧ LamX.Tabs Tb H ∧ ∀ H', Q (.bl true) H'

/-! ### slot maps: the model -/
def ci (l : List Nat) : List Int := l.map fun (n : Nat) => (n : Int)
def iv (l : List Nat) : List V := (ci l).map V.int
theorem iv_map (l : List Nat) : iv l = l.map fun (n : Nat) => V.int n := by simp [iv, ci]
theorem ci_len (l : List Nat) : (ci l).length = l.length := by simp [ci]
theorem iv_len (l : List Nat) : (iv l).length = l.length := by simp [iv, ci]
theorem ci_get {l : List Nat} {i n : Nat} (h : l[i]? = some n) : (ci l)[i]? = some (n : Int) := by simp [ci, h]
theorem iv_get {l : List Nat} {i n : Nat} (h : l[i]? = some n) : (iv l)[i]? = some (V.int n) := by simp [iv, ci, h]
theorem ci_inj : ∀ {l m : List Nat}, ci l = ci m → l = m
  | [], [], _ => rfl
  | [], _ :: _, h => by cases h
  | _ :: _, [], h => by cases h
  | a :: l, b :: m, h => by
    have h1 : (a : Int) = b := (List.cons.inj h).1
    have h2 : ci l = ci m := (List.cons.inj h).2
    rw [Int.ofNat_inj.mp h1, ci_inj h2]
theorem mem_ci {l : List Nat} {n : Nat} : (n : Int) ∈ ci l ↔ n ∈ l := ⟨fun h => by
  obtain ⟨a, h1, h2⟩ := List.mem_map.mp h
  have e : a = n := by omega
  exact e ▸ h1, fun h => List.mem_map.mpr ⟨n, h, rfl⟩⟩
theorem count_ci (l : List Nat) (n : Nat) : (ci l).count (n : Int) = l.count n := by
  induction l with
  | nil => rfl
  | cons a r ih =>
    show List.count (n : Int) ((a : Int) :: ci r) = _
    rw [List.count_cons, List.count_cons, ih]
    by_cases h : a = n <;> simp [h]
    have : ¬ ((a : Int) = n) := by omega
    simp [this]
def sortN (l : List Nat) : List Nat := l.mergeSort fun a b => decide (a ≤ b)
theorem sortN_perm (l : List Nat) : (sortN l).Perm l := List.mergeSort_perm _ _
theorem sortN_sorted (l : List Nat) : (sortN l).Pairwise (· ≤ ·) := by
  have h := List.pairwise_mergeSort (le := fun a b : Nat => decide (a ≤ b)) (fun a b c h1 h2 => by simp only [decide_eq_true_eq] at *; omega) (fun a b => by simp only [Bool.or_eq_true, decide_eq_true_eq]; omega) l
  exact h.imp (by simp)
theorem sorted_ci {l : List Nat} {ms : List Int} (hp : ms.Perm (ci l)) (hs : ms.Pairwise (· ≤ ·)) : ms = ci (sortN l) := by
  refine List.Perm.eq_of_pairwise (le := fun a b : Int => decide (a ≤ b)) (fun a b _ _ h1 h2 => ?_) ?_ ?_ (hp.trans ((sortN_perm l).map _).symm)
  · simp only [decide_eq_true_eq] at h1 h2; omega
  · exact hs.imp (by simp)
  · exact List.Pairwise.map _ (fun a b h => by simp; omega) (sortN_sorted l)
theorem byKey_perm (gk : Int → Int) (cs : List Int) (l : List Nat) : (byKey gk cs l).Perm l := List.mergeSort_perm _ _
/-- the free slots in the order of taking -/
def takeOrd (r : Rl) (o t : List Nat) : List Nat := match r with
  | .lowest => sortN o
  | .least => byKey (fun z => z) (ci t) o
  | _ => o
theorem takeOrd_perm (r : Rl) (o t : List Nat) : (takeOrd r o t).Perm o := by
  cases r
  · exact .refl _
  · exact .refl _
  · exact sortN_perm o
  · show (byKey (fun z => z) (ci t) o).Perm o
    exact byKey_perm _ _ o
def behind (r : Rl) (o : List Nat) (s : Nat) : List Nat := match r with
  | .last => s :: o
  | _ => o ++ [s]
theorem behind_perm (r : Rl) (o : List Nat) (s : Nat) : (behind r o s).Perm (s :: o) := by
  cases r
  · exact .refl _
  · exact List.perm_append_comm
  · exact List.perm_append_comm
  · exact List.perm_append_comm
structure SM where
  n : Nat
  lim : Nat
  g : Nat
  rule : Rl
  order : List Nat
  live : List (Nat × V)
  taken : List Nat
def SM.ages (m : SM) : List Nat := m.live.map (·.1)
def SM.free (m : SM) : List Nat := takeOrd m.rule m.order m.taken
def SM.cnt (m : SM) (s : Nat) : Nat := m.taken.getD s 0
def SM.gen (m : SM) (s : Nat) : Int := ((m.cnt s : Int) - 1) % (m.g : Int)
def SM.new (n l g : Nat) (r : Rl) : SM := ⟨n, l, g, r, List.range n, [], List.replicate n 0⟩
def SM.slot (m : SM) : Nat := m.free.headD 0
def SM.take (m : SM) (v : V) : SM := { m with order := m.order.erase m.slot, live := m.live ++ [(m.slot, v)], taken := m.taken.set m.slot (m.cnt m.slot + 1) }
def SM.give (m : SM) (s : Nat) : SM := { m with order := behind m.rule m.order s, live := m.live.filter fun q => decide (q.1 ≠ s) }
structure SM.Ok (m : SM) : Prop where
  ar : Args m.n m.lim m.g
  perm : (m.order ++ m.ages).Perm (List.range m.n)
  tl : m.taken.length = m.n
  lv : m.live.length ≤ m.lim
  pos : ∀ s ∈ m.ages, 1 ≤ m.cnt s
namespace SM
variable {m : SM}
theorem Ok.n64 (h : m.Ok) : m.n ≤ 64 := by have := h.ar.n2; omega
theorem Ok.nodup (h : m.Ok) : (m.order ++ m.ages).Nodup := h.perm.nodup_iff.mpr List.nodup_range
theorem Ok.lt (h : m.Ok) {s : Nat} (hs : s ∈ m.order ++ m.ages) : s < m.n := List.mem_range.mp (h.perm.mem_iff.mp hs)
theorem Ok.ltO (h : m.Ok) {s : Nat} (hs : s ∈ m.order) : s < m.n := h.lt (List.mem_append_left _ hs)
theorem Ok.ltA (h : m.Ok) {s : Nat} (hs : s ∈ m.ages) : s < m.n := h.lt (List.mem_append_right _ hs)
theorem Ok.len (h : m.Ok) : m.order.length + m.live.length = m.n := by
  have e := h.perm.length_eq
  rw [List.length_append, List.length_range] at e
  simpa [ages] using e
theorem Ok.free_perm (m : SM) : m.free.Perm m.order := takeOrd_perm _ _ _
theorem Ok.room (h : m.Ok) (hl : m.live.length < m.lim) : m.free ≠ [] := fun e => by
  have e1 := (Ok.free_perm m).length_eq
  rw [e] at e1
  have := h.len
  have := h.ar.l2
  simp at e1
  omega
theorem Ok.free_cons (h : m.Ok) (hl : m.live.length < m.lim) : ∃ r, m.free = m.slot :: r := by
  cases e : m.free with
  | nil => exact absurd e (h.room hl)
  | cons a r => exact ⟨r, by simp [slot, e]⟩
theorem Ok.slot_mem (h : m.Ok) (hl : m.live.length < m.lim) : m.slot ∈ m.order := by
  obtain ⟨r, e⟩ := h.free_cons hl
  exact (Ok.free_perm m).mem_iff.mp (by rw [e]; exact List.mem_cons_self)
theorem Ok.slot_lt (h : m.Ok) (hl : m.live.length < m.lim) : m.slot < m.n := h.ltO (h.slot_mem hl)
theorem Ok.slot_dead (h : m.Ok) (hl : m.live.length < m.lim) : m.slot ∉ m.ages := fun z => (List.nodup_append.mp h.nodup).2.2 _ (h.slot_mem hl) _ z rfl
theorem ok_new {n l g : Nat} (r : Rl) (a : Args n l g) : (SM.new n l g r).Ok := ⟨a, by simp [SM.new, ages], by simp [SM.new], by simp [SM.new], by simp [SM.new, ages]⟩
theorem cnt_take (h : m.Ok) (hl : m.live.length < m.lim) (v : V) (s : Nat) : (m.take v).cnt s = m.cnt s + if s = m.slot then 1 else 0 := by
  have hs := h.slot_lt hl
  have ht := h.tl
  show (m.taken.set m.slot (m.cnt m.slot + 1)).getD s 0 = m.taken.getD s 0 + _
  by_cases e : s = m.slot
  · subst e
    simp [cnt, show m.slot < m.taken.length by omega]
  · have e' : m.slot ≠ s := fun z => e z.symm
    simp [e, List.getElem?_set, e']
theorem ok_take (h : m.Ok) (hl : m.live.length < m.lim) (v : V) : (m.take v).Ok := by
  refine ⟨h.ar, ?_, ?_, ?_, ?_⟩
  · have h1 := h.slot_mem hl
    have h2 : (m.order.erase m.slot ++ (m.ages ++ [m.slot])).Perm (m.order ++ m.ages) := by
      have h3 : (m.order.erase m.slot ++ (m.ages ++ [m.slot])).Perm (m.order.erase m.slot ++ (m.slot :: m.ages)) := (List.perm_append_comm (l₁ := m.ages) (l₂ := [m.slot])).append_left _
      refine h3.trans (List.perm_middle.trans ?_)
      exact (List.perm_cons_erase h1).symm.append_right m.ages
    have e : (m.take v).ages = m.ages ++ [m.slot] := by simp [ages, take]
    rw [e]
    exact h2.trans h.perm
  · simp [take, h.tl]
  · simp only [take, List.length_append, List.length_singleton]; omega
  · intro s hs
    rw [cnt_take h hl]
    have e : (m.take v).ages = m.ages ++ [m.slot] := by simp [ages, take]
    rw [e, List.mem_append, List.mem_singleton] at hs
    rcases hs with hs | hs
    · have := h.pos s hs; omega
    · rw [if_pos hs]; omega
theorem ages_give (m : SM) (s : Nat) : (m.give s).ages = m.ages.filter fun x => decide (x ≠ s) := by
  simp [ages, give, List.filter_map, Function.comp_def]
theorem erase_eq {l : List Nat} (h : l.Nodup) (s : Nat) : l.erase s = l.filter fun x => decide (x ≠ s) := by
  rw [h.erase_eq_filter]
  congr 1
  funext x
  simp [bne]
  by_cases e : x = s <;> simp [e]
theorem Ok.nodupA (h : m.Ok) : m.ages.Nodup := (List.nodup_append.mp h.nodup).2.1
theorem ages_giveE (h : m.Ok) (s : Nat) : (m.give s).ages = m.ages.erase s := by rw [ages_give, erase_eq h.nodupA]
theorem ok_give (h : m.Ok) {s : Nat} (hs : s ∈ m.ages) : (m.give s).Ok := by
  refine ⟨h.ar, ?_, h.tl, ?_, ?_⟩
  · rw [ages_giveE h]
    show (behind m.rule m.order s ++ m.ages.erase s).Perm _
    refine ((behind_perm _ _ _).append_right _).trans (.trans ?_ h.perm)
    refine (List.perm_middle (a := s) (l₁ := m.order) (l₂ := m.ages.erase s)).symm.trans ?_
    exact (List.perm_cons_erase hs).symm.append_left _
  · exact Nat.le_trans (List.length_filter_le _ _) h.lv
  · intro x hx
    rw [ages_giveE h] at hx
    exact h.pos x (List.mem_of_mem_erase hx)
end SM
/-! ### slot maps: how they stand -/
def hk (l : List (Nat × V)) : List (Key × V) := l.map fun q => ((.inl (q.1 : Int) : Key), q.2)
def flds (m : SM) (lo la lt lh : Addr) : List (Str × V) := [("n", .int m.n), ("limit", .int m.lim), ("generations", .int m.g), ("rule", .str m.rule.s), ("order", .ref lo), ("ages", .ref la), ("taken", .ref lt), ("held", .ref lh)]
structure SlAt (C : Addr) (H : Hp) (p dx lo la lt lh : Addr) (m : SM) : Prop where
  ok : m.Ok
  ins : H p = some (.ins C dx (flds m lo la lt lh))
  o : H lo = some (.lst (iv m.order))
  a : H la = some (.lst (iv m.ages))
  t : H lt = some (.lst (iv m.taken))
  d : H lh = some (.dK (hk m.live))
  oa : lo ≠ la
  ot : lo ≠ lt
  at_ : la ≠ lt
/-- a slot map that stands at p, in the objects F -/
def Sl (C : Addr) (H : Hp) (p : Addr) (m : SM) (F : Addr → Prop) : Prop := ∃ dx lo la lt lh, SlAt C H p dx lo la lt lh m ∧ ∀ b, F b ↔ (b = p ∨ b = lo ∨ b = la ∨ b = lt ∨ b = lh)
theorem SlAt.out {C : Addr} {H H' : Hp} {p dx lo la lt lh : Addr} {m : SM} {F : Addr → Prop} (h : SlAt C H p dx lo la lt lh m) (e : Out F H H') (n1 : ¬ F p) (n2 : ¬ F lo) (n3 : ¬ F la) (n4 : ¬ F lt) (n5 : ¬ F lh) : SlAt C H' p dx lo la lt lh m :=
  ⟨h.ok, e _ _ n1 h.ins (fun _ z => by cases z), e.lst n2 h.o, e.lst n3 h.a, e.lst n4 h.t, e _ _ n5 h.d (fun _ z => by cases z), h.oa, h.ot, h.at_⟩
theorem SlAt.nil {C : Addr} {H H' : Hp} {p dx lo la lt lh : Addr} {m : SM} (h : SlAt C H p dx lo la lt lh m) (e : Out Nil H H') : SlAt C H' p dx lo la lt lh m := h.out e (fun z => z) (fun z => z) (fun z => z) (fun z => z) (fun z => z)
theorem Sl.out {C : Addr} {H H' : Hp} {p : Addr} {m : SM} {F G : Addr → Prop} (h : Sl C H p m F) (e : Out G H H') (n : ∀ b, G b → ¬ F b) : Sl C H' p m F := by
  obtain ⟨dx, lo, la, lt, lh, x, f⟩ := h
  exact ⟨dx, lo, la, lt, lh, x.out e (fun z => n _ z ((f _).mpr (by simp))) (fun z => n _ z ((f _).mpr (by simp))) (fun z => n _ z ((f _).mpr (by simp))) (fun z => n _ z ((f _).mpr (by simp))) (fun z => n _ z ((f _).mpr (by simp))), f⟩
theorem Sl.nil {C : Addr} {H H' : Hp} {p : Addr} {m : SM} {F : Addr → Prop} (h : Sl C H p m F) (e : Out Nil H H') : Sl C H' p m F := h.out e fun _ z => z.elim
theorem Sl.ok {C : Addr} {H : Hp} {p : Addr} {m : SM} {F : Addr → Prop} (h : Sl C H p m F) : m.Ok := by
  obtain ⟨dx, lo, la, lt, lh, x, _⟩ := h
  exact x.ok
/-- what is new is none of its objects; no tuple is -/
theorem Sl.not {C : Addr} {H : Hp} {p b : Addr} {m : SM} {F : Addr → Prop} (h : Sl C H p m F) (n : New H b) : ¬ F b := fun z => by
  obtain ⟨dx, lo, la, lt, lh, x, f⟩ := h
  rcases (f b).mp z with e | e | e | e | e
  · subst e; obtain ⟨_, q⟩ := n _ x.ins; cases q
  · subst e; obtain ⟨_, q⟩ := n _ x.o; cases q
  · subst e; obtain ⟨_, q⟩ := n _ x.a; cases q
  · subst e; obtain ⟨_, q⟩ := n _ x.t; cases q
  · subst e; obtain ⟨_, q⟩ := n _ x.d; cases q
theorem Sl.ntup {C : Addr} {H : Hp} {p b : Addr} {m : SM} {F : Addr → Prop} {xs : List V} (h : Sl C H p m F) (n : H b = some (.tup xs)) : ¬ F b := fun z => by
  obtain ⟨dx, lo, la, lt, lh, x, f⟩ := h
  rcases (f b).mp z with e | e | e | e | e
  · subst e; have := x.ins; rw [n] at this; cases this
  · subst e; have := x.o; rw [n] at this; cases this
  · subst e; have := x.a; rw [n] at this; cases this
  · subst e; have := x.t; rw [n] at this; cases this
  · subst e; have := x.d; rw [n] at this; cases this
theorem SlAt.sl {C : Addr} {H : Hp} {p dx lo la lt lh : Addr} {m : SM} (x : SlAt C H p dx lo la lt lh m) : Sl C H p m fun b => b = p ∨ b = lo ∨ b = la ∨ b = lt ∨ b = lh := ⟨dx, lo, la, lt, lh, x, fun _ => Iff.rfl⟩
theorem New.ne {H : Hp} {a b : Addr} {o : HO} (n : New H b) (h : H a = some o) (t : ∀ ps, o ≠ .tbl ps) : a ≠ b := fun e => by
  subst e
  obtain ⟨ps, q⟩ := n _ h
  exact t ps q
theorem New.nel {H : Hp} {a b : Addr} {xs : List V} (n : New H b) (h : H a = some (.lst xs)) : a ≠ b := n.ne h fun _ z => by cases z
theorem Out.src_new {F : Addr → Prop} {H H' : Hp} {b : Addr} (e : Out F H H') (n : New H' b) : F b ∨ New H b := e.new n
theorem New.back {H H' : Hp} {b : Addr} (n : New H' b) (e : Out Nil H H') : New H b := (e.new n).elim (fun z => z.elim) fun z => z
theorem hk_val {l : List (Nat × V)} (nd : (l.map (·.1)).Nodup) {s : Nat} {v : V} (h : (s, v) ∈ l) : valV (hk l) (.inl (s : Int)) = some v := by
  induction l with
  | nil => cases h
  | cons a r ih =>
    obtain ⟨i, u⟩ := a
    rw [List.map_cons, List.nodup_cons] at nd
    rcases List.mem_cons.mp h with e | e
    · cases e
      exact valV_pos rfl
    · have ne : i ≠ s := fun z => nd.1 (by subst z; exact List.mem_map.mpr ⟨_, e, rfl⟩)
      have ne' : ¬ ((.inl (i : Int) : Key) = .inl (s : Int)) := fun z => by
        have := Sum.inl.inj z
        omega
      exact (valV_neg ne').trans (ih nd.2 e)
theorem hk_drop (l : List (Nat × V)) (s : Nat) : dropK (hk l) (.inl (s : Int)) = hk (l.filter fun q => decide (q.1 ≠ s)) := by
  induction l with
  | nil => rfl
  | cons a r ih =>
    obtain ⟨i, u⟩ := a
    unfold dropK hk at ih ⊢
    rw [List.map_cons, List.filter_cons, List.filter_cons, ih]
    by_cases e : i = s
    · subst e; simp
    · have e' : ¬ ((i : Int) = (s : Int)) := by omega
      simp [e, e']
theorem hk_put {l : List (Nat × V)} {s : Nat} (v : V) (h : s ∉ l.map (·.1)) : putK (hk l) (.inl (s : Int)) v = hk (l ++ [(s, v)]) := by
  unfold putK
  rw [if_neg ?_]
  · simp [hk]
  · intro z
    obtain ⟨q, h1, h2⟩ := List.any_eq_true.mp z
    obtain ⟨x, h3, h4⟩ := List.mem_map.mp h1
    subst h4
    have : (x.1 : Int) = s := Sum.inl.inj (of_decide_eq_true h2)
    exact h (List.mem_map.mpr ⟨x, h3, by omega⟩)
/-! ### x[i] += e on a list -/
def rGetN (K : PySem.W.Frag) : V → V → Hp → VK → Prop := fun o i H Q => ∃ (p : Addr) (xs : List V) (j : Nat) (z : V), o = .ref p ∧ i = .int j ∧ SqL K H p xs ∧ xs[j]? = some z ∧ Q z H
theorem pg_list {X : Cx} {K : PySem.W.Frag} (hK : X.K = K := by rfl) : PGet X (rGetN K) := by
  subst hK
  intro pins s σ H o i ov iv Q I ro ri h
  obtain ⟨p, xs, j, z, rfl, rfl, hq, he, q⟩ := h
  cases ro
  obtain ⟨t, rfl⟩ := ri
  obtain ⟨its, r, pl, hz⟩ := I.list hq
  obtain ⟨w, ew, rw'⟩ := r.get he
  have hj : j < xs.length := (List.getElem?_eq_some_iff.mp he).1
  have hn := line63
  exact wpAny_getItem_list pl.isList (by omega) (by omega) (by rw [Int.toNat_natCast]; simpa using ew) ⟨z, H, I, rw', q⟩

theorem r_augS {D : Ends} {σ : St} {H : Hp} {to ti te : TE} {tget : V → V → Hp → VK → Prop} {tip : TIp} {tset : TSet} (h : to σ H fun o H1 => ti σ H1 fun i H2 => tget o i H2 fun x H3 => te σ H3 fun y H4 => tip x y H4 fun z H5 => tset o i z H5 fun H6 => D.nx σ H6) : tAugS to ti te tget tip tset D σ H := h
theorem sortedK {X : Cx} {K : PySem.W.Frag} (h : X.K = K := by rfl) : CallR X (.builtin "sorted") (rSortedI K) := h ▸ cr_sortedI
theorem cntK {X : Cx} {K : PySem.W.Frag} (h : X.K = K := by rfl) : MtR X "list.count" (rCntI K) := h ▸ mt_lcount
theorem rgV_iv (n : Nat) : rgV 0 (n : Int) = iv (List.range n) := by
  unfold rgV iv ci
  rw [List.map_map]
  have e : ((n : Int) - 0).toNat = n := by omega
  rw [e]
  refine List.map_congr_left fun i _ => ?_
  show V.int (0 + (i : Int)) = V.int (i : Int)
  rw [Int.zero_add]
theorem rep_iv (n : Nat) : List.replicate n (V.int 0) = iv (List.replicate n 0) := by simp [iv, ci]
theorem r_attr {H : Hp} {R : V → Prop} {K : PySem.W.Frag} {p C dx : Addr} {fs : List (Str × V)} {f : Str} {v : V} (h1 : H p = some (.ins C dx fs)) (c : Cls K C) (n : NoAttr K C f) (l : fs.lookup f = some v) (h : R v) :
    ∃ a C dx fs v, V.ref p = .ref a ∧ H a = some (.ins C dx fs) ∧ Cls K C ∧ NoAttr K C f ∧ fs.lookup f = some v ∧ R v := ⟨_, _, _, _, _, rfl, h1, c, n, l, h⟩
theorem r_meth {H : Hp} {C p dx : Addr} {fs : List (Str × V)} {m : Str} {F : Prop} (h1 : H p = some (.ins C dx fs)) (l : fs.lookup m = none) (h : F) : ∃ a dx fs, V.ref p = .ref a ∧ H a = some (.ins C dx fs) ∧ fs.lookup m = none ∧ F := ⟨_, _, _, rfl, h1, l, h⟩
theorem r_tmeth {σ : St} {H : Hp} {Q : VK} {C : Addr} {m : Str} {sp : Sp} {dvs : List V} {E : XK} {ta : TE} {t : TA} (h : ta σ H fun x H1 => ∃ a dx fs, x = .ref a ∧ H1 a = some (.ins C dx fs) ∧ fs.lookup m = none ∧ t σ H1 fun vs H2 => sp (x :: (vs ++ dvs)) H2 Q E) : tMeth C m sp dvs E ta t σ H Q := h
theorem r_tmake {σ : St} {H : Hp} {Q : VK} {C : Addr} {sp : Sp} {dvs : List V} {E : XK} {t : TA} (h : t σ H fun vs H1 => ∀ x dx, H1 x = none → H1 dx = none → dx ≠ x → sp (.ref x :: (vs ++ dvs)) (upd (upd H1 dx (.own x)) x (.ins C dx [])) (fun v H2 => v = .non ∧ Q (.ref x) H2) E) : tMake C sp dvs E t σ H Q := h
theorem r_inc {σ : St} {H : Hp} {p : Addr} {xs : List V} {j : Nat} {z : Int} {K : PySem.W.Frag} {R : Hp → Prop} (h1 : H p = some (.lst xs)) (h2 : xs[j]? = some (.int z)) (h : R (upd H p (.lst (xs.set j (.int (z + 1)))))) :
    rGetN K (.ref p) (.int j) H fun x H3 => tC (.int 1) σ H3 fun y H4 => ipI (fun i j => i + j) x y H4 fun z H5 => rSetL (.ref p) (.int j) z H5 R :=
  ⟨p, xs, j, _, rfl, rfl, SqL.of h1, h2, _, _, rfl, rfl, r_setl h1 (by
    have hj := (List.getElem?_eq_some_iff.mp h2).1
    unfold ixN
    first | (rw [if_pos (by omega : (0 : Int) ≤ (j : Int))]; simp [hj]) | simp [hj] | (split <;> simp_all)) h⟩
theorem atI0 {xs : List V} {v : V} (h : xs[0]? = some v) : atI xs 0 = some v := atI_nat (j := 0) h
theorem atI1 {xs : List V} {v : V} (h : xs[1]? = some v) : atI xs 1 = some v := atI_nat (j := 1) h
theorem rem_j : ∀ {l : List Nat} {s : Nat}, s ∈ l → ∃ j : Nat, l[j]? = some s ∧ (∀ m, m < j → l[m]? ≠ some s) ∧ l.eraseIdx j = l.erase s
  | a :: r, s, h => by
    by_cases e : a = s
    · subst e
      exact ⟨0, rfl, fun m hm => absurd hm (Nat.not_lt_zero m), by simp⟩
    · obtain ⟨j, h1, h2, h3⟩ := rem_j (l := r) (s := s) ((List.mem_cons.mp h).resolve_left fun z => e z.symm)
      refine ⟨j + 1, h1, fun m hm => ?_, ?_⟩
      · cases m with
        | zero => intro z; exact e (Option.some.inj z)
        | succ m => exact h2 m (by omega)
      · rw [List.erase_cons_tail (by simp [e])]
        show a :: r.eraseIdx j = _
        rw [h3]
theorem r_rem {H : Hp} {Q : VK} {p : Addr} {l : List Nat} {s : Nat} (h : H p = some (.lst (iv l))) (hs : s ∈ l) (k : Q .non (upd H p (.lst (iv (l.erase s))))) : rRemI (.ref p) [.int s] H Q := by
  obtain ⟨j, h1, h2, h3⟩ := rem_j hs
  refine ⟨p, ci l, s, j, rfl, rfl, h, ci_get h1, fun m hm z => h2 m hm ?_, ?_⟩
  · unfold ci at z
    rw [List.getElem?_map] at z
    cases e : l[m]? with
    | none => rw [e] at z; cases z
    | some x =>
      rw [e] at z
      have z' : (x : Int) = s := Option.some.inj z
      congr 1; omega
  · have e : (ci l).eraseIdx j = ci (l.erase s) := by rw [← h3]; exact map_eraseIdx _ _ _
    rw [e]; exact k
theorem iv_set (l : List Nat) (i x : Nat) : (iv l).set i (V.int x) = iv (l.set i x) := by simp [iv, ci, List.map_set]
theorem iv_app (l : List Nat) (x : Nat) : iv l ++ [V.int x] = iv (l ++ [x]) := by simp [iv, ci]
theorem r_dput {D : Ends} {σ : St} {H : Hp} {td ty tv : TE} (h : tv σ H fun v H1 => td σ H1 fun x H2 => ty σ H2 fun y H3 => ∃ a H4, x = .ref a ∧ DPut H3 a y v H4 ∧ D.nx σ H4) : sDPut td ty tv D σ H := h
theorem r_dget {σ : St} {H : Hp} {Q : VK} {td ty : TE} (h : td σ H fun x H1 => ty σ H1 fun y H2 => ∃ a v, x = .ref a ∧ DGet H2 a y (some v) ∧ Q v H2) : tDGet td ty σ H Q := h
theorem r_dpop {σ : St} {H : Hp} {Q : VK} {td ty : TE} (h : td σ H fun x H1 => ∃ a, x = .ref a ∧ IsD H1 a ∧ ty σ H1 fun y H2 => ∃ kvs k v, H2 a = some (.dK kvs) ∧ y = kV k ∧ valV kvs k = some v ∧ Q v (upd H2 a (.dK (dropK kvs k)))) : tDPop1 td ty σ H Q := h
theorem ne_kind {H : Hp} {a b : Addr} {o u : HO} (h1 : H a = some o) (h2 : H b = some u) (h : o ≠ u) : a ≠ b := fun e => by subst e; rw [h1] at h2; exact h (Option.some.inj h2)
theorem SlAt.nes {C : Addr} {H : Hp} {p dx lo la lt lh : Addr} {m : SM} (x : SlAt C H p dx lo la lt lh m) : p ≠ lo ∧ p ≠ la ∧ p ≠ lt ∧ p ≠ lh ∧ lo ≠ lh ∧ la ≠ lh ∧ lt ≠ lh :=
  ⟨ne_kind x.ins x.o (fun z => by cases z), ne_kind x.ins x.a (fun z => by cases z), ne_kind x.ins x.t (fun z => by cases z), ne_kind x.ins x.d (fun z => by cases z), ne_kind x.o x.d (fun z => by cases z), ne_kind x.a x.d (fun z => by cases z), ne_kind x.t x.d (fun z => by cases z)⟩
theorem r_yes {σ : St} {H : Hp} {QB : Bool → Hp → Prop} (h : QB true H) : tYes σ H QB := h
theorem r_sfld {D : Ends} {σ : St} {H : Hp} {K : PySem.W.Frag} {ta tv : TE} {f : Str} (h : tv σ H fun y H1 => ta σ H1 fun x H2 => ∃ a C dx fs, x = .ref a ∧ H2 a = some (.ins C dx fs) ∧ Cls K C ∧ NoAttr K C f ∧ fs.length < 1000 ∧ D.nx σ (upd H2 a (.ins C dx (putF f y fs)))) : sFld K ta tv f D σ H := h
theorem putF_lt {fs : List (Str × V)} {f : Str} {y : V} {k : Nat} (h : fs.length < k) : (putF f y fs).length < k + 1 := by
  induction fs generalizing k with
  | nil => show 1 < k + 1; simp at h; omega
  | cons a r ih =>
    obtain ⟨g, x⟩ := a
    show (if g = f then (g, y) :: r else (g, x) :: putF f y r).length < k + 1
    split
    · simp at h ⊢; omega
    · have := ih (k := k - 1) (by simp at h; omega)
      simp at h ⊢; omega
theorem r_sf {H : Hp} {K : PySem.W.Frag} {p C dx : Addr} {fs : List (Str × V)} {f : Str} {y : V} {R : Hp → Prop} (h1 : H p = some (.ins C dx fs)) (c : Cls K C) (n : NoAttr K C f) (l : fs.length < 1000) (h : R (upd H p (.ins C dx (putF f y fs)))) :
    ∃ a C dx fs, V.ref p = .ref a ∧ H a = some (.ins C dx fs) ∧ Cls K C ∧ NoAttr K C f ∧ fs.length < 1000 ∧ R (upd H a (.ins C dx (putF f y fs))) := ⟨_, _, _, _, rfl, h1, c, n, l, h⟩
/-- a list of pairs of ints -/
def Prs (H : Hp) (xs : List V) (ps : List (Int × Int)) : Prop := xs.length = ps.length ∧ ∀ (i : Nat) (p : Int × Int), ps[i]? = some p → ∃ a, xs[i]? = some (.ref a) ∧ H a = some (.tup [.int p.1, .int p.2])
theorem Prs.out {F : Addr → Prop} {H H' : Hp} {xs : List V} {ps : List (Int × Int)} (h : Prs H xs ps) (e : Out F H H') (n : ∀ a ys, H a = some (.tup ys) → ¬ F a) : Prs H' xs ps := ⟨h.1, fun i p q => by
  obtain ⟨a, h1, h2⟩ := h.2 i p q
  exact ⟨a, h1, e.tup (n _ _ h2) h2⟩⟩
theorem Prs.at {H : Hp} {xs : List V} {ps : List (Int × Int)} (h : Prs H xs ps) {i : Nat} {x : V} (e : xs[i]? = some x) : ∃ a p, x = .ref a ∧ ps[i]? = some p ∧ H a = some (.tup [.int p.1, .int p.2]) := by
  have hi : i < ps.length := by rw [← h.1]; exact (List.getElem?_eq_some_iff.mp e).1
  obtain ⟨a, h1, h2⟩ := h.2 i _ (List.getElem?_eq_getElem hi)
  rw [h1] at e
  exact ⟨a, _, (Option.some.inj e).symm, List.getElem?_eq_getElem hi, h2⟩
theorem Prs.snoc {H : Hp} {xs : List V} {ps : List (Int × Int)} (h : Prs H xs ps) {a : Addr} {p : Int × Int} (e : H a = some (.tup [.int p.1, .int p.2])) : Prs H (xs ++ [.ref a]) (ps ++ [p]) := by
  refine ⟨by simp [h.1], fun i q hq => ?_⟩
  by_cases hi : i < ps.length
  · rw [List.getElem?_append_left hi] at hq
    obtain ⟨b, h1, h2⟩ := h.2 i q hq
    exact ⟨b, by rw [List.getElem?_append_left (by rw [h.1]; exact hi)]; exact h1, h2⟩
  · have hi2 : i = ps.length := by
      have := (List.getElem?_eq_some_iff.mp hq).1
      simp at this
      omega
    subst hi2
    rw [List.getElem?_append_right (Nat.le_refl _)] at hq
    simp at hq
    subst hq
    exact ⟨a, by rw [← h.1, List.getElem?_append_right (Nat.le_refl _)]; simp, e⟩
def SM.liveH (m : SM) : List (Int × Int) := m.ages.map fun (s : Nat) => ((s : Int), m.gen s)
def SM.has (m : SM) (a b : Int) : Bool := decide (a ∈ ci m.ages) && decide (b = m.gen a.toNat)
local macro_rules | `(tactic| walk_at "rd1") => `(tactic| first
  | ((with_reducible show ∃ (a : Addr) (C : Addr) (dx : Addr) (fs : List (Str × V)) (v : V), V.ref _ = V.ref a ∧ _); refine r_attr (by walk_at "hp") (by assumption) (by assumption) (by rfl) ?_)
  | ((with_reducible show ∃ (a : Addr) (dx : Addr) (fs : List (Str × V)), V.ref _ = V.ref a ∧ _); refine r_meth (by walk_at "hp") (by rfl) ?_)
  | (with_reducible refine r_augS ?_) | (with_reducible refine r_sfld ?_) | (with_reducible refine r_tmeth ?_) | (with_reducible refine r_tmake ?_) | (with_reducible refine r_yes ?_) | (with_reducible refine r_dput ?_) | (with_reducible refine r_dget ?_) | (with_reducible refine r_dpop ?_)
  | ((with_reducible show ∃ (a : Addr) (C : Addr) (dx : Addr) (fs : List (Str × V)), V.ref _ = V.ref a ∧ _); refine r_sf (by walk_at "hp") (by assumption) (by assumption) (Nat.lt_of_lt_of_le (by repeat' first | apply putF_lt | exact Nat.lt_succ_self _) (Nat.le_of_ble_eq_true rfl)) ?_))

/-! ### a slot map among a law's own lists X -/
structure Wd (C : Addr) (Tb : List (Addr × Str)) (H1 H : Hp) (X : Addr → Prop) (sl : Addr) (m : SM) (F : Addr → Prop) : Prop where
  s : Sl C H sl m F
  tb : LamX.Tabs Tb H
  o : Out X H1 H
  f : ∀ b, F b → New H1 b ∧ ¬ X b
  x : ∀ b, X b → ∃ xs, H b = some (.lst xs)
section
variable {C sl : Addr} {Tb : List (Addr × Str)} {H1 H H' : Hp} {X F F' : Addr → Prop} {m : SM}
theorem Wd.read (w : Wd C Tb H1 H X sl m F) (o : Out Nil H H') (t : LamX.Tabs Tb H') : Wd C Tb H1 H' X sl m F :=
  ⟨w.s.nil o, t, w.o.nil o, w.f, fun b hb => by obtain ⟨xs, e⟩ := w.x b hb; exact ⟨xs, o.lst (fun z => z) e⟩⟩
theorem Wd.put (w : Wd C Tb H1 H X sl m F) {b : Addr} {ys : List V} (hb : X b) : Wd C Tb H1 (upd H b (.lst ys)) X sl m F := by
  obtain ⟨xs, e⟩ := w.x b hb
  refine ⟨w.s.out (G := X) ((Out.refl H).upd (.inl hb)) fun c z y => (w.f c y).2 z, tabs_put w.tb e trivial, w.o.upd (.inl hb), w.f, fun c hc => ?_⟩
  by_cases z : c = b
  · subst z; exact ⟨_, upd_same⟩
  · rw [upd_ne z]; exact w.x c hc
theorem Wd.draw (w : Wd C Tb H1 H X sl m F) {p : Addr} (hp : X p) (o : Off p H H') (s : Src H' p) : Wd C Tb H1 H' X sl m F := by
  obtain ⟨xs, e⟩ := w.x p hp
  refine ⟨w.s.out (G := fun b => b = p) (.kp o.kp) fun c z y => (w.f c y).2 (by subst z; exact hp), tabs_keep w.tb fun b u q n => ?_, w.o.trans (.kp o.kp) fun c z => .inl (by subst z; exact hp), w.f, fun c hc => ?_⟩
  · rw [o b (fun z => by subst z; rw [e] at q; cases q; exact n trivial)]; exact q
  · by_cases z : c = p
    · subst z; obtain ⟨_, _, _, h⟩ := s; exact ⟨_, h⟩
    · rw [o c z]; exact w.x c hc
theorem Wd.nx (w : Wd C Tb H1 H X sl m F) {b : Addr} (hb : X b) : ¬ F b := fun z => (w.f b z).2 hb
theorem Wd.deed (w : Wd C Tb H1 H X sl m F) {m' : SM} (S : Sl C H' sl m' F') (g : ∀ b, F' b → F b ∨ New H b) (o : Out F H H') (t : LamX.Tabs Tb H') : Wd C Tb H1 H' X sl m' F' := by
  have nX : ∀ b, New H b → ¬ X b := fun b n hb => by
    obtain ⟨xs, e⟩ := w.x b hb
    obtain ⟨_, q⟩ := n _ e
    cases q
  refine ⟨S, t, w.o.trans o fun c z => .inr (w.f c z).1, fun b hb => ?_, fun b hb => ?_⟩
  · rcases g b hb with z | z
    · exact w.f b z
    · exact ⟨(w.o.new z).resolve_left (nX b z), nX b z⟩
  · obtain ⟨xs, e⟩ := w.x b hb
    exact ⟨xs, o.lst (w.nx hb) e⟩
theorem Wd.src (w : Wd C Tb H1 H X sl m F) {p : Addr} (hp : X p) (h : Src H p) (o : Out F H H') : Src H' p := o.src (w.nx hp) h
theorem Prs.deed {xs : List V} {ps : List (Int × Int)} (h : Prs H xs ps) (w : Wd C Tb H1 H X sl m F) (o : Out F H H') : Prs H' xs ps := h.out o fun _ _ e => w.s.ntup e
theorem Prs.read {xs : List V} {ps : List (Int × Int)} (h : Prs H xs ps) (o : Out Nil H H') : Prs H' xs ps := h.out o fun _ _ _ z => z
theorem Prs.put {xs ys : List V} {ps : List (Int × Int)} {b : Addr} (h : Prs H xs ps) {zs : List V} (hb : H b = some (.lst zs)) : Prs (upd H b (.lst ys)) xs ps := h.out (F := fun c => c = b) ((Out.refl H).upd (.inl rfl)) fun a zs' e z => by
  subst z; rw [hb] at e; cases e
theorem Prs.kp {xs : List V} {ps : List (Int × Int)} {p : Addr} (h : Prs H xs ps) (o : Off p H H') (s : Src H p) : Prs H' xs ps := h.out (F := fun c => c = p) (.kp o.kp) fun a zs' e z => by
  subst z; obtain ⟨_, _, _, q⟩ := s; rw [q] at e; cases e
end
section
variable {K : PySem.W.Frag} {σ : St} {H : Hp} {Q : VK} {g : TG} {tt : TT} {te : TE} {vs : List Nat}
theorem filtP_more {ps : List (Int × Int)} {i : Nat} {p : Int × Int} (f : Int × Int → Bool) (v : Int × Int → V) (h : ps[i]? = some p) : ((ps.take (i + 1)).filter f).map v = if f p then ((ps.take i).filter f).map v ++ [v p] else ((ps.take i).filter f).map v := by
  rw [List.take_succ, h, List.filter_append, List.map_append]
  by_cases c : f p = true <;> simp [c]
/-- a comprehension over a list of pairs that changes nothing -/
theorem lc_pureP {a : Addr} {xs : List V} {ps : List (Int × Int)} (f : Int × Int → Bool) (v : Int × Int → V) (hx : SqL K H a xs) (hp : Prs H xs ps) (hn : ps.length ≤ 1000000)
    (hs : ∀ D acc (i : Nat) t p (N : Hp → Prop), H D = none → ps[i]? = some p → upd H D (.lst acc) t = some (.tup [.int p.1, .int p.2]) → acc.length < sizeLine → (f p = true → N (upd H D (.lst (acc ++ [v p])))) → (f p = false → N (upd H D (.lst acc))) →
      g (.ref t) (wipe σ vs) (upd H D (.lst acc)) fun σ2 H2 => wipe σ2 vs = wipe σ vs ∧ tt σ2 H2 fun b H3 => if b = true then te σ2 H3 fun y H4 => ∃ a, H4 D = some (.lst a) ∧ a.length < sizeLine ∧ N (upd H4 D (.lst (a ++ [y]))) else N H3)
    (hd : ∀ D, H D = none → Q (.ref D) (upd H D (.lst ((ps.filter f).map v)))) : LcLoop (Itl K a) g tt te vs σ H Q := by
  intro D hD
  refine lc_list (K := K) (a := a) (xs := xs) (fun i H' => H' = upd H D (.lst (((ps.take i).filter f).map v))) rfl (fun i H' _ e => ?_) (fun i x H' hi e => ?_) (fun H' e => ?_)
  · subst e
    exact Same.seq (Same.upd (Same.refl H) hD) hx
  · subst e
    obtain ⟨t, p, rfl, hpi, ht⟩ := hp.at hi
    refine hs D _ i t p _ hD hpi (by rw [upd_ne (ne_of_none ht hD)]; exact ht) ?_ (fun h => ?_) (fun h => ?_)
    · have h1 := List.length_filter_le f (ps.take i)
      rw [List.length_map]
      rw [List.length_take] at h1
      exact Nat.lt_of_le_of_lt (Nat.le_trans h1 (Nat.le_trans (Nat.min_le_right _ _) hn)) (by decide)
    · rw [filtP_more f v hpi, if_pos h]
    · rw [filtP_more f v hpi, if_neg (by rw [h]; exact Bool.false_ne_true)]
  · subst e
    rw [hp.1, List.take_length]
    exact hd D hD
end
theorem sorted_range {n : Nat} {ms : List Int} (hp : ms.Perm (ci (List.range n))) (hs : ms.Pairwise (· ≤ ·)) : ms = ci (List.range n) := by
  refine List.Perm.eq_of_pairwise (le := fun a b : Int => decide (a ≤ b)) (fun a b _ _ h1 h2 => ?_) (hs.imp (by simp)) ?_ hp
  · simp only [decide_eq_true_eq] at h1 h2; omega
  · exact List.Pairwise.map _ (fun a b h => by simp; omega) (List.pairwise_lt_range (n := n))
theorem r_par3 {D : Ends} {σ : St} {H : Hp} {tA : TA} {i j l : Nat} (h : tA σ H fun vs H1 => ∃ u v w, vs = [u, v, w] ∧ D.nx (((σ.set i (some u)).set j (some v)).set l (some w)) H1) : tPar3 i j l tA D σ H := h
theorem r_par33 {x y z : V} {R : V → V → V → Prop} (h : R x y z) : ∃ u v w, [x, y, z] = [u, v, w] ∧ R u v w := ⟨_, _, _, rfl, h⟩
theorem r_lenO {C : Addr} {E : XK} {H : Hp} {Q : VK} {p : Addr} {m : SM} {F : Addr → Prop} (S : Sl C H p m F) (h : Q (.int (m.live.length : Int)) H) : rLenOwn C (fun vs H Q _ => ∃ (p : Addr) (m : SM) (F : Addr → Prop), vs = [.ref p] ∧ Sl C H p m F ∧ Q (.int (m.live.length : Int)) H) E [.ref p] H Q := by
  obtain ⟨dx, lo, la, lt, lh, x, f⟩ := id S
  have h1 := x.ok.len
  have h2 := x.ok.n64
  exact ⟨p, dx, _, rfl, x.ins, p, m, F, rfl, S, _, rfl, by omega, by omega, h⟩
theorem r_lstRg1 {σ : St} {H : Hp} {Q : VK} {ta : TE} (h : ta σ H fun x H1 => ∃ n, x = .int n ∧ RgOk 0 n ∧ ∀ q, H1 q = none → Q (.ref q) (upd H1 q (.lst (rgV 0 n)))) : tLstRg (tRg1 ta) σ H Q := h
theorem Out.ins {F : Addr → Prop} {H H' : Hp} {a C dx : Addr} {fs : List (Str × V)} (e : Out F H H') (n : ¬ F a) (h : H a = some (.ins C dx fs)) : H' a = some (.ins C dx fs) := e _ _ n h fun _ z => by cases z
local macro_rules | `(tactic| walk_at "rd1") => `(tactic| first | (with_reducible refine r_lstRg1 ?_) | (with_reducible refine r_par3 ?_) | (with_reducible refine r_par33 ?_))

/-! ### x in xs, items pairs of ints -/
theorem hu65 {A : Around} {k : Nat} (hr : Room k A) : A.units + 65 < cLine := by have := hr.un; omega
theorem inDK {X : Cx} {K : PySem.W.Frag} (hu : X.A.units + 65 < cLine) (h : X.K = K := by rfl) : OpR X (compareOp .In) (rInD K) := h ▸ op_inD hu
def pd (p : Int × Int) : PyData := .tuple [.int p.1, .int p.2]
theorem eqv_pd (p q : Int × Int) : PyData.eqv (pd p) (pd q) = decide (p = q) := by
  obtain ⟨a, b⟩ := p
  obtain ⟨c, d⟩ := q
  show (PyData.eqv (.int a) (.int c) && (PyData.eqv (.int b) (.int d) && true)) = _
  show ((a == c) && ((b == d) && true)) = _
  by_cases h1 : a = c <;> by_cases h2 : b = d <;> simp [h1, h2]
theorem any_pd (ps : List (Int × Int)) (p : Int × Int) : ((ps.map pd).any fun z => PyData.eqv z (pd p)) = decide (p ∈ ps) := by
  induction ps with
  | nil => simp
  | cons a r ih =>
    rw [List.map_cons, List.any_cons, ih, eqv_pd]
    by_cases h : a = p
    · subst h; simp
    · have h' : ¬ p = a := fun e => h e.symm
      simp [h, h']
theorem shaped_pd (p : Int × Int) : SeqAt.shaped (pd p) = true := rfl
theorem lay_pds : ∀ ps : List (Int × Int), PyData.canLayAll0 (ps.map pd) = true
  | [] => rfl
  | a :: r => by
    have ih := lay_pds r
    simp [PyData.canLayAll0, PyData.canLay0, pd, ih]
theorem depth_pds : ∀ ps : List (Int × Int), PyData.depthAll (ps.map pd) ≤ 1
  | [] => Nat.zero_le _
  | a :: r => by
    have ih := depth_pds r
    simp [PyData.depthAll, PyData.depth, pd]
    omega
theorem shaped_pds (ps : List (Int × Int)) : SeqAt.shaped (.list (ps.map pd)) = true := by
  have h1 := lay_pds ps
  have h2 := depth_pds ps
  simp [SeqAt.shaped, PyData.canLay0, PyData.depth, h1]
  omega
theorem dp_pair {K : PySem.W.Frag} {H : Hp} {t : Addr} {p : Int × Int} (h : H t = some (.tup [.int p.1, .int p.2])) : Dp K H (.ref t) (pd p) := .tup (SqT.of h) (.cons (.int _) (.cons (.int _) .nil))
theorem dp_pairs {K : PySem.W.Frag} {H : Hp} : ∀ {xs : List V} {ps : List (Int × Int)}, Prs H xs ps → DpAll K H xs (ps.map pd)
  | [], [], _ => .nil
  | [], _ :: _, h => by cases h.1
  | _ :: _, [], h => by cases h.1
  | x :: xs, p :: ps, h => by
    obtain ⟨a, h1, h2⟩ := h.2 0 p rfl
    obtain rfl : x = .ref a := Option.some.inj h1
    exact .cons (dp_pair h2) (dp_pairs ⟨Nat.succ.inj h.1, fun i q hq => h.2 (i + 1) q hq⟩)
theorem r_inP {K : PySem.W.Frag} {H : Hp} {Q : VK} {t l : Addr} {p : Int × Int} {xs : List V} {ps : List (Int × Int)} (h1 : H t = some (.tup [.int p.1, .int p.2])) (h2 : SqL K H l xs) (h3 : Prs H xs ps) (h : Q (.bl (decide (p ∈ ps))) H) : rInD K (.ref t) (.ref l) H Q :=
  ⟨pd p, ps.map pd, dp_pair h1, .lst h2 (dp_pairs h3), shaped_pd p, shaped_pds ps, by rw [any_pd]; exact h⟩
theorem fnIn_of {K : PySem.W.Frag} {x qual : Str} {st : Stmt} {f : Addr} {fd : FuncData} (F : Fun K x qual st f fd) : PySem.W.fnIn K f = true := by
  obtain ⟨oc, od, kV, doc, pm, an, cdv, ct, osl, rfl, lk, hcd⟩ := F.ex
  unfold PySem.W.fnIn
  rw [lk]

/-! ### Sep: the heap as a list of things that stand apart -/
mutual
inductive Dr (H : Hp) (Φ : Addr → Prop) : V → PyData → Prop
  | non : Dr H Φ .non .none
  | bl (b : Bool) : Dr H Φ (.bl b) (.bool b)
  | int (i : Int) : Dr H Φ (.int i) (.int i)
  | str (x : Str) : Dr H Φ (.str x) (.str x)
  | lst {a : Addr} {xs : List V} {ds : List PyData} : H a = some (.lst xs) → Φ a → DrAll H Φ xs ds → Dr H Φ (.ref a) (.list ds)
  | tup {a : Addr} {xs : List V} {ds : List PyData} : H a = some (.tup xs) → Φ a → DrAll H Φ xs ds → Dr H Φ (.ref a) (.tuple ds)
inductive DrAll (H : Hp) (Φ : Addr → Prop) : List V → List PyData → Prop
  | nil : DrAll H Φ [] []
  | cons {v : V} {vs : List V} {d : PyData} {ds : List PyData} : Dr H Φ v d → DrAll H Φ vs ds → DrAll H Φ (v :: vs) (d :: ds)
end
mutual
theorem Dr.keep {H H' : Hp} {Φ Φ' : Addr → Prop} (k : ∀ a o, Φ a → H a = some o → H' a = some o) (l : ∀ a, Φ a → Φ' a) : ∀ {v : V} {d : PyData}, Dr H Φ v d → Dr H' Φ' v d
  | _, _, .non => .non
  | _, _, .bl b => .bl b
  | _, _, .int i => .int i
  | _, _, .str x => .str x
  | _, _, .lst h1 h2 h3 => .lst (k _ _ h2 h1) (l _ h2) (DrAll.keep k l h3)
  | _, _, .tup h1 h2 h3 => .tup (k _ _ h2 h1) (l _ h2) (DrAll.keep k l h3)
theorem DrAll.keep {H H' : Hp} {Φ Φ' : Addr → Prop} (k : ∀ a o, Φ a → H a = some o → H' a = some o) (l : ∀ a, Φ a → Φ' a) : ∀ {v : List V} {d : List PyData}, DrAll H Φ v d → DrAll H' Φ' v d
  | _, _, .nil => .nil
  | _, _, .cons h1 h2 => .cons (Dr.keep k l h1) (DrAll.keep k l h2)
end
mutual
theorem Dr.dp {K : PySem.W.Frag} {H : Hp} {Φ : Addr → Prop} : ∀ {v : V} {d : PyData}, Dr H Φ v d → Dp K H v d
  | _, _, .non => .non
  | _, _, .bl b => .bl b
  | _, _, .int i => .int i
  | _, _, .str x => .str x
  | _, _, .lst h1 _ h3 => .lst (SqL.of h1) (DrAll.dp h3)
  | _, _, .tup h1 _ h3 => .tup (SqT.of h1) (DrAll.dp h3)
theorem DrAll.dp {K : PySem.W.Frag} {H : Hp} {Φ : Addr → Prop} : ∀ {v : List V} {d : List PyData}, DrAll H Φ v d → DpAll K H v d
  | _, _, .nil => .nil
  | _, _, .cons h1 h2 => .cons (Dr.dp h1) (DrAll.dp h2)
end
theorem DrAll.at {H : Hp} {Φ : Addr → Prop} : ∀ {vs : List V} {ds : List PyData} {i : Nat} {v : V} {d : PyData}, DrAll H Φ vs ds → vs[i]? = some v → ds[i]? = some d → Dr H Φ v d
  | _, _, _, _, _, .nil, h, _ => by simp at h
  | _, _, 0, _, _, .cons h1 _, h, g => by simp at h g; subst h g; exact h1
  | _, _, i + 1, _, _, .cons _ h2, h, g => h2.at (i := i) (by simpa using h) (by simpa using g)
theorem DrAll.len {H : Hp} {Φ : Addr → Prop} : ∀ {vs : List V} {ds : List PyData}, DrAll H Φ vs ds → vs.length = ds.length
  | _, _, .nil => rfl
  | _, _, .cons _ h2 => by simp [h2.len]
theorem DrAll.app {H : Hp} {Φ : Addr → Prop} : ∀ {vs : List V} {ds : List PyData} {us : List V} {es : List PyData}, DrAll H Φ vs ds → DrAll H Φ us es → DrAll H Φ (vs ++ us) (ds ++ es)
  | _, _, _, _, .nil, h => h
  | _, _, _, _, .cons h1 h2, h => .cons h1 (h2.app h)
theorem DrAll.ints {H : Hp} {Φ : Addr → Prop} : ∀ ns : List Int, DrAll H Φ (ns.map V.int) (ns.map PyData.int)
  | [] => .nil
  | i :: r => .cons (.int i) (DrAll.ints r)
theorem DrAll.split {H : Hp} {Φ : Addr → Prop} : ∀ {xs ys : List V} {ds : List PyData}, DrAll H Φ (xs ++ ys) ds → ∃ d1 d2, ds = d1 ++ d2 ∧ DrAll H Φ xs d1 ∧ DrAll H Φ ys d2
  | [], _, ds, h => ⟨[], ds, rfl, .nil, h⟩
  | x :: xs, ys, _, .cons h1 h2 => by
    obtain ⟨d1, d2, e, a, b⟩ := DrAll.split h2
    exact ⟨_ :: d1, d2, by rw [e]; rfl, .cons h1 a, b⟩
inductive R where
  | cell (p : Addr) (o : HO)
  | sl (p : Addr) (m : SM)
  | src (s : Addr)
  | ro (a : Addr) (xs : List V)
  | tup (p : Addr) (xs : List V)
  | dat (v : V) (d : PyData)
  | dats (vs : List V) (ds : List PyData)
def None_ (F : Addr → Prop) : Prop := ∀ a, ¬ F a
def R.at (C : Addr) (K : PySem.W.Frag) (H : Hp) (Φ F : Addr → Prop) : R → Prop
  | .cell p o => H p = some o ∧ Plain o ∧ ∀ a, F a ↔ a = p
  | .sl p m => Sl C H p m F
  | .src s => Src H s ∧ ∀ a, F a ↔ a = s
  | .ro a xs => (Rd H a (.lst xs) ∧ ∀ b, F b ↔ b = a) ∨ ((∀ H, SqL K H a xs) ∧ ∀ b, ¬ F b)
  | .tup p xs => H p = some (.tup xs) ∧ Φ p ∧ ∀ b, ¬ F b
  | .dat v d => Dr H Φ v d ∧ ∀ b, ¬ F b
  | .dats vs ds => DrAll H Φ vs ds ∧ ∀ b, ¬ F b
def Pl (H : Hp) (a : Addr) : Prop := ∃ o, H a = some o ∧ Plain o
theorem Pl.old {H : Hp} {a : Addr} (h : Pl H a) (n : New H a) : False := by
  obtain ⟨o, h1, h2⟩ := h
  obtain ⟨ps, rfl⟩ := n o h1
  exact h2
theorem Pl.nt {o : HO} (h : Plain o) : ∀ ps, o ≠ HO.tbl ps := fun ps e => by subst e; exact h
theorem R.keep {C : Addr} {K : PySem.W.Frag} {H H' : Hp} {Φ Φ' F : Addr → Prop} {r : R} (h : r.at C K H Φ F) (k1 : ∀ a o, F a → H a = some o → H' a = some o) (k2 : ∀ a o, Φ a → H a = some o → H' a = some o) (l : ∀ a, Φ a → Φ' a) : r.at C K H' Φ' F := by
  cases r with
  | cell p o => exact ⟨k1 _ _ ((h.2.2 p).mpr rfl) h.1, h.2⟩
  | sl p m => exact Sl.out (G := fun b => ¬ F b) h (fun b o n e _ => k1 b o (Classical.not_not.mp n) e) fun b n => n
  | src s =>
    obtain ⟨⟨a, b, c, e⟩, f⟩ := h
    exact ⟨⟨a, b, c, k1 _ _ ((f s).mpr rfl) e⟩, f⟩
  | ro a xs =>
    rcases h with ⟨h, f⟩ | h
    · refine .inl ⟨?_, f⟩
      rcases h with h | ⟨o, h⟩
      · exact .inl (k1 _ _ ((f a).mpr rfl) h)
      · exact .inr ⟨o, k1 _ _ ((f a).mpr rfl) h⟩
    · exact .inr h
  | tup p xs => exact ⟨k2 _ _ h.2.1 h.1, l _ h.2.1, h.2.2⟩
  | dat v d => exact ⟨h.1.keep k2 l, h.2⟩
  | dats v d => exact ⟨h.1.keep k2 l, h.2⟩
theorem R.dom {C : Addr} {K : PySem.W.Frag} {H : Hp} {Φ F : Addr → Prop} {r : R} (h : r.at C K H Φ F) {a : Addr} (f : F a) : Pl H a := by
  cases r with
  | cell p o => rw [(h.2.2 a).mp f]; exact ⟨o, h.1, h.2.1⟩
  | sl p m =>
    obtain ⟨dx, lo, la, lt, lh, x, g⟩ := h
    rcases (g a).mp f with e | e | e | e | e
    · subst e; exact ⟨_, x.ins, trivial⟩
    · subst e; exact ⟨_, x.o, trivial⟩
    · subst e; exact ⟨_, x.a, trivial⟩
    · subst e; exact ⟨_, x.t, trivial⟩
    · subst e; exact ⟨_, x.d, trivial⟩
  | src s =>
    obtain ⟨⟨_, _, _, e⟩, g⟩ := h
    rw [(g a).mp f]; exact ⟨_, e, trivial⟩
  | ro b xs =>
    rcases h with ⟨h, g⟩ | h
    · rw [(g a).mp f]
      rcases h with h | ⟨o, h⟩
      · exact ⟨_, h, trivial⟩
      · exact ⟨_, h, trivial⟩
    · exact absurd f (h.2 a)
  | tup p xs => exact absurd f (h.2.2 a)
  | dat v d => exact absurd f (h.2 a)
  | dats v d => exact absurd f (h.2 a)
def SepF (C : Addr) (K : PySem.W.Frag) (H : Hp) (Φ : Addr → Prop) : List R → (Addr → Prop) → Prop
  | [], _ => True
  | r :: L, U => ∃ F, r.at C K H Φ F ∧ (∀ a, F a → U a) ∧ SepF C K H Φ L fun a => U a ∧ ¬ F a
inductive Pick : R → List R → List R → Prop
  | here {r : R} {L : List R} : Pick r (r :: L) L
  | there {r x : R} {L L' : List R} : Pick r L L' → Pick r (x :: L) (x :: L')
theorem Pick.mem {r : R} {L L' : List R} (h : Pick r L L') : r ∈ L := by
  induction h with
  | here => exact List.mem_cons_self
  | there _ ih => exact List.mem_cons_of_mem _ ih
inductive Fit : List R → List R → Prop
  | refl {L : List R} : Fit L L
  | nil {L : List R} : Fit [] L
  | pick {r : R} {L L1 rs : List R} : Pick r L L1 → Fit rs L1 → Fit (r :: rs) L
  | drop {x : R} {L rs : List R} : Fit rs L → Fit rs (x :: L)
section
variable {C : Addr} {K : PySem.W.Frag} {Tb : List (Addr × Str)} {H H' : Hp} {Φ Φ' U U' : Addr → Prop} {L L' L1 rs : List R} {r : R}
theorem SepF.mono : ∀ {L : List R} {U U' : Addr → Prop}, SepF C K H Φ L U → (∀ a, U a → U' a) → SepF C K H Φ L U'
  | [], _, _, _, _ => trivial
  | r :: L, U, U', ⟨F, h1, h2, h3⟩, m => ⟨F, h1, fun a f => m a (h2 a f), SepF.mono h3 fun a ⟨u, f⟩ => ⟨m a u, f⟩⟩
theorem SepF.dom : ∀ {L : List R} {U : Addr → Prop}, SepF C K H Φ L U → SepF C K H Φ L fun a => U a ∧ Pl H a
  | [], _, _ => trivial
  | r :: L, U, ⟨F, h1, h2, h3⟩ => ⟨F, h1, fun a f => ⟨h2 a f, R.dom (r := r) h1 f⟩, h3.dom.mono fun a ⟨⟨u, f⟩, p⟩ => ⟨⟨u, p⟩, f⟩⟩
theorem SepF.keep (k2 : ∀ a o, Φ a → H a = some o → H' a = some o) (l : ∀ a, Φ a → Φ' a) : ∀ {L : List R} {U : Addr → Prop}, SepF C K H Φ L U → (∀ a o, U a → H a = some o → H' a = some o) → SepF C K H' Φ' L U
  | [], _, _, _ => trivial
  | r :: L, U, ⟨F, h1, h2, h3⟩, k => ⟨F, R.keep (r := r) h1 (fun a o f => k a o (h2 a f)) k2 l, h2, SepF.keep k2 l h3 fun a o u => k a o u.1⟩
theorem SepF.pick (p : Pick r L L') : ∀ {U : Addr → Prop}, SepF C K H Φ L U → SepF C K H Φ (r :: L') U := by
  induction p with
  | here => exact fun h => h
  | there _ ih =>
    rename_i r x L L'
    rintro U ⟨F, h1, h2, h3⟩
    obtain ⟨G, g1, g2, g3⟩ := ih h3
    exact ⟨G, g1, fun a g => (g2 a g).1, F, h1, fun a f => ⟨h2 a f, fun g => (g2 a g).2 f⟩, g3.mono fun a ⟨⟨u, f⟩, g⟩ => ⟨⟨u, g⟩, f⟩⟩
theorem SepF.fit (p : Fit rs L) : ∀ {U : Addr → Prop}, SepF C K H Φ L U → SepF C K H Φ rs U := by
  induction p with
  | refl => exact fun h => h
  | nil => exact fun _ => trivial
  | pick p _ ih =>
    intro U h
    obtain ⟨F, h1, h2, h3⟩ := h.pick p
    exact ⟨F, h1, h2, ih h3⟩
  | drop _ ih =>
    rintro U ⟨F, h1, h2, h3⟩
    exact ih (h3.mono fun a u => u.1)
theorem SepF.app : ∀ {rs : List R} {U1 U2 U : Addr → Prop}, SepF C K H Φ rs U1 → SepF C K H Φ L U2 → (∀ a, U1 a → U a) → (∀ a, U2 a → U a) → (∀ a, U1 a → U2 a → False) → SepF C K H Φ (rs ++ L) U
  | [], _, _, _, _, h, _, m, _ => h.mono m
  | r :: rs, U1, U2, U, ⟨F, h1, h2, h3⟩, h, m1, m2, d => ⟨F, h1, fun a f => m1 a (h2 a f), SepF.app h3 h (fun a u => ⟨m1 a u.1, u.2⟩) (fun a u => ⟨m2 a u, fun f => d a (h2 a f) u⟩) fun a u v => d a u.1 v⟩
theorem SepF.at (h : SepF C K H Φ L U) (m : r ∈ L) : ∃ F, r.at C K H Φ F ∧ ∀ a, F a → U a := by
  induction L generalizing U with
  | nil => cases m
  | cons x L ih =>
    obtain ⟨F, h1, h2, h3⟩ := h
    rcases List.mem_cons.mp m with e | e
    · subst e; exact ⟨F, h1, h2⟩
    · obtain ⟨G, g1, g2⟩ := ih h3 e
      exact ⟨G, g1, fun a g => (g2 a g).1⟩
structure Sep (C : Addr) (K : PySem.W.Frag) (Tb : List (Addr × Str)) (H : Hp) (L : List R) : Prop where
  ex : ∃ Φ : Addr → Prop, (∀ a, Φ a → Pl H a) ∧ SepF C K H Φ L fun a => ¬ Φ a
  tb : LamX.Tabs Tb H
theorem Sep.fit (S : Sep C K Tb H L) (p : Fit rs L) : Sep C K Tb H rs := by
  obtain ⟨⟨Φ, h1, h2⟩, t⟩ := S
  exact ⟨⟨Φ, h1, h2.fit p⟩, t⟩
theorem Sep.pick (S : Sep C K Tb H L) (p : Pick r L L') : Sep C K Tb H (r :: L') := S.fit (.pick p .refl)
/-- one owned thing changes; new things come -/
theorem Sep.step (S : Sep C K Tb H L) (p : Pick r L L') : ∃ Φ F : Addr → Prop, r.at C K H Φ F ∧ (∀ a, F a → ¬ Φ a) ∧ (∀ a, F a → Pl H a) ∧ (∀ a, Φ a → Pl H a) ∧ LamX.Tabs Tb H ∧
    ∀ (H' : Hp) (Φ' : Addr → Prop) (rs : List R) (U1 : Addr → Prop), Out F H H' → LamX.Tabs Tb H' → (∀ a, Φ a → Φ' a) → (∀ a, Φ' a → Φ a ∨ New H a) → (∀ a, Φ' a → Pl H' a) → SepF C K H' Φ' rs U1 → (∀ a, U1 a → (F a ∨ New H a) ∧ ¬ Φ' a) → Sep C K Tb H' (rs ++ L') := by
  obtain ⟨⟨Φ, h1, h2⟩, t⟩ := S
  obtain ⟨F, g1, g2, g3⟩ := h2.pick p
  refine ⟨Φ, F, g1, g2, fun a f => R.dom (r := r) g1 f, h1, t, fun H' Φ' rs U1 o t' l n d h u => ⟨⟨Φ', d, ?_⟩, t'⟩⟩
  have kΦ : ∀ a w, Φ a → H a = some w → H' a = some w := fun a w f e => o a w (fun z => g2 a z f) e (Pl.nt (by
    obtain ⟨w', e', pw⟩ := h1 a f
    rw [e'] at e; cases e; exact pw))
  have kL := SepF.keep (Φ' := Φ') kΦ l g3.dom fun a w ⟨⟨_, nf⟩, pl⟩ e => o a w nf e (Pl.nt (by
    obtain ⟨w', e', pw⟩ := pl
    rw [e'] at e; cases e; exact pw))
  refine SepF.app h kL (fun a z => (u a z).2) (fun a ⟨⟨z1, z2⟩, z3⟩ w => (n a w).elim z1 z3.old) fun a z ⟨⟨z1, z2⟩, z3⟩ => (u a z).1.elim z2 z3.old
/-- nothing owned changes; new things come -/
theorem Sep.step0 (S : Sep C K Tb H L) : ∃ Φ : Addr → Prop, (∀ a, Φ a → Pl H a) ∧
    ∀ (H' : Hp) (Φ' : Addr → Prop) (rs : List R) (U1 : Addr → Prop), Out Nil H H' → LamX.Tabs Tb H' → (∀ a, Φ a → Φ' a) → (∀ a, Φ' a → Φ a ∨ New H a) → (∀ a, Φ' a → Pl H' a) → SepF C K H' Φ' rs U1 → (∀ a, U1 a → New H a ∧ ¬ Φ' a) → Sep C K Tb H' (rs ++ L) := by
  obtain ⟨⟨Φ, h1, h2⟩, t⟩ := S
  refine ⟨Φ, h1, fun H' Φ' rs U1 o t' l n d h u => ⟨⟨Φ', d, ?_⟩, t'⟩⟩
  have kΦ : ∀ a w, Φ a → H a = some w → H' a = some w := fun a w f e => o a w (fun z => z) e (Pl.nt (by
    obtain ⟨w', e', pw⟩ := h1 a f
    rw [e'] at e; cases e; exact pw))
  have kL := SepF.keep (Φ' := Φ') kΦ l h2.dom fun a w ⟨nf, pl⟩ e => o a w (fun z => z) e (Pl.nt (by
    obtain ⟨w', e', pw⟩ := pl
    rw [e'] at e; cases e; exact pw))
  refine SepF.app h kL (fun a z => (u a z).2) (fun a ⟨z1, z3⟩ w => (n a w).elim z1 z3.old) fun a z ⟨z1, z3⟩ => z3.old (u a z).1
theorem Sep.read (S : Sep C K Tb H L) (o : Out Nil H H') (t : LamX.Tabs Tb H') : Sep C K Tb H' L := by
  obtain ⟨Φ, h1, h⟩ := S.step0
  have pl : ∀ a, Φ a → Pl H' a := fun a f => by
    obtain ⟨w, e, p⟩ := h1 a f
    exact ⟨w, o a w (fun z => z) e (Pl.nt p), p⟩
  exact h H' Φ [] (fun _ => False) o t (fun _ z => z) (fun _ z => .inl z) pl trivial fun _ z => z.elim
theorem Sep.get {p : Addr} {o : HO} (S : Sep C K Tb H L) (m : R.cell p o ∈ L) : H p = some o := by
  obtain ⟨⟨Φ, _, h2⟩, _⟩ := S
  obtain ⟨F, f, _⟩ := h2.at m
  exact f.1
theorem Sep.getT {p : Addr} {xs : List V} (S : Sep C K Tb H L) (m : R.tup p xs ∈ L) : H p = some (.tup xs) := by
  obtain ⟨⟨Φ, _, h2⟩, _⟩ := S
  obtain ⟨F, f, _⟩ := h2.at m
  exact f.1
theorem Sep.getS {p : Addr} (S : Sep C K Tb H L) (m : R.src p ∈ L) : Src H p := by
  obtain ⟨⟨Φ, _, h2⟩, _⟩ := S
  obtain ⟨F, f, _⟩ := h2.at m
  exact f.1
theorem Sep.ro {p : Addr} {xs : List V} (S : Sep C K Tb H L) (m : R.ro p xs ∈ L) : SqL K H p xs := by
  obtain ⟨⟨Φ, _, h2⟩, _⟩ := S
  obtain ⟨F, f, _⟩ := h2.at m
  rcases f with f | f
  · exact .inl f.1
  · exact f.1 H
theorem Sep.slot {p : Addr} {m : SM} (S : Sep C K Tb H L) (h : R.sl p m ∈ L) : ∃ F, Sl C H p m F := by
  obtain ⟨⟨Φ, _, h2⟩, _⟩ := S
  obtain ⟨F, f, _⟩ := h2.at h
  exact ⟨F, f⟩
theorem Sep.ok {p : Addr} {m : SM} (S : Sep C K Tb H L) (h : R.sl p m ∈ L) : m.Ok := by
  obtain ⟨F, f⟩ := S.slot h
  exact f.ok
theorem Sep.new {p : Addr} {o : HO} (S : Sep C K Tb H L) (n : H p = none) (po : Plain o) : Sep C K Tb (upd H p o) (.cell p o :: L) := by
  obtain ⟨Φ, h1, h⟩ := S.step0
  have np : ∀ a, Φ a → a ≠ p := fun a f e => by subst e; obtain ⟨w, q, _⟩ := h1 a f; rw [n] at q; cases q
  refine h _ Φ [.cell p o] (fun a => a = p) ((Out.refl H).fresh n) (tabs_new S.tb n) (fun _ z => z) (fun _ z => .inl z) (fun a f => ?_) ⟨fun a => a = p, ⟨upd_same, po, fun _ => Iff.rfl⟩, fun _ z => z, trivial⟩ fun a e => ?_
  · obtain ⟨w, q, pw⟩ := h1 a f
    exact ⟨w, by rw [upd_ne (np a f)]; exact q, pw⟩
  · subst e; exact ⟨.of n, fun f => np _ f rfl⟩
theorem Sep.newT {p : Addr} {xs : List V} (S : Sep C K Tb H L) (n : H p = none) : Sep C K Tb (upd H p (.tup xs)) (.tup p xs :: L) := by
  obtain ⟨Φ, h1, h⟩ := S.step0
  have np : ∀ a, Φ a → a ≠ p := fun a f e => by subst e; obtain ⟨w, q, _⟩ := h1 a f; rw [n] at q; cases q
  refine h _ (fun a => Φ a ∨ a = p) [.tup p xs] (fun _ => False) ((Out.refl H).fresh n) (tabs_new S.tb n) (fun _ z => .inl z) (fun _ z => z.elim .inl fun e => .inr (by subst e; exact .of n)) (fun a f => ?_) ⟨fun _ => False, ⟨upd_same, .inr rfl, fun _ z => z⟩, fun _ z => z, trivial⟩ fun a e => e.elim
  rcases f with f | rfl
  · obtain ⟨w, q, pw⟩ := h1 a f
    exact ⟨w, by rw [upd_ne (np a f)]; exact q, pw⟩
  · exact ⟨_, upd_same, trivial⟩
theorem Sep.put {p : Addr} {o u : HO} (S : Sep C K Tb H L) (k : Pick (.cell p o) L L') (po : Plain u) : Sep C K Tb (upd H p u) (.cell p u :: L') := by
  obtain ⟨Φ, F, f, h1, h2, h3, t, h⟩ := S.step k
  obtain ⟨e, pl, f⟩ := f
  have fp : F p := (f p).mpr rfl
  refine h _ Φ [.cell p u] F ((Out.refl H).upd (.inl fp)) (tabs_put S.tb e pl) (fun _ z => z) (fun _ z => .inl z) (fun a q => ?_) ⟨F, ⟨upd_same, po, f⟩, fun _ z => z, trivial⟩ fun a z => ⟨.inl z, h1 a z⟩
  obtain ⟨w, q', pw⟩ := h3 a q
  exact ⟨w, by rw [upd_ne (fun z => by subst z; exact h1 _ fp q)]; exact q', pw⟩
/-! what is known of values -/
mutual
inductive Has (fz : Bool) (L : List R) : V → PyData → Prop
  | non : Has fz L .non .none
  | bl (b : Bool) : Has fz L (.bl b) (.bool b)
  | int (i : Int) : Has fz L (.int i) (.int i)
  | str (x : Str) : Has fz L (.str x) (.str x)
  | dat {v : V} {d : PyData} : R.dat v d ∈ L → Has fz L v d
  | item {vs : List V} {ds : List PyData} {i : Nat} {v : V} {d : PyData} : R.dats vs ds ∈ L → vs[i]? = some v → ds[i]? = some d → Has fz L v d
  | tup {p : Addr} {xs : List V} {ds : List PyData} : R.tup p xs ∈ L → HasAll fz L xs ds → Has fz L (.ref p) (.tuple ds)
  | lst {p : Addr} {xs : List V} {ds : List PyData} : fz = false → R.cell p (.lst xs) ∈ L → HasAll fz L xs ds → Has fz L (.ref p) (.list ds)
  | ro {p : Addr} {xs : List V} {ds : List PyData} : fz = false → R.ro p xs ∈ L → HasAll fz L xs ds → Has fz L (.ref p) (.list ds)
inductive HasAll (fz : Bool) (L : List R) : List V → List PyData → Prop
  | nil : HasAll fz L [] []
  | cons {v : V} {vs : List V} {d : PyData} {ds : List PyData} : Has fz L v d → HasAll fz L vs ds → HasAll fz L (v :: vs) (d :: ds)
  | dats {vs : List V} {ds : List PyData} : R.dats vs ds ∈ L → HasAll fz L vs ds
  | ints (ns : List Int) : HasAll fz L (ns.map V.int) (ns.map PyData.int)
  | app {vs us : List V} {ds es : List PyData} : HasAll fz L vs ds → HasAll fz L us es → HasAll fz L (vs ++ us) (ds ++ es)
end
theorem _root_.L2.DpAll.app {K : PySem.W.Frag} {H : Hp} : ∀ {vs : List V} {ds : List PyData} {us : List V} {es : List PyData}, DpAll K H vs ds → DpAll K H us es → DpAll K H (vs ++ us) (ds ++ es)
  | _, _, _, _, .nil, h => h
  | _, _, _, _, .cons h1 h2, h => .cons h1 (h2.app h)
mutual
theorem Sep.dr_ (h2 : SepF C K H Φ L U) : ∀ {v : V} {d : PyData}, Has true L v d → Dr H Φ v d
  | _, _, .non => .non
  | _, _, .bl b => .bl b
  | _, _, .int i => .int i
  | _, _, .str x => .str x
  | _, _, .dat m => by obtain ⟨F, f, _⟩ := h2.at m; exact f.1
  | _, _, .item m a b => by obtain ⟨F, f, _⟩ := h2.at m; exact f.1.at a b
  | _, _, .tup m k => by obtain ⟨F, f, _⟩ := h2.at m; exact .tup f.1 f.2.1 (Sep.drs_ h2 k)
  | _, _, .lst f _ _ => by cases f
  | _, _, .ro f _ _ => by cases f
theorem Sep.drs_ (h2 : SepF C K H Φ L U) : ∀ {v : List V} {d : List PyData}, HasAll true L v d → DrAll H Φ v d
  | _, _, .nil => .nil
  | _, _, .cons a b => .cons (Sep.dr_ h2 a) (Sep.drs_ h2 b)
  | _, _, .dats m => by obtain ⟨F, f, _⟩ := h2.at m; exact f.1
  | _, _, .ints ns => DrAll.ints ns
  | _, _, .app a b => (Sep.drs_ h2 a).app (Sep.drs_ h2 b)
end
mutual
theorem Sep.dp {fz : Bool} (S : Sep C K Tb H L) : ∀ {v : V} {d : PyData}, Has fz L v d → Dp K H v d
  | _, _, .non => .non
  | _, _, .bl b => .bl b
  | _, _, .int i => .int i
  | _, _, .str x => .str x
  | _, _, .dat m => by obtain ⟨⟨Φ, _, h2⟩, _⟩ := S; obtain ⟨F, f, _⟩ := h2.at m; exact f.1.dp
  | _, _, .item m a b => by obtain ⟨⟨Φ, _, h2⟩, _⟩ := S; obtain ⟨F, f, _⟩ := h2.at m; exact (f.1.at a b).dp
  | _, _, .tup m k => .tup (SqT.of (S.getT m)) (Sep.dps S k)
  | _, _, .lst _ m k => .lst (SqL.of (S.get m)) (Sep.dps S k)
  | _, _, .ro _ m k => .lst (S.ro m) (Sep.dps S k)
theorem Sep.dps {fz : Bool} (S : Sep C K Tb H L) : ∀ {v : List V} {d : List PyData}, HasAll fz L v d → DpAll K H v d
  | _, _, .nil => .nil
  | _, _, .cons a b => .cons (Sep.dp S a) (Sep.dps S b)
  | _, _, .dats m => by obtain ⟨⟨Φ, _, h2⟩, _⟩ := S; obtain ⟨F, f, _⟩ := h2.at m; exact f.1.dp
  | _, _, .ints ns => dpall_ints ns
  | _, _, .app a b => (Sep.dps S a).app (Sep.dps S b)
end
theorem Sep.fact {Q : R → Prop} (S : Sep C K Tb H L) (r : R) (k : ∀ Φ U, SepF C K H Φ L U → r.at C K H Φ fun _ => False) : Sep C K Tb H (r :: L) := by
  obtain ⟨⟨Φ, h1, h2⟩, t⟩ := S
  exact ⟨⟨Φ, h1, fun _ => False, k Φ _ h2, fun _ z => z.elim, h2.mono fun a u => ⟨u, fun z => z⟩⟩, t⟩
theorem Sep.dat {v : V} {d : PyData} (S : Sep C K Tb H L) (h : Has true L v d) : Sep C K Tb H (.dat v d :: L) := S.fact (Q := fun _ => True) _ fun _ _ s => ⟨Sep.dr_ s h, fun _ z => z⟩
theorem Sep.dats {v : List V} {d : List PyData} (S : Sep C K Tb H L) (h : HasAll true L v d) : Sep C K Tb H (.dats v d :: L) := S.fact (Q := fun _ => True) _ fun _ _ s => ⟨Sep.drs_ s h, fun _ z => z⟩
/-- a tuple of data is taken apart -/
theorem Sep.untup {v : V} {ds : List PyData} (S : Sep C K Tb H L) (h : Has true L v (.tuple ds)) : ∃ a xs, v = .ref a ∧ Sep C K Tb H (.tup a xs :: .dats xs ds :: L) := by
  obtain ⟨⟨Φ, h1, h2⟩, t⟩ := S
  cases Sep.dr_ h2 h with
  | @tup a xs _ e f g => exact ⟨a, xs, rfl, ⟨⟨Φ, h1, fun _ => False, ⟨e, f, fun _ z => z⟩, fun _ z => z.elim, fun _ => False, ⟨g, fun _ z => z⟩, fun _ z => z.elim, h2.mono fun a u => ⟨⟨u, fun z => z⟩, fun z => z⟩⟩, t⟩⟩
theorem Sep.int {v : V} {i : Int} (S : Sep C K Tb H L) (h : Has true L v (.int i)) : v = .int i := by
  obtain ⟨⟨Φ, h1, h2⟩, t⟩ := S
  cases Sep.dr_ h2 h; rfl
theorem Sep.str {v : V} {i : Str} (S : Sep C K Tb H L) (h : Has true L v (.str i)) : v = .str i := by
  obtain ⟨⟨Φ, h1, h2⟩, t⟩ := S
  cases Sep.dr_ h2 h; rfl
theorem Sep.non {v : V} (S : Sep C K Tb H L) (h : Has true L v .none) : v = .non := by
  obtain ⟨⟨Φ, h1, h2⟩, t⟩ := S
  cases Sep.dr_ h2 h; rfl
theorem Sep.len {vs : List V} {ds : List PyData} (S : Sep C K Tb H L) (h : HasAll true L vs ds) : vs.length = ds.length := by
  obtain ⟨⟨Φ, h1, h2⟩, t⟩ := S
  exact (Sep.drs_ h2 h).len
theorem Sep.pair {v : V} {a b : Int} (S : Sep C K Tb H L) (h : Has true L v (pd (a, b))) : ∃ t, v = .ref t ∧ Sep C K Tb H (.tup t [.int a, .int b] :: L) := by
  obtain ⟨⟨Φ, h1, h2⟩, t⟩ := S
  cases Sep.dr_ h2 h with
  | @tup p xs _ e f g =>
    cases g with
    | cons g1 g =>
      cases g1
      cases g with
      | cons g2 g =>
        cases g2
        cases g
        exact ⟨p, rfl, ⟨⟨Φ, h1, fun _ => False, ⟨e, f, fun _ z => z⟩, fun _ z => z.elim, h2.mono fun a u => ⟨u, fun z => z⟩⟩, t⟩⟩
/-- a list that is owned is changed no more -/
theorem Sep.freeze {p : Addr} {xs : List V} {ds : List PyData} (S : Sep C K Tb H L) (k : Pick (.cell p (.lst xs)) L L') (h : HasAll true L xs ds) : Sep C K Tb H (.dat (.ref p) (.list ds) :: L') := by
  obtain ⟨⟨Φ, h1, h2⟩, t⟩ := S
  have d := Sep.drs_ h2 h
  obtain ⟨F, f, g, h3⟩ := h2.pick k
  have le : ∀ a, Φ a → Φ a ∨ F a := fun _ z => .inl z
  refine ⟨⟨fun a => Φ a ∨ F a, fun a z => z.elim (h1 a) fun w => R.dom (r := .cell p (.lst xs)) f w, fun _ => False, ⟨.lst f.1 (.inr ((f.2.2 p).mpr rfl)) (d.keep (fun _ _ _ e => e) le), fun _ z => z⟩, fun _ z => z.elim, ?_⟩, t⟩
  exact (SepF.keep (fun _ _ _ e => e) le h3 fun _ _ _ e => e).mono fun a ⟨u, v⟩ => ⟨fun z => z.elim u v, fun z => z⟩
theorem Sep.prs {xs : List V} {ps : List (Int × Int)} (S : Sep C K Tb H L) (h : HasAll true L xs (ps.map pd)) : Prs H xs ps := by
  obtain ⟨⟨Φ, h1, h2⟩, t⟩ := S
  have d := Sep.drs_ h2 h
  clear h h2 h1
  refine ⟨by rw [d.len, List.length_map], fun i p hp => ?_⟩
  have hi : i < xs.length := by
    rw [d.len, List.length_map]; exact (List.getElem?_eq_some_iff.mp hp).1
  have e := List.getElem?_eq_getElem hi
  have g := d.at e (by rw [List.getElem?_map, hp]; rfl)
  rw [e]
  revert g
  generalize xs[i] = v
  intro g
  obtain ⟨a, b⟩ := p
  have g : Dr H Φ v (.tuple [.int a, .int b]) := g
  cases g with
  | tup e f g =>
    cases g with
    | cons g1 g =>
      cases g1
      cases g with
      | cons g2 g =>
        cases g2
        cases g
        exact ⟨_, rfl, e⟩
end

/-! ### Sep: readings -/
def NewTup (Q : VK) (xs : List V) (H : Hp) : Prop := xs.length ≤ sizeLine ∧ ∀ p, H p = none → Q (.ref p) (upd H p (.tup xs))
def NewLst (Q : VK) (xs : List V) (H : Hp) : Prop := xs.length ≤ sizeLine ∧ ∀ p, H p = none → Q (.ref p) (upd H p (.lst xs))
def MkNew (C : Addr) (sp : Sp) (dvs : List V) (E : XK) (vs : List V) (H1 : Hp) (Q : VK) : Prop := ∀ x dx, H1 x = none → H1 dx = none → dx ≠ x → sp (.ref x :: (vs ++ dvs)) (upd (upd H1 dx (.own x)) x (.ins C dx [])) (fun v H2 => v = .non ∧ Q (.ref x) H2) E
def attrOf (m : SM) (f : Str) : Option V := if f = "n" then some (.int m.n) else if f = "limit" then some (.int m.lim) else if f = "generations" then some (.int m.g) else if f = "rule" then some (.str m.rule.s) else none
theorem million {n : Nat} (h : n ≤ 1000000) : n < sizeLine := Nat.lt_of_le_of_lt h (by decide)
section
variable {C : Addr} {K : PySem.W.Frag} {Tb : List (Addr × Str)} {D : Ends} {σ : St} {H H' : Hp} {Q : VK} {QH : Hp → Prop} {QS : St → Hp → Prop} {L L' L2 : List R} {tA : TA} {ta te : TE} {tt : TT} {g : TG} {l p b : Addr} {xs zs : List V} {v : V} {vs : List Nat} {m : SM}
theorem s_tup (h : tA σ H fun xs H1 => NewTup Q xs H1) : tTup tA σ H Q := h
theorem s_lst (h : tA σ H fun xs H1 => NewLst Q xs H1) : tLst tA σ H Q := h
theorem s_newT (S : Sep C K Tb H L) (hn : xs.length ≤ 1000) (k : ∀ p H', Sep C K Tb H' (.tup p xs :: L) → Q (.ref p) H') : NewTup Q xs H := ⟨small_sz hn, fun p n => k p _ (S.newT n)⟩
theorem s_newL (S : Sep C K Tb H L) (hn : xs.length ≤ 1000) (k : ∀ p H', Sep C K Tb H' (.cell p (.lst xs) :: L) → Q (.ref p) H') : NewLst Q xs H := ⟨small_sz hn, fun p n => k p _ (S.new n trivial)⟩
theorem s_append (S : Sep C K Tb H L) (pk : Pick (.cell l (.lst xs)) L L') (hn : xs.length ≤ 1000000) (k : ∀ H', Sep C K Tb H' (.cell l (.lst (xs ++ [v])) :: L') → Q .non H') : rAppend (.ref l) [v] H Q :=
  r_append (S.get pk.mem) (million hn) (k _ (S.put pk trivial))
theorem s_setl {a : Int} {j : Nat} (S : Sep C K Tb H L) (pk : Pick (.cell l (.lst xs)) L L') (h2 : ixN xs.length a = some j) (k : ∀ H', Sep C K Tb H' (.cell l (.lst (xs.set j v)) :: L') → QH H') : rSetL (.ref l) (.int a) v H QH :=
  r_setl (S.get pk.mem) h2 (k _ (S.put pk trivial))
theorem s_cat (S : Sep C K Tb H L) (h1 : R.cell l (.lst xs) ∈ L) (h2 : R.cell b (.lst zs) ∈ L) (hn : xs.length + zs.length ≤ 1000) (k : ∀ p H', Sep C K Tb H' (.cell p (.lst (xs ++ zs)) :: L) → Q (.ref p) H') : rCat (.ref l) (.ref b) H Q :=
  r_cat (S.get h1) (S.get h2) hn fun p n => k p _ (S.new n trivial)
theorem s_cutL {lo hi : Option Int} (S : Sep C K Tb H L) (h1 : SqL K H l xs) (k : ∀ p H', Sep C K Tb H' (.cell p (.lst (cutV xs lo hi)) :: L) → Q (.ref p) H') : rSlL K (.ref l) lo hi H Q :=
  r_slL h1 fun p n => k p _ (S.new n trivial)
theorem s_list (S : Sep C K Tb H L) (h1 : SqL K H l xs) (k : ∀ p H', Sep C K Tb H' (.cell p (.lst xs) :: L) → Q (.ref p) H') : rListC K [.ref l] H Q := r_listl h1 fun p n => k p _ (S.new n trivial)
theorem s_listT (S : Sep C K Tb H L) (h1 : SqT K H l xs) (k : ∀ p H', Sep C K Tb H' (.cell p (.lst xs) :: L) → Q (.ref p) H') : rListC K [.ref l] H Q := r_listt h1 fun p n => k p _ (S.new n trivial)
theorem s_popAt {a : Int} {j : Nat} {y : V} (S : Sep C K Tb H L) (pk : Pick (.cell l (.lst xs)) L L') (b1 : -(2 ^ 63) ≤ a) (b2 : a < 2 ^ 63) (h2 : seqIndex? a xs.length = some j) (h3 : xs[j]? = some y) (k : ∀ H', Sep C K Tb H' (.cell l (.lst (xs.eraseIdx j)) :: L') → Q y H') : rPopAt (.ref l) [.int a] H Q :=
  r_popAt (S.get pk.mem) b1 b2 h2 h3 (k _ (S.put pk trivial))
theorem s_listRg {n : Int} (S : Sep C K Tb H L) (hb : RgOk 0 n) (k : ∀ p H', Sep C K Tb H' (.cell p (.lst (rgV 0 n)) :: L) → Q (.ref p) H') : ∃ m : Int, V.int n = .int m ∧ RgOk 0 m ∧ ∀ q, H q = none → Q (.ref q) (upd H q (.lst (rgV 0 m))) := ⟨n, rfl, hb, fun q n' => k q _ (S.new n' trivial)⟩
theorem s_attr {f : Str} {R' : V → Prop} (S : Sep C K Tb H L) (h : R.sl p m ∈ L) (cl : Cls K C) (n : NoAttr K C f) (e : attrOf m f = some v) (k : R' v) :
    ∃ a C dx fs v, V.ref p = .ref a ∧ H a = some (.ins C dx fs) ∧ Cls K C ∧ NoAttr K C f ∧ fs.lookup f = some v ∧ R' v := by
  obtain ⟨F, dx, lo, la, lt, lh, x, _⟩ := S.slot h
  refine ⟨p, C, dx, _, v, rfl, x.ins, cl, n, ?_, k⟩
  unfold attrOf at e
  split at e
  · rename_i q; subst q; exact e
  · split at e
    · rename_i q; subst q; exact e
    · split at e
      · rename_i q; subst q; exact e
      · split at e
        · rename_i q; subst q; exact e
        · cases e
theorem s_meth {x : Str} {F : Prop} (S : Sep C K Tb H L) (h : R.sl p m ∈ L) (hl : ∀ lo la lt lh, (flds m lo la lt lh).lookup x = none) (k : F) : ∃ a dx fs, V.ref p = .ref a ∧ H a = some (.ins C dx fs) ∧ fs.lookup x = none ∧ F := by
  obtain ⟨_, dx, lo, la, lt, lh, y, _⟩ := S.slot h
  exact ⟨p, dx, _, rfl, y.ins, hl _ _ _ _, k⟩
theorem s_lenO {E : XK} (S : Sep C K Tb H L) (h : R.sl p m ∈ L) (k : Q (.int (m.live.length : Int)) H) : rLenOwn C (fun vs H Q _ => ∃ (p : Addr) (m : SM) (F : Addr → Prop), vs = [.ref p] ∧ Sl C H p m F ∧ Q (.int (m.live.length : Int)) H) E [.ref p] H Q := by
  obtain ⟨F, x⟩ := S.slot h
  exact r_lenO x k
theorem s_make {sp : Sp} {dvs : List V} {E : XK} (h : tA σ H fun vs H1 => MkNew C sp dvs E vs H1 Q) : tMake C sp dvs E tA σ H Q := h
theorem Sep.sq (S : Sep C K Tb H L) (h : R.cell l (.lst xs) ∈ L ∨ R.ro l xs ∈ L) : SqL K H l xs := h.elim (fun h => SqL.of (S.get h)) S.ro
theorem s_keep {H4 : Hp} {L4 L5 : List R} {Dd : Addr} {acc : List V} {y : V} {N : Hp → Prop} (S : Sep C K Tb H4 L4) (p : Pick (.cell Dd (.lst acc)) L4 L5) (ft : Fit L L5) (hl : acc.length ≤ 1000000) (k : ∀ H'', Sep C K Tb H'' (.cell Dd (.lst (acc ++ [y])) :: L) → N H'') :
    ∃ a, H4 Dd = some (.lst a) ∧ a.length < sizeLine ∧ N (upd H4 Dd (.lst (a ++ [y]))) :=
  ⟨acc, S.get p.mem, million hl, k _ ((S.fit (.pick p ft)).put .here trivial)⟩
theorem s_keepD {H4 : Hp} {L4 L5 : List R} {Dd : Addr} {acc : List V} {ads : List PyData} {d : PyData} {y : V} {N : Hp → Prop} (S : Sep C K Tb H4 L4) (h : Has true L4 y d) (hm : HasAll true L4 acc ads) (p : Pick (.cell Dd (.lst acc)) L4 L5) (ft : Fit L L5) (hl : acc.length ≤ 1000000)
    (k : ∀ H'', Sep C K Tb H'' (.cell Dd (.lst (acc ++ [y])) :: .dats (acc ++ [y]) (ads ++ [d]) :: L) → N H'') :
    ∃ a, H4 Dd = some (.lst a) ∧ a.length < sizeLine ∧ N (upd H4 Dd (.lst (a ++ [y]))) := by
  have S2 := S.dats (.app hm (.cons h .nil))
  have S3 := S2.fit (.pick (.there p) (.pick .here ft))
  exact ⟨acc, S.get p.mem, million hl, k _ (S3.put .here trivial)⟩
theorem filtZ {α β : Type} {zs : List α} {i : Nat} {z : α} (f : α → Bool) (w : α → β) (h : zs[i]? = some z) : ((zs.take (i + 1)).filter f).map w = if f z then ((zs.take i).filter f).map w ++ [w z] else ((zs.take i).filter f).map w := by
  rw [List.take_succ, h, List.filter_append, List.map_append]
  by_cases c : f z = true <;> simp [c]
theorem filtZ_len {α β : Type} (zs : List α) (i : Nat) (f : α → Bool) (w : α → β) : (((zs.take i).filter f).map w).length ≤ zs.length := by
  have h1 := List.length_filter_le f (zs.take i)
  rw [List.length_map]
  rw [List.length_take] at h1
  omega
/-- a comprehension over a list, its items plain values -/
theorem s_lcL {α : Type} (zs : List α) {a : Addr} (S : Sep C K Tb H L) (hx : R.cell a (.lst xs) ∈ L ∨ R.ro a xs ∈ L) (hlen : xs.length = zs.length) (hn : zs.length ≤ 1000000) (f : α → Bool) (w : α → V)
    (hs : ∀ D H' (i : Nat) x z acc (N : Hp → Prop), xs[i]? = some x → zs[i]? = some z → acc.length ≤ 1000000 → Sep C K Tb H' (.cell D (.lst acc) :: L) → (f z = true → ∀ H'', Sep C K Tb H'' (.cell D (.lst (acc ++ [w z])) :: L) → N H'') → (f z = false → ∀ H'', Sep C K Tb H'' (.cell D (.lst acc) :: L) → N H'') →
      g x (wipe σ vs) H' fun σ2 H2 => wipe σ2 vs = wipe σ vs ∧ tt σ2 H2 fun b H3 => if b = true then te σ2 H3 fun y H4 => ∃ a, H4 D = some (.lst a) ∧ a.length < sizeLine ∧ N (upd H4 D (.lst (a ++ [y]))) else N H3)
    (hd : ∀ D H', Sep C K Tb H' (.cell D (.lst ((zs.filter f).map w)) :: L) → Q (.ref D) H') : LcLoop (Itl K a) g tt te vs σ H Q := by
  intro Dd hD
  refine lc_list (K := K) (a := a) (xs := xs) (fun i H' => Sep C K Tb H' (.cell Dd (.lst (((zs.take i).filter f).map w)) :: L)) (S.new hD trivial) (fun i H' _ S' => (S'.fit (.drop .refl)).sq hx) (fun i x H' hi S' => ?_) (fun H' S' => ?_)
  · have hi2 : i < zs.length := by rw [← hlen]; exact (List.getElem?_eq_some_iff.mp hi).1
    have hz := List.getElem?_eq_getElem hi2
    refine hs Dd H' i x _ _ _ hi hz (Nat.le_trans (filtZ_len _ _ _ _) hn) S' (fun c H'' S'' => ?_) (fun c H'' S'' => ?_)
    · show Sep C K Tb H'' (.cell Dd (.lst (((zs.take (i + 1)).filter f).map w)) :: L)
      rw [filtZ f w hz, if_pos c]; exact S''
    · show Sep C K Tb H'' (.cell Dd (.lst (((zs.take (i + 1)).filter f).map w)) :: L)
      rw [filtZ f w hz, if_neg (by rw [c]; exact Bool.false_ne_true)]; exact S''
  · refine hd Dd H' ?_
    rw [hlen, List.take_length] at S'; exact S'
/-- .. its items data -/
theorem s_lcLD {α : Type} (zs : List α) {a : Addr} (S : Sep C K Tb H L) (hx : R.cell a (.lst xs) ∈ L ∨ R.ro a xs ∈ L) (hlen : xs.length = zs.length) (hn : zs.length ≤ 1000000) (f : α → Bool) (w : α → PyData)
    (hs : ∀ D H' (i : Nat) x z acc ads (N : Hp → Prop), xs[i]? = some x → zs[i]? = some z → acc.length ≤ 1000000 → Sep C K Tb H' (.cell D (.lst acc) :: .dats acc ads :: L) → (f z = true → ∀ H'' y, Sep C K Tb H'' (.cell D (.lst (acc ++ [y])) :: .dats (acc ++ [y]) (ads ++ [w z]) :: L) → N H'') → (f z = false → ∀ H'', Sep C K Tb H'' (.cell D (.lst acc) :: .dats acc ads :: L) → N H'') →
      g x (wipe σ vs) H' fun σ2 H2 => wipe σ2 vs = wipe σ vs ∧ tt σ2 H2 fun b H3 => if b = true then te σ2 H3 fun y H4 => ∃ a, H4 D = some (.lst a) ∧ a.length < sizeLine ∧ N (upd H4 D (.lst (a ++ [y]))) else N H3)
    (hd : ∀ D H' ys, Sep C K Tb H' (.cell D (.lst ys) :: .dats ys ((zs.filter f).map w) :: L) → Q (.ref D) H') : LcLoop (Itl K a) g tt te vs σ H Q := by
  intro Dd hD
  refine lc_list (K := K) (a := a) (xs := xs) (fun i H' => ∃ acc, acc.length ≤ zs.length ∧ Sep C K Tb H' (.cell Dd (.lst acc) :: .dats acc (((zs.take i).filter f).map w) :: L)) ⟨[], Nat.zero_le _, ((S.new (o := .lst []) hD trivial).dats .nil).fit (.pick (.there .here) (.pick .here .refl))⟩ (fun i H' _ ⟨_, _, S'⟩ => (S'.fit (.drop (.drop .refl))).sq hx) (fun i x H' hi ⟨acc, la, S'⟩ => ?_) (fun H' ⟨acc, la, S'⟩ => ?_)
  · have hi2 : i < zs.length := by rw [← hlen]; exact (List.getElem?_eq_some_iff.mp hi).1
    have hz := List.getElem?_eq_getElem hi2
    refine hs Dd H' i x _ acc _ _ hi hz (Nat.le_trans la hn) S' (fun c H'' y S'' => ?_) (fun c H'' S'' => ?_)
    · have e := filtZ f w hz
      rw [if_pos c] at e
      refine ⟨acc ++ [y], ?_, by rw [e]; exact S''⟩
      have h1 := S''.len (.dats (List.mem_cons_of_mem _ List.mem_cons_self))
      have h2 := filtZ_len zs (i + 1) f w
      rw [e] at h2
      rw [h1]; exact h2
    · refine ⟨acc, la, ?_⟩
      rw [filtZ f w hz, if_neg (by rw [c]; exact Bool.false_ne_true)]; exact S''
  · refine hd Dd H' acc ?_
    rw [hlen, List.take_length] at S'; exact S'
theorem s_lcR {n : Nat} (S : Sep C K Tb H L) (hn : n ≤ 1000000) (f : Nat → Bool) (w : Nat → V)
    (hs : ∀ D H' (i : Nat) acc (N : Hp → Prop), i < n → acc.length ≤ 1000000 → Sep C K Tb H' (.cell D (.lst acc) :: L) → (f i = true → ∀ H'', Sep C K Tb H'' (.cell D (.lst (acc ++ [w i])) :: L) → N H'') → (f i = false → ∀ H'', Sep C K Tb H'' (.cell D (.lst acc) :: L) → N H'') →
      g (.int i) (wipe σ vs) H' fun σ2 H2 => wipe σ2 vs = wipe σ vs ∧ tt σ2 H2 fun b H3 => if b = true then te σ2 H3 fun y H4 => ∃ a, H4 D = some (.lst a) ∧ a.length < sizeLine ∧ N (upd H4 D (.lst (a ++ [y]))) else N H3)
    (hd : ∀ D H', Sep C K Tb H' (.cell D (.lst (((List.range n).filter f).map w)) :: L) → Q (.ref D) H') : LcLoop (Itr 0 n) g tt te vs σ H Q := by
  intro Dd hD
  refine lc_range (lo := 0) (n := n) (fun i H' => Sep C K Tb H' (.cell Dd (.lst (((List.range i).filter f).map w)) :: L)) (S.new hD trivial) (fun i H' hi S' => ?_) (fun H' S' => hd Dd H' S')
  rw [Int.zero_add]
  have hl : (((List.range i).filter f).map w).length ≤ 1000000 := by
    have h1 := List.length_filter_le f (List.range i)
    rw [List.length_map]; rw [List.length_range] at h1; omega
  refine hs Dd H' i _ _ hi hl S' (fun c H'' S'' => ?_) (fun c H'' S'' => ?_)
  · show Sep C K Tb H'' (.cell Dd (.lst (((List.range (i + 1)).filter f).map w)) :: L)
    rw [filt_more, if_pos c]; exact S''
  · show Sep C K Tb H'' (.cell Dd (.lst (((List.range (i + 1)).filter f).map w)) :: L)
    rw [filt_more, if_neg (by rw [c]; exact Bool.false_ne_true)]; exact S''
theorem s_lcRD {n : Nat} (S : Sep C K Tb H L) (hn : n ≤ 1000000) (f : Nat → Bool) (w : Nat → PyData)
    (hs : ∀ D H' (i : Nat) acc ads (N : Hp → Prop), i < n → acc.length ≤ 1000000 → Sep C K Tb H' (.cell D (.lst acc) :: .dats acc ads :: L) → (f i = true → ∀ H'' y, Sep C K Tb H'' (.cell D (.lst (acc ++ [y])) :: .dats (acc ++ [y]) (ads ++ [w i]) :: L) → N H'') → (f i = false → ∀ H'', Sep C K Tb H'' (.cell D (.lst acc) :: .dats acc ads :: L) → N H'') →
      g (.int i) (wipe σ vs) H' fun σ2 H2 => wipe σ2 vs = wipe σ vs ∧ tt σ2 H2 fun b H3 => if b = true then te σ2 H3 fun y H4 => ∃ a, H4 D = some (.lst a) ∧ a.length < sizeLine ∧ N (upd H4 D (.lst (a ++ [y]))) else N H3)
    (hd : ∀ D H' ys, Sep C K Tb H' (.cell D (.lst ys) :: .dats ys (((List.range n).filter f).map w) :: L) → Q (.ref D) H') : LcLoop (Itr 0 n) g tt te vs σ H Q := by
  intro Dd hD
  refine lc_range (lo := 0) (n := n) (fun i H' => ∃ acc, acc.length ≤ i ∧ Sep C K Tb H' (.cell Dd (.lst acc) :: .dats acc (((List.range i).filter f).map w) :: L)) ⟨[], Nat.le_refl _, ((S.new (o := .lst []) hD trivial).dats .nil).fit (.pick (.there .here) (.pick .here .refl))⟩ (fun i H' hi ⟨acc, la, S'⟩ => ?_) (fun H' ⟨acc, _, S'⟩ => hd Dd H' acc S')
  rw [Int.zero_add]
  refine hs Dd H' i acc _ _ hi (by omega) S' (fun c H'' y S'' => ?_) (fun c H'' S'' => ?_)
  · have e := filt_more f w i
    rw [if_pos c] at e
    exact ⟨acc ++ [y], by simp; omega, by rw [e]; exact S''⟩
  · refine ⟨acc, by omega, ?_⟩
    rw [filt_more, if_neg (by rw [c]; exact Bool.false_ne_true)]; exact S''
theorem s_eqD {d e : PyData} {x y : V} {b1 b2 : Bool} (S : Sep C K Tb H L) (h1 : Has b1 L x d) (h2 : Has b2 L y e) (sd : SeqAt.shaped d = true) (se : SeqAt.shaped e = true) (k : Q (.bl (PyData.eqv d e)) H) : rEqD K x y H Q := ⟨d, e, S.dp h1, S.dp h2, sd, se, k⟩
theorem s_neD {d e : PyData} {x y : V} {b1 b2 : Bool} (S : Sep C K Tb H L) (h1 : Has b1 L x d) (h2 : Has b2 L y e) (sd : SeqAt.shaped d = true) (se : SeqAt.shaped e = true) (k : Q (.bl (!PyData.eqv d e)) H) : rNeD K x y H Q := ⟨d, e, S.dp h1, S.dp h2, sd, se, k⟩
end
local macro_rules | `(tactic| walk_at "pk") => `(tactic| first | (with_reducible exact Pick.here) | ((with_reducible apply Pick.there); walk_at "pk"))
local macro_rules | `(tactic| walk_at "mm") => `(tactic| first | (with_reducible exact List.mem_cons_self) | ((with_reducible refine List.mem_cons_of_mem _ ?_); walk_at "mm") | assumption)
local macro_rules | `(tactic| walk_at "ft") => `(tactic| first | (with_reducible exact Fit.refl) | (with_reducible exact Fit.nil) | ((with_reducible apply Fit.pick); (focus walk_at "pk"); walk_at "ft") | ((with_reducible refine Fit.drop ?_); walk_at "ft"))
local macro_rules | `(tactic| walk_at "sp") => `(tactic| exact Sep.fit (by assumption) (by walk_at "ft"))
local macro_rules | `(tactic| walk_at "hs") => `(tactic| first | exact Has.int _ | exact Has.str _ | exact Has.bl _ | exact Has.non | (with_reducible exact Has.dat (by walk_at "mm")) | (with_reducible exact HasAll.nil) | (with_reducible exact HasAll.dats (by walk_at "mm")) | ((with_reducible refine Has.tup (by walk_at "mm") ?_); walk_at "hs") | ((with_reducible refine Has.lst rfl (by walk_at "mm") ?_); walk_at "hs") | ((with_reducible refine HasAll.cons ?_ ?_) <;> walk_at "hs") | exact HasAll.ints _)
local macro_rules | `(tactic| walk_at "hp") => `(tactic| first | assumption | exact Sep.get (by assumption) (by walk_at "mm") | exact Sep.getT (by assumption) (by walk_at "mm"))
local macro_rules | `(tactic| walk_at "sq") => `(tactic| first | exact SqL.of (by walk_at "hp") | exact Sep.ro (by assumption) (by walk_at "mm"))
local macro_rules | `(tactic| walk_at "sz") => `(tactic| first | exact Nat.le_of_ble_eq_true rfl | omega | (simp; omega))
local macro_rules | `(tactic| walk_at "sd1") => `(tactic| first
  | (with_reducible refine s_tup ?_) | (with_reducible refine s_lst ?_) | (with_reducible refine s_make ?_)
  | ((with_reducible refine s_newT (by assumption) ?_ (fun _ _ _ => ?_)); (focus walk_at "sz"))
  | ((with_reducible refine s_newL (by assumption) ?_ (fun _ _ _ => ?_)); (focus walk_at "sz"))
  | ((with_reducible show ∃ (a : Addr) (C : Addr) (dx : Addr) (fs : List (Str × V)) (v : V), V.ref _ = V.ref a ∧ _); refine s_attr (by assumption) (by walk_at "mm") (by assumption) (by assumption) (by rfl) ?_)
  | ((with_reducible show ∃ (a : Addr) (dx : Addr) (fs : List (Str × V)), V.ref _ = V.ref a ∧ _); refine s_meth (by assumption) (by walk_at "mm") (fun _ _ _ _ => rfl) ?_)
  | ((with_reducible show rSetL _ _ _ _ _); refine s_setl (by assumption) (by walk_at "pk") (by rfl) (fun _ _ => ?_))
  | ((with_reducible show rLenC _ _ _ _); refine r_lenl (by walk_at "sq") ?_)
  | ((with_reducible show rLenC _ _ _ _); refine r_lent (SqT.of (by walk_at "hp")) ?_)
  | ((with_reducible show rLenOwn _ _ _ _ _ _); refine s_lenO (by assumption) (by walk_at "mm") ?_)
  | ((with_reducible show rAppend _ _ _ _); refine s_append (by assumption) (by walk_at "pk") (by walk_at "sz") (fun _ _ => ?_))
  | ((with_reducible show rListC _ _ _ _); refine s_list (by assumption) (by walk_at "sq") (fun _ _ _ => ?_))
  | ((with_reducible show rSlL _ _ _ _ _ _); refine s_cutL (by assumption) (by walk_at "sq") (fun _ _ _ => ?_))
  | ((with_reducible show ∃ (b : Addr), V.ref _ = V.ref b ∧ (∃ ys, SqL _ _ b ys) ∧ Loop _ _ _ _ _ _); refine overLL (by walk_at "sq") ?_)
  | ((with_reducible show ∃ (b : Addr), V.ref _ = V.ref b ∧ (∃ ys, SqL _ _ b ys) ∧ LcLoop _ _ _ _ _ _ _ _); refine overLC (by walk_at "sq") ?_)
  | ((with_reducible show ∃ (b : Addr), V.ref _ = V.ref b ∧ (∃ ys, SqT _ _ b ys) ∧ Loop _ _ _ _ _ _); refine overTL (SqT.of (by walk_at "hp")) ?_)
  | ((with_reducible show ∃ (b : Addr), V.ref _ = V.ref b ∧ (∃ ys, SqT _ _ b ys) ∧ LcLoop _ _ _ _ _ _ _ _); refine overTC (SqT.of (by walk_at "hp")) ?_)
  | ((with_reducible show rCat _ _ _ _); refine s_cat (by assumption) (by walk_at "mm") (by walk_at "mm") (by walk_at "sz") (fun _ _ _ => ?_))
  | ((with_reducible show ∃ m : Int, V.int _ = .int m ∧ RgOk 0 m ∧ _); refine s_listRg (by assumption) (RgOk.of_le (by omega) (by omega) (by omega) (by omega)) (fun _ _ _ => ?_))
  | walk_at "rd1")
local macro_rules | `(tactic| walk_at "sd") => `(tactic| repeat walk_at "sd1")

/-! ### Sep: how promises of the older kind are used -/
section
variable {C : Addr} {K : PySem.W.Frag} {Tb : List (Addr × Str)} {H H' : Hp} {L L' : List R}
theorem Pl.keep {a : Addr} (h : Pl H a) (o : Out Nil H H') : Pl H' a := by
  obtain ⟨w, e, p⟩ := h
  exact ⟨w, o a w (fun z => z) e (Pl.nt p), p⟩
theorem Pl.keepF {F : Addr → Prop} {a : Addr} (h : Pl H a) (n : ¬ F a) (o : Out F H H') : Pl H' a := by
  obtain ⟨w, e, p⟩ := h
  exact ⟨w, o a w n e (Pl.nt p), p⟩
theorem Sep.readNew {q : Addr} {u : HO} (S : Sep C K Tb H L) (nq : New H q) (o : Out Nil H H') (t : LamX.Tabs Tb H') (e : H' q = some u) (pu : Plain u) : Sep C K Tb H' (.cell q u :: L) := by
  obtain ⟨Φ, h1, h⟩ := S.step0
  refine h H' Φ [.cell q u] (fun a => a = q) o t (fun _ z => z) (fun _ z => .inl z) (fun a f => (h1 a f).keep o) ⟨fun a => a = q, ⟨e, pu, fun _ => Iff.rfl⟩, fun _ z => z, trivial⟩ fun a z => ?_
  subst z
  exact ⟨nq, fun f => (h1 _ f).old nq⟩
theorem dr_of_prs {Φ : Addr → Prop} : ∀ {xs : List V} {ps : List (Int × Int)}, Prs H xs ps → (∀ b, V.ref b ∈ xs → Φ b) → DrAll H Φ xs (ps.map pd)
  | [], [], _, _ => .nil
  | [], _ :: _, h, _ => by cases h.1
  | _ :: _, [], h, _ => by cases h.1
  | x :: xs, p :: ps, h, n => by
    obtain ⟨a, h1, h2⟩ := h.2 0 p rfl
    obtain rfl : x = .ref a := Option.some.inj h1
    exact .cons (.tup h2 (n _ List.mem_cons_self) (.cons (.int _) (.cons (.int _) .nil))) (dr_of_prs ⟨Nat.succ.inj h.1, fun i q hq => h.2 (i + 1) q hq⟩ fun b hb => n b (List.mem_cons_of_mem _ hb))
theorem Prs.tup {xs : List V} {ps : List (Int × Int)} (h : Prs H xs ps) {b : Addr} (m : V.ref b ∈ xs) : ∃ ys, H b = some (.tup ys) := by
  obtain ⟨i, hi⟩ := List.getElem?_of_mem m
  obtain ⟨a, p, e1, e2, e3⟩ := h.at hi
  cases e1
  exact ⟨_, e3⟩
theorem Sep.readPrs {q : Addr} {xs : List V} {ps : List (Int × Int)} (S : Sep C K Tb H L) (nq : New H q) (o : Out Nil H H') (t : LamX.Tabs Tb H') (e : H' q = some (.lst xs)) (pr : Prs H' xs ps) (nb : ∀ b, V.ref b ∈ xs → New H b) : Sep C K Tb H' (.cell q (.lst xs) :: .dats xs (ps.map pd) :: L) := by
  obtain ⟨Φ, h1, h⟩ := S.step0
  have dq : ¬ V.ref q ∈ xs := fun m => by
    obtain ⟨ys, e'⟩ := pr.tup m
    rw [e] at e'; cases e'
  refine h H' (fun a => Φ a ∨ V.ref a ∈ xs) [.cell q (.lst xs), .dats xs (ps.map pd)] (fun a => a = q) o t (fun _ z => .inl z) (fun _ z => z.elim .inl fun m => .inr (nb _ m)) (fun a f => ?_) ⟨fun a => a = q, ⟨e, trivial, fun _ => Iff.rfl⟩, fun _ z => z, fun _ => False, ⟨dr_of_prs pr fun b m => .inr m, fun _ z => z⟩, fun _ z => z.elim, trivial⟩ fun a z => ?_
  · rcases f with f | m
    · exact (h1 a f).keep o
    · obtain ⟨ys, e'⟩ := pr.tup m
      exact ⟨_, e', trivial⟩
  · subst z
    exact ⟨nq, fun f => f.elim (fun f => (h1 _ f).old nq) dq⟩
theorem Sep.readSl {q : Addr} {m : SM} {F' : Addr → Prop} (S : Sep C K Tb H L) (o : Out Nil H H') (t : LamX.Tabs Tb H') (s : Sl C H' q m F') (n : ∀ b, F' b → New H b) : Sep C K Tb H' (.sl q m :: L) := by
  obtain ⟨Φ, h1, h⟩ := S.step0
  exact h H' Φ [.sl q m] F' o t (fun _ z => z) (fun _ z => .inl z) (fun a f => (h1 a f).keep o) ⟨F', s, fun _ z => z, trivial⟩ fun a z => ⟨n a z, fun f => (h1 _ f).old (n a z)⟩
theorem Sep.readSrc {p : Addr} (S : Sep C K Tb H L) (n : H p = none) (s : Src H' p) (o : Same H H') : Sep C K Tb H' (.src p :: L) := by
  obtain ⟨Φ, h1, h⟩ := S.step0
  refine h H' Φ [.src p] (fun a => a = p) (.same o) (tabs_same S.tb o) (fun _ z => z) (fun _ z => .inl z) (fun a f => (h1 a f).keep (.same o)) ⟨_, ⟨s, fun _ => Iff.rfl⟩, fun _ z => z, trivial⟩ fun a z => ?_
  subst z
  exact ⟨.of n, fun f => (h1 _ f).old (.of n)⟩
theorem Sep.draw {p : Addr} (S : Sep C K Tb H L) (k : Pick (.src p) L L') (s : Src H' p) (o : Off p H H') : Sep C K Tb H' (.src p :: L') := by
  obtain ⟨Φ, F, f, h1, h2, h3, t, h⟩ := S.step k
  obtain ⟨sr, f⟩ := f
  have ou : Out F H H' := (Out.kp o.kp).mono fun c z => .inl (by subst z; exact (f _).mpr rfl)
  refine h H' Φ [.src p] F ou (tabs_kp t o.kp sr) (fun _ z => z) (fun _ z => .inl z) (fun a q => (h3 a q).keepF (fun z => h1 a z q) ou) ⟨F, ⟨s, f⟩, fun _ z => z, trivial⟩ fun a z => ⟨.inl z, h1 a z⟩
theorem Sep.took {p q : Addr} {m m' : SM} {xs : List V} (S : Sep C K Tb H L) (k : Pick (.sl p m) L L') (h : ∀ F, Sl C H p m F → Sl C H' p m' F ∧ New H q ∧ H' q = some (.tup xs) ∧ Out F H H') (t' : LamX.Tabs Tb H') : Sep C K Tb H' (.tup q xs :: .sl p m' :: L') := by
  obtain ⟨Φ, F, f, h1, h2, h3, t, hh⟩ := S.step k
  obtain ⟨s', nq, e, o⟩ := h F f
  refine hh H' (fun a => Φ a ∨ a = q) [.tup q xs, .sl p m'] F o t' (fun _ z => .inl z) (fun _ z => z.elim .inl fun z => .inr (by subst z; exact nq)) (fun a z => ?_) ⟨fun _ => False, ⟨e, .inr rfl, fun _ z => z⟩, fun _ z => z.elim, F, s', fun a z => ⟨z, fun w => w⟩, trivial⟩ fun a z => ⟨.inl z, fun w => ?_⟩
  · rcases z with z | z
    · exact (h3 a z).keepF (fun w => h1 a w z) o
    · subst z; exact ⟨_, e, trivial⟩
  · rcases w with w | w
    · exact h1 a z w
    · subst w; exact (h2 _ z).old nq
theorem Sep.gave {p : Addr} {m m' : SM} (S : Sep C K Tb H L) (k : Pick (.sl p m) L L') (h : ∀ F, Sl C H p m F → ∃ F', Sl C H' p m' F' ∧ (∀ b, F' b → F b ∨ New H b) ∧ Out F H H') (t' : LamX.Tabs Tb H') : Sep C K Tb H' (.sl p m' :: L') := by
  obtain ⟨Φ, F, f, h1, h2, h3, t, hh⟩ := S.step k
  obtain ⟨F', s', g, o⟩ := h F f
  exact hh H' Φ [.sl p m'] F' o t' (fun _ z => z) (fun _ z => .inl z) (fun a z => (h3 a z).keepF (fun w => h1 a w z) o) ⟨F', s', fun _ z => z, trivial⟩ fun a z => ⟨g a z, fun w => (g a z).elim (fun y => h1 a y w) fun y => (h3 a w).old y⟩
theorem Sep.made {p dx : Addr} {m : SM} {F : Addr → Prop} (S : Sep C K Tb H L) (np : H p = none) (nd : H dx = none) (ne : dx ≠ p) (s : Sl C H' p m F) (g : ∀ b, F b → b = p ∨ New (upd (upd H dx (.own p)) p (.ins C dx [])) b) (o : Out (fun b => b = p) (upd (upd H dx (.own p)) p (.ins C dx [])) H') (t : LamX.Tabs Tb H') : Sep C K Tb H' (.sl p m :: L) := by
  have u8 : Out (fun b => b = p) H (upd (upd H dx (.own p)) p (.ins C dx [])) := ((Out.refl H).fresh nd).upd (.inl rfl)
  have o9 : Out Nil H H' := (u8.trans o fun _ z => .inl z).mono fun b z => .inr (by subst z; exact .of np)
  refine S.readSl o9 t s fun b hb => ?_
  rcases g b hb with z | z
  · subst z; exact .of np
  · exact (u8.new z).elim (fun z => by subst z; exact .of np) fun z => z
theorem tabs_made {p dx : Addr} (t : LamX.Tabs Tb H) (np : H p = none) (nd : H dx = none) (ne : dx ≠ p) : LamX.Tabs Tb (upd (upd H dx (.own p)) p (.ins C dx [])) := tabs_new (tabs_new t nd) (by rw [upd_ne ne.symm]; exact np)
/-- the law's own call -/
theorem Sep.start {a : Addr} {ns : List Int} (t : LamX.Tabs Tb H) (h : SqL K H a (ns.map V.int)) : Sep C K Tb H [.ro a (ns.map V.int)] := by
  refine ⟨⟨fun _ => False, fun _ z => z.elim, ?_⟩, t⟩
  rcases h with h | h
  · exact ⟨fun b => b = a, .inl ⟨h, fun _ => Iff.rfl⟩, fun _ _ z => z, trivial⟩
  · exact ⟨fun _ => False, .inr ⟨fun H => .inr h, fun _ z => z⟩, fun _ z => z.elim, trivial⟩
end

/-! ### a == b, a != b by a class's own __eq__ -/
section
open PySem PySem.W PyProof.Rows
theorem ifBound_B {prog : Program} {w : World} {A : Around} {E : Value → Shared → Prop} {s : Shared} {K : PySem.W.Frag} {x C : Addr} {ox : Obj} {od : Option Obj} {name : Str} {id : String} {args : List Value} {Q : Option Value → Shared → Prop} (X : K.In s.heap) (I : InstAt s.heap x ox C od)
    (hs : findIn K (.ref C) name = some (some (.builtin id))) (hb : ∀ self, bindSpecial (.builtin id) self = pure (.builtin id, [self])) (h : wpAny (model prog w) A (call (.builtin id) (.ref x :: args)) (fun v => Q (some v)) E s) : wpAny (model prog w) A (callSpecialIfBound? (.ref x) name args) Q E s := by
  simp only [callSpecialIfBound?, bindSpecialIfBound?]
  refine wpAny_holding (wpAny_bind (wpAny_bind (wpAny_bind (I.type.here ((looks_findIn X hs).here ?_)))))
  refine wpAny_bind (wpAny_askSetting (wpAny_ite ?_))
  have fin : wpAny (model prog w) A (call (.builtin id) ([.ref x] ++ args) >>= fun v => pure (some v)) Q E s := wpAny_bind (wpAny_mono h (fun v s' h' => wpAny_pure h') fun _ _ h' => h')
  split
  · exact wpAny_bind ((Looks.of_pure (hb _)).here (wpAny_pure (by exact fin)))
  · exact wpAny_tryCatch (wpAny_bind ((Looks.of_pure (hb _)).here (wpAny_pure (by exact fin))))
theorem ne_bind (self : Value) : bindSpecial (.builtin "object.__ne__") self = pure (.builtin "object.__ne__", [self]) := by kernel_rfl
theorem ne_K {prog : Program} {w : World} {A : Around} {E : Value → Shared → Prop} {s : Shared} {K : PySem.W.Frag} {x C L f : Addr} {h₀ : Heap} {m : Str → Option Value} {ox : Obj} {od : Option Obj} {b tb : Value} {Q : Value → Shared → Prop} (hu : A.units + 1 < cLine) (Fh : Fr h₀ L s.heap m) (X₀ : K.In h₀) (I : InstAt s.heap x ox C od) (hb : Looks (model prog w) s.heap (typeOf b) tb) (hn : notFirst K C tb = true)
    (hp : plainOver K C = true) (hne : findIn K (.ref C) "__ne__" = some (some (.builtin "object.__ne__"))) (hs : findIn K (.ref C) "__eq__" = some (some (.ref f))) (hf : isFn K (.ref f) = true)
    (h : wpAny (model prog w) A.in1 (call (.ref f) [.ref x, b]) (fun v s' => ∃ r, v = .bool r ∧ Q (.bool (!r)) s') E s) : wpAny (model prog w) A (richCompare .NotEq (.ref x) b) Q E s := by
  have X := X₀.keeps Fh.keep
  obtain ⟨cd, hc, ho⟩ := any_some hp
  have nem : cd.mro.isEmpty = false := by cases q : cd.mro with | nil => rw [q] at ho; cases ho | cons _ _ => rfl
  have sub : Looks (model prog w) s.heap (isInstance (.ref x) (.type "object")) true := I.type.andThen (looks_mroIn X (by unfold mroIn; rw [hc, Option.bind_some, if_neg (by rw [nem]; decide), only_has ho]))
  have one : wpAny (model prog w) A (tryCompare (.ref x) "__ne__" b) (fun r s' => ∃ v, r = some v ∧ Q v s') E s := by
    unfold tryCompare
    refine wpAny_bind (ifBound_B X I hne ne_bind ?_)
    refine wpAny_call (codeAny_call_builtin PySem.F.cmp_object.ne.plain PySem.F.cmpEntry_ne (check_slot PySem.F.cmpKind_ne PySem.F.cmpSplit_ne sub (PySem.F.cmpArgs_ne _ _) ?_))
    unfold Builtin.«object.__ne__»
    have hv : wpAny (model prog w) A.in1 (callSpecialIfBound? (.ref x) "__eq__" [b]) (fun r s' => ∃ k, r = some (.bool k) ∧ Q (.bool (!k)) s') E s := ifBound_K X I hs hf (wpAny_mono h (fun v s' ⟨r, e, q⟩ => ⟨r, by rw [e], q⟩) fun _ _ e => e)
    have hv2 : ∀ (Q' : Option Value → Shared → Prop) (E' : Value → Shared → Prop), (∀ k s', Q (.bool (!k)) s' → Q' (some (.bool k)) s') → (∀ e s', E e s' → E' e s') → wpAny (model prog w) A.in1 (callSpecialIfBound? (.ref x) "__eq__" [b]) Q' E' s := fun Q' E' h1 h2 => wpAny_mono hv (fun r s' ⟨k, e, q⟩ => by rw [e]; exact h1 k s' q) h2
    repeat (first | with_reducible refine wpAny_cRoomFor hu ?_ | with_reducible refine hv2 _ _ (fun k s' q => ?_) (fun e s' q => ?_) | wp_step)
    · exact ⟨_, rfl, q⟩
    · exact q
  have hu0 : A.units < cLine := Nat.lt_of_succ_lt hu
  unfold richCompare
  simp only [oneThing_ref, PySem.cmpInfo_NotEq]
  refine wpAny_holding (wpAny_bind (wpAny_cRoomFor hu0 ?_))
  refine wpAny_bind (I.type.here (wpAny_bind (hb.here ?_)))
  split
  · rename_i q
    have e : subIn K tb (.ref C) = some false := by
      rcases Bool.or_eq_true_iff.mp hn with e | e
      · rw [beq_iff_eq.mp e] at q; simp at q
      · exact beq_iff_eq.mp e
    refine wpAny_bind ((looks_subIn X e).here ?_)
    simp only [Bool.false_eq_true, if_false]
    refine wpAny_bind (wpAny_mono one (fun r s' z => ?_) fun _ _ e => e)
    obtain ⟨v, rfl, hq⟩ := z
    exact wpAny_pure hq
  · refine wpAny_bind (wpAny_pure ?_)
    simp only [Bool.false_eq_true, if_false]
    refine wpAny_bind (wpAny_mono one (fun r s' z => ?_) fun _ _ e => e)
    obtain ⟨v, rfl, hq⟩ := z
    exact wpAny_pure hq
end
def rEqOwn (C : Addr) (sp : Sp) (E : XK) (neg : Bool) : R2 := fun x y H Q => ∃ a b dx dy fs gs, x = .ref a ∧ y = .ref b ∧ H a = some (.ins C dx fs) ∧ H b = some (.ins C dy gs) ∧ sp [.ref a, .ref b] H (fun v H' => ∃ r, v = .bl r ∧ Q (.bl (if neg then !r else r)) H') E
section
variable {X : Cx} {CX : CXT} {n : Nat} {C f : Addr} {fd : FuncData} {ps : List Str} {sp : Sp} {E : XK} {K : PySem.W.Frag}
theorem op_eqOwn (F : FnOk X.prog X.w X.K X.mg X.base CX n f fd ps sp) (hr : Room n X.A) (mt : Meth X.K C "__eq__" f) (hb : Binds X.K fd ps []) (hx : Passes CX X E) : OpR X (compareOp .Eq) (rEqOwn C sp E false) := by
  intro pins s σ H x y v u Q I rx ry h
  obtain ⟨a, b, dx, dy, fs, gs, rfl, rfl, ha, hb', hsp⟩ := h
  cases rx
  cases ry
  obtain ⟨mA, J, _⟩ := ins_get I.hok ha
  obtain ⟨mB, J', _⟩ := ins_get I.hok hb'
  obtain ⟨od, J, _⟩ := J.look
  obtain ⟨od', J', _⟩ := J'.look
  obtain ⟨m, hF⟩ := I.fr
  refine PySem.W.cmp_K (op := .Eq) (tb := .ref C) hr.units0 hF I.ok.mod.kin J J'.type (by simp [PySem.W.notFirst]) mt.at_ mt.fn ?_
  refine wpAny_mono (run_at F hr rfl hb hx I (.cons (show RelV (.ref a) (.ref a) from rfl) (.cons (show RelV (.ref b) (.ref b) from rfl) .nil)) hsp) (fun r s' hq => ?_) fun _ _ e => e
  obtain ⟨z, H', I', rz, k, rfl, q⟩ := hq
  obtain rfl : r = Value.bool k := rz
  exact ⟨.bl k, H', I', rfl, q⟩
theorem op_neOwn (F : FnOk X.prog X.w X.K X.mg X.base CX n f fd ps sp) (hr : Room (n + 1) X.A) (cl : Cls X.K C) (hne : PySem.W.findIn X.K (.ref C) "__ne__" = some (some (.builtin "object.__ne__"))) (mt : Meth X.K C "__eq__" f) (hb : Binds X.K fd ps []) (hx : Passes CX X E) : OpR X (compareOp .NotEq) (rEqOwn C sp E true) := by
  intro pins s σ H x y v u Q I rx ry h
  obtain ⟨a, b, dx, dy, fs, gs, rfl, rfl, ha, hb', hsp⟩ := h
  cases rx
  cases ry
  obtain ⟨mA, J, _⟩ := ins_get I.hok ha
  obtain ⟨mB, J', _⟩ := ins_get I.hok hb'
  obtain ⟨od, J, _⟩ := J.look
  obtain ⟨od', J', _⟩ := J'.look
  obtain ⟨m, hF⟩ := I.fr
  refine ne_K (tb := .ref C) (by have := hr.un; omega) hF I.ok.mod.kin J J'.type (by simp [PySem.W.notFirst]) cl.po hne mt.at_ mt.fn ?_
  refine wpAny_mono (run_at F hr.in1 rfl hb hx I (.cons (show RelV (.ref a) (.ref a) from rfl) (.cons (show RelV (.ref b) (.ref b) from rfl) .nil)) hsp) (fun r s' hq => ?_) fun _ _ e => e
  obtain ⟨z, H', I', rz, k, rfl, q⟩ := hq
  obtain rfl : r = Value.bool k := rz
  exact ⟨k, rfl, .bl (!k), H', I', rfl, q⟩
/-- how == of two values answers -/
inductive VEq (K : PySem.W.Frag) (H : Hp) : V → V → Bool → Prop
  | same {x : V} : flatB x = true → VEq K H x x true
  | ref (a : Addr) : VEq K H (.ref a) (.ref a) true
  | dp {x y : V} {d e : PyData} : Dp K H x d → Dp K H y e → SeqAt.shaped d = true → SeqAt.shaped e = true → VEq K H x y (PyData.eqv d e)
inductive VEqs (K : PySem.W.Frag) (H : Hp) : List V → List V → Bool → Prop
  | nil : VEqs K H [] [] true
  | cons {x y : V} {xs ys : List V} {a b : Bool} : VEq K H x y a → VEqs K H xs ys b → VEqs K H (x :: xs) (y :: ys) (a && b)
end
structure InsTy (K : PySem.W.Frag) (C : Addr) : Prop where
  ha : PySem.W.findIn K (.ref C) "__class__" = some (some (.builtin "object.__class__"))
  hn : PySem.W.specialIn K (.builtin "object.__class__") "__get__" = some (some (.builtin "getset_descriptor.__get__"))
  htk : PySem.W.takesIn K (.builtin "object.__class__") = some true
  hm : PySem.W.mroIn K C (.type "object") = some true
theorem InsTy.ty {K : PySem.W.Frag} {C : Addr} {H : Hp} {a dx : Addr} {fs : List (Str × V)} (t : InsTy K C) (c : Cls K C) (e : H a = some (.ins C dx fs)) : TyX K H (.ref a) (.ref C) := .base (.ins e c t.ha t.hn t.htk t.hm)
theorem r_isiOwn {K : PySem.W.Frag} {C : Addr} {H : Hp} {Q : VK} {a dx : Addr} {fs : List (Str × V)} (t : InsTy K C) (c : Cls K C) (e : H a = some (.ins C dx fs)) (h : Q (.bl true) H) : rIsi K [.ref a, .ref C] H Q :=
  ⟨_, _, .ref C, .ref C, true, rfl, .own C, t.ty c e, by simp [PySem.W.kitOne], h⟩
section
variable {X : Cx} {K : PySem.W.Frag}
theorem veq_run {pins : List (Addr × Obj)} {σ : St} {H : Hp} {s : Shared} (I : Inv X pins σ H s) {A : Around} (hu : A.units + 64 < cLine) {x y : V} {r : Bool} (h : VEq X.K H x y r) {u v : Value} (rx : RelV x u) (ry : RelV y v) : SeqAt.EqP X.prog X.w A s u v r := by
  cases h with
  | same f => exact (eqAt_same rx ry f).eqP
  | ref a =>
    cases (show u = Value.ref a from rx)
    cases (show v = Value.ref a from ry)
    exact (SeqAt.EqAt.same _).eqP
  | dp d e sd se =>
    obtain ⟨as, r1⟩ := Dp.reads I _ x u d rx
    obtain ⟨bs, r2⟩ := Dp.reads I _ y v e ry
    exact (SeqAt.eqAt_reads _ _ A s _ _ as bs r1 r2 (SeqAt.canLay_of_shaped sd) (SeqAt.canLay_of_shaped se) (SeqAt.room_of_shaped sd hu)).eqP
/-- the pairs of one dict looked up in another -/
inductive HitV (K : PySem.W.Frag) (H : Hp) (ls : List (Key × V)) : List (Key × V) → Bool → Prop
  | nil : HitV K H ls [] true
  | miss {k : Key} {v : V} {r : List (Key × V)} : valV ls k = none → HitV K H ls ((k, v) :: r) false
  | hit {k : Key} {v y : V} {r : List (Key × V)} {a b : Bool} : valV ls k = some y → VEq K H v y a → HitV K H ls r b → HitV K H ls ((k, v) :: r) (a && b)
theorem hit_run {pins : List (Addr × Obj)} {σ : St} {H : Hp} {s : Shared} (I : Inv X pins σ H s) {A : Around} (hu : A.units + 64 < cLine) {ls : List (Key × V)} {vb : List (Key × Value)} (rb : KV ls vb) {ks : List (Key × V)} {r : Bool} (h : HitV X.K H ls ks r) :
    ∀ {va : List (Key × Value)}, KV ks va → PySem.W.KeqHitsP X.prog X.w A s vb va r := by
  induction h with
  | nil => intro va ra; cases ra; exact .nil
  | @miss k v r e =>
    intro va ra
    cases ra with
    | @cons p q ps qs h t =>
      obtain ⟨h1, h2⟩ := h
      obtain ⟨k', v'⟩ := q
      obtain rfl : k = k' := h1
      have rr : RelO none (valueAt vb k) := by rw [← e]; exact rb.val k
      exact .miss (by
        cases e2 : valueAt vb k with
        | none => rfl
        | some y => rw [e2] at rr; cases rr)
  | @hit k v y r a b e f g ih =>
    intro va ra
    cases ra with
    | @cons p q ps qs h t =>
      obtain ⟨h1, h2⟩ := h
      obtain ⟨k', v'⟩ := q
      obtain rfl : k = k' := h1
      have rr : RelO (some y) (valueAt vb k) := by rw [← e]; exact rb.val k
      obtain ⟨z, hz, rz⟩ := rr.some_of
      exact .hit hz (veq_run I hu f h2 rz) (ih t)
/-- == of two dicts -/
def rEqDk (K : PySem.W.Frag) : R2 := fun x y H Q => ∃ a b ks ls r, x = .ref a ∧ y = .ref b ∧ H a = some (.dK ks) ∧ H b = some (.dK ls) ∧ (ks.length = ls.length → HitV K H ls ks r) ∧ Q (.bl (ks.length == ls.length && r)) H
theorem op_eqDk (hu : X.A.units + 65 < cLine) : OpR X (compareOp .Eq) (rEqDk X.K) := by
  intro pins s σ H x y v u Q I rx ry h
  obtain ⟨a, b, ks, ls, r, rfl, rfl, ha, hb, hh, q⟩ := h
  cases rx
  cases ry
  obtain ⟨_, ya, va, ra, da⟩ := (show ObjOk X.prog X.w H s.heap a (.dK ks) from I.hok a _ ha)
  obtain ⟨_, yb, vb, rb, db⟩ := (show ObjOk X.prog X.w H s.heap b (.dK ls) from I.hok b _ hb)
  have e1 : ks.length = va.length := ra.length
  have e2 : ls.length = vb.length := rb.length
  refine PySem.W.rcP_dicts (knd := mixKind X.prog X.w) (r := r) ya yb da db (by omega) (fun e => hit_run I (by show X.A.units + 1 + 64 < cLine; omega) rb (hh (by omega)) ra) X.xe _ ⟨.bl _, H, I, rfl, ?_⟩
  rw [← e1, ← e2]
  exact q
theorem eqDk (hu : X.A.units + 65 < cLine) (h : X.K = K := by rfl) : OpR X (compareOp .Eq) (rEqDk K) := h ▸ op_eqDk hu
theorem VEqs.len {H : Hp} {xs ys : List V} {r : Bool} (h : VEqs K H xs ys r) : xs.length = ys.length := by
  induction h with
  | nil => rfl
  | cons _ _ ih => simp [ih]
theorem valV_drop {l : List (Key × V)} {k : Key} {r : List (Key × V)} (h : valV l k = none) : valV (l ++ r) k = valV r k := by
  induction l with
  | nil => rfl
  | cons p l ih =>
    obtain ⟨k', v⟩ := p
    by_cases e : k' = k
    · rw [e, valV_pos rfl] at h; cases h
    · rw [valV_neg e] at h
      exact (valV_neg e).trans (ih h)
end

/-! ### loops, joins; deeds -/
def tIfJ (c : TT) (t u : TS) : TS := tIfS c t u
theorem ifJ {X : Cx} {st : Stmt} {c : TT} {t u : TS} (h : PS X st (tIfS c t u)) : PS X st (tIfJ c t u) := h
section
variable {C : Addr} {K : PySem.W.Frag} {Tb : List (Addr × Str)} {D : Ends} {σ : St} {H : Hp} {L : List R}
theorem r_ifJ {tt : TT} {t u : TS} (h : tt σ H fun b H1 => if b = true then t D σ H1 else u D σ H1) : tIfJ tt t u D σ H := h
theorem r_join (PA PB : Hp → Prop) {tt : TT} {t u : TS} (h : ∀ A B : Hp → Prop, (∀ H1, PA H1 → A H1) → (∀ H1, PB H1 → B H1) → tt σ H fun b H1 => if b = true then A H1 else B H1) (hA : ∀ H1, PA H1 → t D σ H1) (hB : ∀ H1, PB H1 → u D σ H1) : tIfJ tt t u D σ H := h _ _ hA hB
theorem s_while {c : TT} {tb : TS} (Pv : Nat → St → Hp → Prop) (h0 : ∃ m, Pv m σ H) (hs : ∀ m σ H, Pv m σ H → c σ H fun b H1 => if b = true then ∃ N : St → Hp → Prop, (∀ σ' H', N σ' H' → ∃ m', m' < m ∧ Pv m' σ' H') ∧ tb { D with nx := N, ct := N, bk := D.nx } σ H1 else D.nx σ H1) : tWhile c tb D σ H := ⟨Pv, h0, hs⟩
theorem w_turn {m : Nat} {tb : TS} {Pv : Nat → St → Hp → Prop} (h : tb { D with nx := fun σ' H' => ∃ m', m' < m ∧ Pv m' σ' H', ct := fun σ' H' => ∃ m', m' < m ∧ Pv m' σ' H', bk := D.nx } σ H) : ∃ N : St → Hp → Prop, (∀ σ' H', N σ' H' → ∃ m', m' < m ∧ Pv m' σ' H') ∧ tb { D with nx := N, ct := N, bk := D.nx } σ H := ⟨_, fun _ _ z => z, h⟩
end
/-- a deed: a take, or a give by age -/
abbrev Deed := Option Nat
def dD : Deed → PyData
  | none => .str "take"
  | some k => .tuple [.str "give", .int (k : Int)]
theorem dD_take (x : Deed) : PyData.eqv (dD x) (.str "take") = decide (x = none) := by
  cases x with
  | none => show (("take" : Str) == ("take" : Str)) = _; simp
  | some k => rfl
theorem dD_shaped (x : Deed) : SeqAt.shaped (dD x) = true := by
  have h1 : PyData.strOk "take" = true := by decide +kernel
  have h2 : PyData.strOk "give" = true := by decide +kernel
  cases x <;> simp [dD, SeqAt.shaped, PyData.canLay0, PyData.canLayAll0, PyData.depth, PyData.depthAll, h1, h2]
theorem take_shaped : SeqAt.shaped (.str "take") = true := dD_shaped none
def goD (lim : Nat) : Nat → List Deed → Option Nat
  | a, [] => some a
  | a, none :: r => if a < lim then goD lim (a + 1) r else none
  | a, some k :: r => if k < a then goD lim (a - 1) r else none
theorem goD_app (lim : Nat) : ∀ (ds es : List Deed) (a : Nat), goD lim a (ds ++ es) = (goD lim a ds).bind fun b => goD lim b es
  | [], es, a => rfl
  | none :: r, es, a => by
    show (if a < lim then goD lim (a + 1) (r ++ es) else none) = (if a < lim then goD lim (a + 1) r else none).bind _
    split
    · exact goD_app lim r es (a + 1)
    · rfl
  | some k :: r, es, a => by
    show (if k < a then goD lim (a - 1) (r ++ es) else none) = (if k < a then goD lim (a - 1) r else none).bind _
    split
    · exact goD_app lim r es (a - 1)
    · rfl
theorem goD_take {lim a b : Nat} {ds : List Deed} (h : goD lim a ds = some b) (hb : b < lim) : goD lim a (ds ++ [none]) = some (b + 1) := by
  rw [goD_app, h]; show (if b < lim then some (b + 1) else none) = _; rw [if_pos hb]
theorem goD_give {lim a b k : Nat} {ds : List Deed} (h : goD lim a ds = some b) (hb : k < b) : goD lim a (ds ++ [some k]) = some (b - 1) := by
  rw [goD_app, h]; show (if k < b then some (b - 1) else none) = _; rw [if_pos hb]
def exD (vals : List V) : SM → Nat → List Deed → SM
  | m, _, [] => m
  | m, j, none :: r => exD vals (m.take (vals.getD j .non)) (j + 1) r
  | m, j, some k :: r => exD vals (m.give (m.ages.getD k 0)) j r
def exH : SM → List Deed → List (Int × Int)
  | _, [] => []
  | m, none :: r => ((m.slot : Int), (m.take .non).gen m.slot) :: exH (m.take .non) r
  | m, some k :: r => exH (m.give (m.ages.getD k 0)) r
section
variable {C : Addr} {K : PySem.W.Frag} {Tb : List (Addr × Str)} {H : Hp} {L : List R}
theorem Sep.deed {v : V} {k : Nat} (S : Sep C K Tb H L) (h : Has true L v (dD (some k))) : ∃ t, v = .ref t ∧ Sep C K Tb H (.tup t [.str "give", .int (k : Int)] :: L) := by
  obtain ⟨⟨Φ, h1, h2⟩, t⟩ := S
  have g : Dr H Φ v (.tuple [.str "give", .int (k : Int)]) := Sep.dr_ h2 h
  cases g with
  | @tup p xs _ e f g =>
    cases g with
    | cons g1 g =>
      cases g1
      cases g with
      | cons g2 g =>
        cases g2
        cases g
        exact ⟨p, rfl, ⟨⟨Φ, h1, fun _ => False, ⟨e, f, fun _ z => z⟩, fun _ z => z.elim, h2.mono fun a u => ⟨u, fun z => z⟩⟩, t⟩⟩
end
theorem SM.live_at {m : SM} {k : Nat} (h : k < m.live.length) : ∃ s v, m.live[k]? = some (s, v) ∧ (s, v) ∈ m.live ∧ m.ages[k]? = some s ∧ m.ages.getD k 0 = s ∧ m.liveH[k]? = some ((s : Int), m.gen s) := by
  obtain ⟨x, hx⟩ : ∃ x, m.live[k]? = some x := ⟨_, List.getElem?_eq_getElem h⟩
  obtain ⟨s, v⟩ := x
  have e1 : m.ages[k]? = some s := by rw [SM.ages, List.getElem?_map, hx]; rfl
  refine ⟨s, v, hx, List.mem_of_getElem? hx, e1, ?_, ?_⟩
  · rw [List.getD_eq_getElem?_getD, e1]; rfl
  · rw [SM.liveH, List.getElem?_map, e1]; rfl
theorem SM.liveH_len (m : SM) : m.liveH.length = m.live.length := by simp [SM.liveH, SM.ages]
theorem SM.give_len {m : SM} (h : m.Ok) {s : Nat} (hs : s ∈ m.ages) : (m.give s).live.length = m.live.length - 1 := by
  have h1 := congrArg List.length (SM.ages_giveE h s)
  rw [List.length_erase_of_mem hs] at h1
  simpa [SM.ages] using h1
theorem SM.take_len (m : SM) (v : V) : (m.take v).live.length = m.live.length + 1 := by simp [SM.take]
theorem SM.mem_ages {m : SM} {s : Nat} {v : V} (h : (s, v) ∈ m.live) : s ∈ m.ages := List.mem_map.mpr ⟨_, h, rfl⟩
/-- values of a map -/
def SM.vals (m : SM) : List V := m.live.map (·.2)
theorem vals_take {m : SM} {v : V} {P : V → Prop} (h : ∀ u ∈ m.vals, P u) (hv : P v) : ∀ u ∈ (m.take v).vals, P u := fun u hu => by
  have : u ∈ m.vals ++ [v] := by simpa [SM.vals, SM.take] using hu
  rcases List.mem_append.mp this with z | z
  · exact h u z
  · rw [List.mem_singleton.mp z]; exact hv
theorem vals_give {m : SM} {s : Nat} {P : V → Prop} (h : ∀ u ∈ m.vals, P u) : ∀ u ∈ (m.give s).vals, P u := fun u hu => by
  obtain ⟨x, h1, h2⟩ := List.mem_map.mp hu
  exact h u (List.mem_map.mpr ⟨x, (List.mem_filter.mp h1).1, h2⟩)

theorem DrAll.erase {H : Hp} {Φ : Addr → Prop} : ∀ {vs : List V} {ds : List PyData} (j : Nat), DrAll H Φ vs ds → DrAll H Φ (vs.eraseIdx j) (ds.eraseIdx j)
  | _, _, _, .nil => .nil
  | _, _, 0, .cons _ h2 => h2
  | _, _, j + 1, .cons h1 h2 => .cons h1 (h2.erase j)
theorem DrAll.take {H : Hp} {Φ : Addr → Prop} : ∀ {vs : List V} {ds : List PyData} (j : Nat), DrAll H Φ vs ds → DrAll H Φ (vs.take j) (ds.take j)
  | _, _, 0, _ => by simpa using DrAll.nil
  | _, _, _ + 1, .nil => .nil
  | _, _, j + 1, .cons h1 h2 => .cons h1 (h2.take j)
theorem DrAll.drop {H : Hp} {Φ : Addr → Prop} : ∀ {vs : List V} {ds : List PyData} (j : Nat), DrAll H Φ vs ds → DrAll H Φ (vs.drop j) (ds.drop j)
  | _, _, 0, h => h
  | _, _, _ + 1, .nil => .nil
  | _, _, j + 1, .cons h1 h2 => h2.drop j
section
variable {C : Addr} {K : PySem.W.Frag} {Tb : List (Addr × Str)} {H : Hp} {L : List R} {vs : List V} {ds : List PyData}
theorem Sep.datsE (S : Sep C K Tb H L) (h : HasAll true L vs ds) (j : Nat) : Sep C K Tb H (.dats (vs.eraseIdx j) (ds.eraseIdx j) :: L) := S.fact (Q := fun _ => True) _ fun _ _ s => ⟨(Sep.drs_ s h).erase j, fun _ z => z⟩
theorem Sep.datsT (S : Sep C K Tb H L) (h : HasAll true L vs ds) (j : Nat) : Sep C K Tb H (.dats (vs.take j) (ds.take j) :: L) := S.fact (Q := fun _ => True) _ fun _ _ s => ⟨(Sep.drs_ s h).take j, fun _ z => z⟩
theorem Sep.datsD (S : Sep C K Tb H L) (h : HasAll true L vs ds) (j : Nat) : Sep C K Tb H (.dats (vs.drop j) (ds.drop j) :: L) := S.fact (Q := fun _ => True) _ fun _ _ s => ⟨(Sep.drs_ s h).drop j, fun _ z => z⟩
theorem Sep.ints {ns : List Int} (S : Sep C K Tb H L) (h : HasAll true L vs (ns.map PyData.int)) : vs = ns.map V.int := by
  obtain ⟨⟨Φ, _, h2⟩, _⟩ := S
  have g := Sep.drs_ h2 h
  clear h h2
  induction ns generalizing vs with
  | nil => cases g; rfl
  | cons a r ih =>
    cases g with
    | cons g1 g2 => cases g1; rw [ih g2]; rfl
end
/-- data that == can read -/
def Okd (d : PyData) : Prop := d.canLay0 = true ∧ d.depth ≤ 60
theorem okd_all {ds : List PyData} (h : ∀ d ∈ ds, Okd d) : PyData.canLayAll0 ds = true ∧ PyData.depthAll ds ≤ 60 := by
  induction ds with
  | nil => exact ⟨rfl, by simp [PyData.depthAll]⟩
  | cons a r ih =>
    obtain ⟨h1, h2⟩ := h a List.mem_cons_self
    obtain ⟨h3, h4⟩ := ih fun d hd => h d (List.mem_cons_of_mem _ hd)
    exact ⟨by simp [PyData.canLayAll0, h1, h3], by simp only [PyData.depthAll]; omega⟩
theorem okd_list {ds : List PyData} (h : ∀ d ∈ ds, Okd d) : SeqAt.shaped (.list ds) = true := by
  obtain ⟨h1, h2⟩ := okd_all h
  have h3 : PyData.depth (.list ds) ≤ 64 := by simp only [PyData.depth]; omega
  simp [SeqAt.shaped, PyData.canLay0, h1, h3]
theorem okd_tup {ds : List PyData} (h : ∀ d ∈ ds, Okd d) : SeqAt.shaped (.tuple ds) = true := by
  obtain ⟨h1, h2⟩ := okd_all h
  have h3 : PyData.depth (.tuple ds) ≤ 64 := by simp only [PyData.depth]; omega
  simp [SeqAt.shaped, PyData.canLay0, h1, h3]
theorem okd_int (i : Int) : Okd (.int i) := ⟨rfl, by simp [PyData.depth]⟩
theorem okd_pd (p : Int × Int) : Okd (pd p) := ⟨by simp [pd, PyData.canLay0, PyData.canLayAll0], by simp [pd, PyData.depth, PyData.depthAll]⟩
theorem okd_dD (x : Deed) : Okd (dD x) := by
  have h1 : PyData.strOk "take" = true := by decide +kernel
  have h2 : PyData.strOk "give" = true := by decide +kernel
  cases x <;> simp [Okd, dD, PyData.canLay0, PyData.canLayAll0, PyData.depth, PyData.depthAll, h1, h2]
theorem eqv_nil (ds : List PyData) : PyData.eqv (.list ds) (.list []) = decide (ds = []) := by
  cases ds with
  | nil => rfl
  | cons a r => rfl
theorem rl_mem {v : V} (h : v ∈ [V.str "last", .str "first", .str "lowest", .str "least"]) : ∃ r : Rl, v = .str r.s := by
  simp only [List.mem_cons, List.not_mem_nil, or_false] at h
  rcases h with rfl | rfl | rfl | rfl
  · exact ⟨.last, rfl⟩
  · exact ⟨.first, rfl⟩
  · exact ⟨.lowest, rfl⟩
  · exact ⟨.least, rfl⟩
theorem lim_mem {v : V} {n k : Nat} (hk : k < n) (h : v ∈ [V.int 1, .int (1 + ((n - 1 : Nat) : Int)), .int (1 + (k : Int))]) : ∃ l : Nat, v = .int l ∧ 1 ≤ l ∧ l ≤ n := by
  simp only [List.mem_cons, List.not_mem_nil, or_false] at h
  rcases h with rfl | rfl | rfl
  · exact ⟨1, rfl, by omega, by omega⟩
  · exact ⟨n, by congr 1; omega, by omega, by omega⟩
  · exact ⟨k + 1, by congr 1; omega, by omega, by omega⟩
theorem inV_iv (s : Nat) (l : List Nat) : inV (.int (s : Int)) (iv l) = decide (s ∈ l) := by
  unfold iv
  rw [inV_ints]
  by_cases h : s ∈ l
  · rw [decide_eq_true h, decide_eq_true (mem_ci.mpr h)]
  · rw [decide_eq_false h, decide_eq_false fun z => h (mem_ci.mp z)]
theorem s_inN {C : Addr} {K : PySem.W.Frag} {Tb : List (Addr × Str)} {H : Hp} {L : List R} {Q : VK} {q : Addr} {l : List Nat} {s : Nat} (S : Sep C K Tb H L) (h : R.cell q (.lst (iv l)) ∈ L) (k : Q (.bl (decide (s ∈ l))) H) : rIn K false (.int (s : Int)) (.ref q) H Q :=
  r_inL (SqL.of (S.get h)) rfl (flat_ints _) (by rw [inV_iv]; exact k)
theorem s_ninN {C : Addr} {K : PySem.W.Frag} {Tb : List (Addr × Str)} {H : Hp} {L : List R} {Q : VK} {q : Addr} {l : List Nat} {s : Nat} (S : Sep C K Tb H L) (h : R.cell q (.lst (iv l)) ∈ L) (k : Q (.bl (!decide (s ∈ l))) H) : rIn K true (.int (s : Int)) (.ref q) H Q :=
  r_ninL (SqL.of (S.get h)) rfl (flat_ints _) (by rw [inV_iv]; exact k)

/-! ### defs that call repr: nothing is being shown around them -/
structure FnG (P : Program) (w : World) (K : PySem.W.Frag) (mg : Str → Option Value) (base : Heap) (CX : CXT) (k : Nat) (f : Addr) (fd : FuncData) (ps : List Str) (sp : Sp) : Prop where
  len : ∀ vs H Q E, sp vs H Q E → vs.length = ps.length
  go : ∀ (A : Around) (outer : List Env) (s : Shared) (H : Hp) (args : PySem.Args) (us : List Value) (vs : List V) (Q : VK) (E : XK), A.guards = some [] → Room k A → Env0 P w K mg base A outer s H → BindsTo s fd args (ps.zip us) → Vals vs us → sp vs H Q E → codeAny (model P w) A (.call (.ref f) args) (CR CX outer P w H s Q E) s
section
variable {P : Program} {w : World} {K : PySem.W.Frag} {mg : Str → Option Value} {base : Heap} {CX : CXT} {k : Nat} {f : Addr} {fd : FuncData} {ps : List Str} {sp : Sp}
theorem _root_.L2.FnOk.g (F : FnOk P w K mg base CX k f fd ps sp) : FnG P w K mg base CX k f fd ps sp := ⟨F.len, fun A o s H a us vs Q E _ => F.run A o s H a us vs Q E⟩
theorem fnG_of {qual : Str} {oc kV doc pm cdv ct : Value} {an od : Option Addr} {osl : Array (Option Value)} {x : Str} {st : Stmt} {N : List Str} (lk : K.lookup f = some ⟨oc, od, .func (PySem.W.fnOf x qual (defArgs st) (defBody st) (defScope st) .none kV doc pm an cdv ct), osl⟩)
    (hc : PySem.W.codeIn K cdv qual = true) (S : FnScope N ps (defScope st)) (len : ∀ vs H Q E, sp vs H Q E → vs.length = ps.length)
    (body : ∀ (A : Around) (outer : List Env) (s : Shared) (H : Hp) (vs : List V) (Q : VK) (E : XK), (A.deeper (PyProof.Rows.envOfC qual (defScope st) s.heap.objs.size f cdv)).guards = some [] → Room k (A.deeper (PyProof.Rows.envOfC qual (defScope st) s.heap.objs.size f cdv)) → sp vs H Q E →
      ∃ t, PSs (cxOf CX P w K mg base N qual (defScope st) f cdv A outer s H E) (defBody st) t ∧ t { nx := fun _ H' => Q .non H', rt := Q } (start N vs) H) :
    FnG P w K mg base CX (k + 1) f (PySem.W.fnOf x qual (defArgs st) (defBody st) (defScope st) .none kV doc pm an cdv ct) ps sp := by
  constructor
  · exact len
  intro A outer s H args us vs Q E gd room env0 bind rel want
  have old : ∀ b o, base.get? b = some o → s.heap.get? b = some o := fun b o e => (env0.bs b o e).1
  have inK : K.In s.heap := env0.mod.kin.keeps old
  have kinds : ∀ y ∈ ps.zip us, (defScope st).names.lookup y.1 = some .local ∨ ((defScope st).names.lookup y.1 = some .cell ∧ ((PySem.cellsFrom (s.heap.objs.size + 1) (defScope st).names []).lookup y.1).isSome = true) := by
    rintro ⟨n, v⟩ hy
    exact (S.par n (List.of_mem_zip hy).1).imp id fun q => ⟨q, PySem.W.cellsFrom_some _ _ _ (.inl q)⟩
  refine codeAny_call_function room.depth (inK _ _ lk) rfl S.co S.gen rfl (PySem.W.codeRec_of inK hc) (bind _ _ _ _ (PySem.wpAny_newFunctionEnv_cells S.kind kinds ?_))
  rintro _ rfl s1 x
  refine ⟨(env0.mod.nolimit.keeps old).keeps x.toInCall.keep, codeAny_func ?_⟩
  obtain ⟨t, ht, hq⟩ := body A outer s H vs Q E gd (room.deeper _) want
  refine wpAny_mono (ht.run [] s1 (start N vs) H _ (inv_start S room.hd env0 (len _ _ _ _ want) rel x) hq) ?_ fun _ _ z => z
  rintro (_ | _ | _ | u) s' hs
  · obtain ⟨σ', H', J, q⟩ := hs
    exact ⟨V.non, H', J.os, J.bare, J.base, J.hok, rfl, q⟩
  · exact hs.elim fun _ z => z.elim fun _ z => z.2.elim
  · exact hs.elim fun _ z => z.elim fun _ z => z.2.elim
  · obtain ⟨v, σ', H', J, rv, q⟩ := hs
    exact ⟨v, H', J.os, J.bare, J.base, J.hok, rv, q⟩
end
section
variable {X : Cx} {CX : CXT} {k : Nat} {f : Addr} {fd : FuncData} {ps : List Str} {sp : Sp} {ds : List Value} {dvs : List V} {E : XK} {x : Str} {p pos : Pos} {e : Expr} {es : List Expr} {t : TA}
theorem runG {pins : List (Addr × Obj)} {σ : St} {H : Hp} {s : Shared} {Q : VK} {us : List Value} {vs : List V} (F : FnG X.prog X.w X.K X.mg X.base CX k f fd ps sp) (gd : X.A.guards = some []) (room : Room k X.A) (hb : Binds X.K fd ps ds) (hd : Vals dvs ds) (hx : Passes CX X E) (I : Inv X pins σ H s) (rel : Vals vs us) (want : sp (vs ++ dvs) H Q E) :
    wpAny (model X.prog X.w) X.A (call (.ref f) us) (EP X pins σ Q) X.xe s := by
  have rel2 := rel.append hd
  have len2 := rel2.length.symm.trans (F.len _ _ _ _ want)
  refine wpAny_call (codeAny_mono (F.go X.A X.stack s H _ _ _ Q E gd room I.env0 (hb s us I.kIn len2) rel2 want) ?_)
  rintro (e | _ | _ | _ | u) s' hq
  · exact hx pins σ H s e s' I hq
  · exact hq.elim
  · exact hq.elim
  · exact hq.elim
  · exact I.after hq
theorem pe_callG (F : FnG X.prog X.w X.K X.mg X.base CX k f fd ps sp) (gd : X.A.guards = some []) (room : Room k X.A) (hg : Gl X x) (hm : X.mg x = some (.ref f)) (hk : PySem.W.keepIn X.K (.ref f) = true) (hb : Binds X.K fd ps ds) (hd : Vals dvs ds) (hx : Passes CX X E)
    (ha : PA X (e :: es) t) (hdb : (x == ("__debug__" : Str)) = false := by decide) (he : starEach (e :: es) X.env = (false, eval e X.env) :: starEach es X.env := by rfl) (hpl : (backTo pos (starEach es X.env)).any (·.1) = false := by rfl) :
    PE X (.Call (.Name x p) (e :: es) [] pos) (tCall sp dvs E t) := by
  constructor
  intro pins s σ H Q I want
  exact wpAny_Call_Name_kw (ld_glob I hg hm (PySem.W.callWith_K (h₀ := X.base) I.ok.mod.kin hk (thn (ha.run pos pins s σ H _ I want) fun us s1 ⟨vs, H1, I1, r, q⟩ => ⟨I1.kIn, runG F gd room hb hd hx I1 r q⟩) he hpl) hdb)
theorem pe_call0G (F : FnG X.prog X.w X.K X.mg X.base CX k f fd ps sp) (gd : X.A.guards = some []) (room : Room k X.A) (hg : Gl X x) (hm : X.mg x = some (.ref f)) (hk : PySem.W.keepIn X.K (.ref f) = true) (hb : Binds X.K fd ps ds) (hd : Vals dvs ds) (hx : Passes CX X E)
    (hdb : (x == ("__debug__" : Str)) = false := by decide) : PE X (.Call (.Name x p) [] [] pos) (tCall sp dvs E tNil) := by
  constructor
  intro pins s σ H Q I want
  exact wpAny_Call_Name_kw (ld_glob I hg hm (PySem.W.callWith_K0 I.kIn hk (runG (us := []) F gd room hb hd hx I .nil want)) hdb)
end
section
variable {P : Program} {w : World} {K : PySem.W.Frag} {mg : Str → Option Value} {base : Heap} {x qual : Str} {st : Stmt} {f c : Addr} {fd : FuncData} {N ps : List Str} {k : Nat} {sp : Sp}
theorem _root_.L2.Fun.okG (F : Fun K x qual st f fd) (S : FnScope N ps (defScope st)) (len : ∀ vs H Q E, sp vs H Q E → vs.length = ps.length)
    (body : ∀ (cdv : Value) (A : Around) (outer : List Env) (s : Shared) (H : Hp) (vs : List V) (Q : VK) (E : XK), (A.deeper (PyProof.Rows.envOfC qual (defScope st) s.heap.objs.size f cdv)).guards = some [] → Room k (A.deeper (PyProof.Rows.envOfC qual (defScope st) s.heap.objs.size f cdv)) → sp vs H Q E →
      ∃ t, PSs (cxOf CX0 P w K mg base N qual (defScope st) f cdv A outer s H E).nox (defBody st) t ∧ t { nx := fun _ H' => Q .non H', rt := Q } (start N vs) H) : FnG P w K mg base CX0 (k + 1) f fd ps sp := by
  obtain ⟨oc, od, kV, doc, pm, an, cdv, ct, osl, rfl, lk, hcd⟩ := F.ex
  exact fnG_of lk hcd S len fun A outer s H vs Q E gd hr want => let ⟨t, h, q⟩ := body cdv A outer s H vs Q E gd hr want; ⟨t, h.nox, q⟩
theorem FunC.okG (F : FunC K x qual st f fd c) (S : FnScope N ps (defScope st)) (len : ∀ vs H Q E, sp vs H Q E → vs.length = ps.length)
    (body : ∀ (cdv : Value) (A : Around) (outer : List Env) (s : Shared) (H : Hp) (vs : List V) (Q : VK) (E : XK), (A.deeper (PyProof.Rows.envOfC qual (defScope st) s.heap.objs.size f (.ref c))).guards = some [] → Room k (A.deeper (PyProof.Rows.envOfC qual (defScope st) s.heap.objs.size f (.ref c))) → sp vs H Q E →
      ∃ t, PSs (cxOf CX0 P w K mg base N qual (defScope st) f (.ref c) A outer s H E).nox (defBody st) t ∧ t { nx := fun _ H' => Q .non H', rt := Q } (start N vs) H) : FnG P w K mg base CX0 (k + 1) f fd ps sp := by
  obtain ⟨oc, od, kV, doc, pm, an, ct, osl, rfl, lk, hcd⟩ := F.ex
  exact fnG_of lk hcd S len fun A outer s H vs Q E gd hr want => let ⟨t, h, q⟩ := body (.ref c) A outer s H vs Q E gd hr want; ⟨t, h.nox, q⟩
end
/-- repr of data -/
def rReprD (K : PySem.W.Frag) : List V → Hp → VK → Prop := fun xs H Q => ∃ (x : V) (d : PyData), xs = [x] ∧ Dp K H x d ∧ SeqAt.shaped d = true ∧ d.showable = true ∧ d.shown.length ≤ sizeLine ∧ Q (.str d.shown) H
theorem cr_repr {X : Cx} (gd : X.A.guards = some []) (hu : X.A.units + 70 < cLine) : CallR X (.builtin "repr") (rReprD X.K) := by
  intro pins s σ H xs us Q I r h
  obtain ⟨x, d, rfl, hd, sh, sw, sz, q⟩ := h
  obtain ⟨u, rfl, rx⟩ := vals1 r
  obtain ⟨as, hr⟩ := Dp.reads I d x u hd rx
  have hl := SeqAt.canLay_of_shaped sh
  have dp : d.depth ≤ 64 := by
    have : (d.canLay0 && decide (d.depth ≤ 64)) = true := sh
    simp only [Bool.and_eq_true, decide_eq_true_eq] at this
    exact this.2
  have ref : ∀ a, u = .ref a → wpAny (model X.prog X.w) X.A (call (.builtin "repr") [u]) (EP X pins σ Q) X.xe s := by
    rintro a rfl
    exact repr_of_reads' hr sw (PyData.noDict_hsm (PyData.hasDict_of_canLay d hl)) gd (by omega) (fun _ _ e => e) (fun h' v tk hk => ⟨.str _, H, I.kept hk, ⟨_, rfl⟩, q⟩) sz
  cases hd with
  | non => cases rx; exact PySem.P.repr_of_none ⟨.str _, H, I.tok _, ⟨_, by simp only [PyData.shown]; rfl⟩, q⟩
  | bl b => cases rx; exact PySem.P.repr_of_bool ⟨.str _, H, I.tok _, ⟨_, by simp only [PyData.shown]; rfl⟩, q⟩
  | int i => obtain ⟨t, rfl⟩ := rx; exact PySem.P.repr_of_int (by simpa [PyData.showable] using sw) ⟨.str _, H, I.tok _, ⟨_, by simp only [PyData.shown]; rfl⟩, q⟩
  | str z => obtain ⟨t, rfl⟩ := rx; exact PySem.P.repr_of_str ⟨.str _, H, I.tok _, ⟨_, by simp only [PyData.shown]; rfl⟩, q⟩ (by simpa only [PyData.shown] using sz)
  | lst e a => exact ref _ rx
  | tup e a => exact ref _ rx
theorem reprK {X : Cx} {K : PySem.W.Frag} (gd : X.A.guards = some []) (hu : X.A.units + 70 < cLine) (h : X.K = K := by rfl) : CallR X (.builtin "repr") (rReprD K) := h ▸ cr_repr gd hu

/-! ### the law's end for such a def -/
section
open PySem PySem.Spec PyProof.Rows L2
def LawAtG (l : PySem.W.OpenLaw) (w : World) (K : PySem.W.Frag) (k n : Nat) (x : Str) (mg : Str → Option Value) (fa : Addr) (h : Heap) : Prop :=
  ∃ (fd : FuncData) (cs : List (Addr × Addr)) (sp : Sp), (∀ p ∈ cs, h.get? p.2 = some { cls := .none, data := .fields #[] }) ∧ (∀ p ∈ cs, K.lookup p.2 = none) ∧ (∀ p ∈ cs, PySem.W.CodeHd h p.1 p.2) ∧ (∀ (s : Shared) (u : Value), BindsTo s fd ⟨[u], []⟩ [(x, u)]) ∧
    (∀ (H : Hp) (a : Addr) (ns : List Int), ns.length ≤ n → (∀ z ∈ ns, Builtin.Int.intBits z ≤ 1048576) → (∀ p ∈ cs, H p.2 = some (.tbl #[])) → SqL K H a (ns.map V.int) → sp [.ref a] H (fun v _ => v = .bl true) fun _ _ _ => False) ∧
    ∀ base : Heap, K.In base → base.Ns mainGlobals mg → (∀ p ∈ cs, LamX.TabB base mg p.1 p.2) → FnG l.prog w K mg base CX0 k fa fd [x] sp
/-- what is tracked at the law's call: the tables, the script if it is not of the written part -/
def H0 (K : PySem.W.Frag) (ts : List Addr) (a : Addr) (ob : Obj) (ns : List Int) : Hp := fun b => if b ∈ ts then some (.tbl #[]) else if b = a ∧ K.lookup a = none then some (.frz ob (.lst (ns.map V.int))) else none
theorem H0_cases {K : PySem.W.Frag} {ts : List Addr} {a b : Addr} {ob : Obj} {ns : List Int} : (b ∈ ts ∧ H0 K ts a ob ns b = some (.tbl #[])) ∨ (b ∉ ts ∧ b = a ∧ K.lookup a = none ∧ H0 K ts a ob ns b = some (.frz ob (.lst (ns.map V.int)))) ∨ (b ∉ ts ∧ (b = a → K.lookup a ≠ none) ∧ H0 K ts a ob ns b = none) := by
  unfold H0
  by_cases h1 : b ∈ ts
  · exact .inl ⟨h1, if_pos h1⟩
  · by_cases h2 : b = a ∧ K.lookup a = none
    · exact .inr (.inl ⟨h1, h2.1, h2.2, (if_neg h1).trans (if_pos h2)⟩)
    · exact .inr (.inr ⟨h1, fun e z => h2 ⟨e, z⟩, (if_neg h1).trans (if_neg h2)⟩)
theorem callG {P : Program} {w : World} {K : PySem.W.Frag} {mg mb : Str → Option Value} {k : Nat} {fa a : Addr} {cs : List (Addr × Addr)} {fd : FuncData} {x : Str} {sp : Sp} {s₁ : Shared} {vs : List Value} {ns : List Int}
    (inK : K.In s₁.heap) (nsG : s₁.heap.Ns mainGlobals mg) (nsB : s₁.heap.Ns builtinsNs mb) (boot : ∀ x : Str, x ≠ "__name__" → mb x = bootBuiltins x) (lim : s₁.heap.NoLimit) (gens : s₁.gens = #[])
    (tabs : ∀ p ∈ cs, s₁.heap.get? p.2 = some { cls := .none, data := .fields #[] }) (notK : ∀ p ∈ cs, K.lookup p.2 = none) (code : ∀ p ∈ cs, PySem.W.CodeHd s₁.heap p.1 p.2)
    (bm : ∃ (bm : Addr) (ob : Obj), mg "__builtins__" = some (.ref bm) ∧ bm ≠ builtinsNs ∧ s₁.heap.get? bm = some ob ∧ ob.cls = .type "module" ∧ ob.dict = some builtinsNs ∧ ob.data = .plain)
    (scr : s₁.heap.get? a = some { cls := .type "list", data := .seq vs.toArray }) (hin : IntsAre vs ns) (len : ns.length ≤ sizeLine) (room : Room k callerA)
    (F : ∀ base : Heap, K.In base → base.Ns mainGlobals mg → (∀ p ∈ cs, LamX.TabB base mg p.1 p.2) → FnG P w K mg base CX0 k fa fd [x] sp) (bind : ∀ (s : Shared) (u : Value), BindsTo s fd ⟨[u], []⟩ [(x, u)])
    (want : ∀ H : Hp, (∀ p ∈ cs, H p.2 = some (.tbl #[])) → SqL K H a (ns.map V.int) → sp [.ref a] H (fun v _ => v = .bl true) fun _ _ _ => False) :
    codeAny (model P w) callerA (.call (.ref fa) ⟨[.ref a], []⟩) (fun r s' => r = .ok (.ret (.bool true)) ∧ OldK s₁.heap s'.heap ∧ s'.os = s₁.os ∧ AllBare s'.gens) s₁ := by
  have rel := vals_ints hin
  have hlen := hin.length
  have tabT : ∀ b ∈ cs.map (·.2), s₁.heap.get? b = some { cls := .none, data := .fields #[] } := by
    intro b hb
    obtain ⟨p, hp, rfl⟩ := List.mem_map.mp hb
    exact tabs p hp
  have aT : a ∉ cs.map (·.2) := fun z => by
    have q := (tabT a z).symm.trans scr
    simp at q
  let H : Hp := H0 K (cs.map (·.2)) a { cls := .type "list", data := .seq vs.toArray } ns
  have cse : ∀ b, (b ∈ cs.map (·.2) ∧ H b = some (.tbl #[])) ∨ (b ∉ cs.map (·.2) ∧ b = a ∧ K.lookup a = none ∧ H b = some (.frz { cls := .type "list", data := .seq vs.toArray } (.lst (ns.map V.int)))) ∨ (b ∉ cs.map (·.2) ∧ (b = a → K.lookup a ≠ none) ∧ H b = none) := fun b => H0_cases
  have HT : ∀ p ∈ cs, H p.2 = some (.tbl #[]) := fun p hp => by
    have m : p.2 ∈ cs.map (·.2) := List.mem_map.mpr ⟨p, hp, rfl⟩
    rcases cse p.2 with h | h | h
    · exact h.2
    · exact absurd m h.1
    · exact absurd m h.1
  -- what is not tracked
  have free : ∀ {b : Addr} {o : Obj}, s₁.heap.get? b = some o → (∀ us n, o.data ≠ .seq us n) → o.data ≠ .fields #[] → H b = none := by
    intro b o e n1 n2
    rcases cse b with h | h | h
    · rw [tabT b h.1] at e; cases e; exact absurd rfl n2
    · rw [h.2.1, scr] at e; cases e; exact absurd rfl (n1 _ _)
    · exact h.2.2
  have hid : ∀ {b : Addr} {o : Obj}, s₁.heap.get? b = some o → H b = none → (hidT s₁.heap H).get? b = some o := fun e n => hidT_get e n
  have nsH : ∀ {b : Addr} {m : Str → Option Value}, s₁.heap.Ns b m → (hidT s₁.heap H).Ns b m := by
    rintro b m ⟨o, es, ep, e, d, r⟩
    exact ⟨o, es, ep, hid e (free e (fun _ _ z => by rw [d] at z; cases z) fun z => by rw [d] at z; cases z), d, r⟩
  have inB : K.In (hidT s₁.heap H) := by
    intro b o e
    refine hid (inK b o e) ?_
    rcases cse b with h | h | h
    · obtain ⟨p, hp, rfl⟩ := List.mem_map.mp h.1
      rw [notK p hp] at e; cases e
    · rw [h.2.1, h.2.2.1] at e; cases e
    · exact h.2.2
  have okH : HOk P w H s₁.heap := by
    intro b u e
    rcases cse b with h | h | h
    · rw [h.2] at e; cases e; exact tabT b h.1
    · rw [h.2.2.2] at e; cases e
      rw [h.2.1]
      exact ⟨scr, by rw [List.length_map]; exact len, vs, _, rel, scr⟩
    · rw [h.2.2] at e; cases e
  have sq : SqL K H a (ns.map V.int) := by
    rcases cse a with h | h | h
    · exact absurd h.1 aT
    · exact .inl (.inr ⟨_, h.2.2.2⟩)
    · cases hk : K.lookup a with
      | none => exact absurd hk (h.2.1 rfl)
      | some o =>
        have e := inK a o hk
        rw [scr] at e; cases e
        exact .inr ⟨_, vs.toArray, _, hk, rfl, rfl, rfl, by rw [List.size_toArray, hlen]; exact len, by simpa using rel⟩
  have TB : ∀ p ∈ cs, LamX.TabB (hidT s₁.heap H) mg p.1 p.2 := by
    intro p hp
    refine ⟨?_, ?_, ?_⟩
    · obtain ⟨o, us, file, tf, flags, tg, inF, text, tt, e1, r1, r2, r3, rest⟩ := code p hp
      exact ⟨o, us, file, tf, flags, tg, inF, text, tt, hid e1 (free e1 (fun _ _ z => by rw [r2] at z; cases z) fun z => by rw [r2] at z; cases z; simp at r3), r1, r2, r3, rest⟩
    · obtain ⟨m, ob, b1, b2, b3, b4, b5, b6⟩ := bm
      refine ⟨m, ob, b1, b2, ?_, ?_, hid b3 (free b3 (fun _ _ z => by rw [b6] at z; cases z) fun z => by rw [b6] at z; cases z), b4, b5, b6⟩
      · rintro rfl
        obtain ⟨o, es, ep, e, hd, _⟩ := nsG
        rw [e] at b3; cases b3
        rw [hd] at b6; cases b6
      · rintro rfl
        rw [tabs p hp] at b3; cases b3; cases b6
    · intro z
      obtain ⟨o, es, ep, e, hd, _⟩ := nsG
      rw [z, tabs p hp] at e
      cases e; cases hd
  have env0 : Env0 P w K mg (hidT s₁.heap H) callerA [] s₁ H := ⟨rfl, ⟨inB, nsH nsG, ⟨mb, nsH nsB, boot⟩, lim.elim fun mc h => ⟨mc, nsH h.1, h.2⟩⟩, fun b o e => of_hidT e, Nat.le_of_eq (hidT_size _ _), trivial, (fun _ hb => nomatch hb), okH, .of_eq gens⟩
  refine codeAny_mono ((F _ inB (nsH nsG) TB).go callerA [] s₁ H _ [.ref a] [.ref a] _ _ rfl room env0 (bind s₁ (.ref a)) (.cons rfl .nil) (want H HT sq)) ?_
  rintro (e | _ | _ | _ | u) s' h
  · exact h.elim
  · exact h.elim
  · exact h.elim
  · exact h.elim
  obtain ⟨v, H', os, bare, un, okH', r', rfl⟩ := h
  obtain rfl : u = Value.bool true := r'
  have kept : ∀ b o, b ∉ cs.map (·.2) → s₁.heap.get? b = some o → s'.heap.get? b = some o := by
    intro b o nb e
    rcases cse b with h | h | h
    · exact absurd h.1 nb
    · have z := un.frzs b _ _ h.2.2.2
      rw [h.2.1, scr] at e; cases e
      rw [h.2.1] at z ⊢
      exact (okH' a _ z).1
    · exact un.keep b o e h.2.2 (fun z => nomatch z) (by simp)
  have more : ∀ p ∈ cs, ∃ m : Array Value, s'.heap.get? p.2 = some { cls := .none, data := .fields m } := by
    intro p hp
    obtain ⟨m, z⟩ := un.tbls p.2 #[] (HT p hp)
    exact ⟨_, okH' p.2 _ z⟩
  refine ⟨rfl, ⟨fun b o e => ?_, fun b o e => ?_⟩, os, bare⟩ <;> by_cases hb : b ∈ cs.map (·.2)
  · obtain ⟨p, hp, rfl⟩ := List.mem_map.mp hb
    obtain ⟨m, hm⟩ := more p hp
    rw [tabs p hp] at e; cases e
    exact .inr (.inl ⟨((code p hp).tab (tabs p hp)).isCodeTable, rfl, #[], m, rfl, by rw [Array.empty_append]; exact hm⟩)
  · exact .inl (kept b o hb e)
  · obtain ⟨p, hp, rfl⟩ := List.mem_map.mp hb
    obtain ⟨m, hm⟩ := more p hp
    exact ⟨_, hm⟩
  · exact ⟨o, kept b o hb e⟩
theorem walkG {l : PySem.W.OpenLaw} {n k : Nat} {q : Program} {loose : List Str} {XP : (Str → Option Value) → Heap → Prop} {YP : World → Heap → Prop} {d : DefRec} {K : Params → PySem.W.Frag} {x : Str} {LN : List Str}
    (hn : l.most = some n) (hn2 : n ≤ sizeLine) (hdf : d.params.defaults = []) (hr : Room k callerA) (hrec : (LN.all fun x => (PyProof.Rows.recsOf q).any fun e => e.name == x) = true) (hY : ∀ (w : World) (h : Heap), YP w h → (K w.params).In h)
    (F : ∀ (w : World) (mg : Str → Option Value) (fa : Addr) (h : Heap), YP w h → (K w.params).In h → h.Ns mainGlobals mg → mg d.name = some (.ref fa) → TabsAt LN mg h → LawAtG l w (K w.params) k n x mg fa h) :
    PySem.W.WalkO q loose XP YP l.row.toRowW d [] (fun f vs => PySem.call f vs) := by
  refine Att.attach_callB hn hdf fun w s₀ s₁ mg mb fa o pm cd doc a vs ns G Y ho hd hcd hmg hobj hints hlen hbits hg => ?_
  have own : TabsAt LN mg s₁.heap := fun x hx => by
    obtain ⟨dL, hm, hn1⟩ := List.any_eq_true.mp (List.all_eq_true.mp hrec x hx)
    have hn2 : dL.name = x := beq_iff_eq.mp hn1
    obtain ⟨a', o', fd', c', P', h1, h2, h3, h4, h5, h6⟩ := G.T.tab dL hm
    rw [hn2] at h1
    exact ⟨a', o', fd', c', P', h1, h2, h3, h4, PySem.W.CodeHd.of h5 h6, h6.2⟩
  obtain ⟨fd, cs, sp, hT, nT, C, hb, hsp, hF⟩ := F w mg fa _ Y (hY w _ Y) G.T.g hmg own
  exact callG (hY w _ Y) G.T.g G.T.b G.T.builtins G.T.nolimit hg hT nT C G.T.bmain hobj hints (Nat.le_trans hlen hn2) hr hF hb fun H hH hS => hsp H a ns hlen hbits hH hS
end

/-! ### data that repr can show -/
theorem hu70 {A : Around} {k : Nat} (hr : Room k A) : A.units + 70 < cLine := by have := hr.un; omega
structure Sh (w : Nat) (d : PyData) : Prop where
  ok : Okd d
  sw : d.showable = true
  lf : d.leavesShort 13 = true
  wt : d.weight ≤ w
theorem Sh.mono {w v : Nat} {d : PyData} (h : Sh w d) (l : w ≤ v) : Sh v d := ⟨h.ok, h.sw, h.lf, Nat.le_trans h.wt l⟩
theorem Sh.len {w : Nat} {d : PyData} (h : Sh w d) (l : w ≤ 1000000) : d.shown.length ≤ sizeLine := by
  have h1 := PyData.shown_le 13 (by decide) d h.lf
  have h2 := h.wt
  have h3 : 15 * d.weight + 13 ≤ 16777216 := by omega
  exact Nat.le_trans h1 (Nat.le_trans h3 (by decide))
theorem log2_lt {n k : Nat} (h : n < 2 ^ k) (h0 : n ≠ 0) : n.log2 < k := (Nat.log2_lt h0).mpr h
theorem sh_int {i : Int} (h1 : -1000000000000 < i) (h2 : i < 1000000000000) : Sh 50 (.int i) := by
  have hn : i.natAbs < 10 ^ 12 := by have : (10 : Nat) ^ 12 = 1000000000000 := by decide
                                     omega
  have hl : i.natAbs.log2 ≤ 40 := by
    by_cases z : i.natAbs = 0
    · rw [z]; decide
    · have := log2_lt (n := i.natAbs) (k := 41) (by have : (2 : Nat) ^ 41 = 2199023255552 := by decide
                                                    have : (10 : Nat) ^ 12 = 1000000000000 := by decide
                                                    omega) z
      omega
  refine ⟨okd_int i, ?_, ?_, ?_⟩
  · simp only [PyData.showable]; exact decide_eq_true (by omega)
  · simp only [PyData.leavesShort]; exact decide_eq_true (PyData.shown_int_le hn)
  · simp only [PyData.weight]; split <;> omega
theorem sh_none : Sh 50 .none := ⟨⟨rfl, by simp [PyData.depth]⟩, rfl, rfl, by simp [PyData.weight]⟩
theorem sh_bool (b : Bool) : Sh 50 (.bool b) := ⟨⟨rfl, by simp [PyData.depth]⟩, rfl, rfl, by simp [PyData.weight]⟩
theorem sh_all {w : Nat} : ∀ {ds : List PyData}, (∀ d ∈ ds, Sh w d) → PyData.showableAll ds = true ∧ PyData.leavesShortAll 13 ds = true ∧ PyData.weightAll ds ≤ ds.length * (w + 1)
  | [], _ => ⟨rfl, rfl, by simp [PyData.weightAll]⟩
  | a :: r, h => by
    have ha := h a List.mem_cons_self
    obtain ⟨h1, h2, h3⟩ := sh_all (ds := r) fun d hd => h d (List.mem_cons_of_mem _ hd)
    refine ⟨?_, ?_, ?_⟩
    · simp [PyData.showableAll, ha.sw, h1]
    · simp [PyData.leavesShortAll, ha.lf, h2]
    · have := ha.wt
      simp only [PyData.weightAll, List.length_cons, Nat.succ_mul]
      omega
theorem sh_mul {n N w : Nat} (h : n ≤ N) : n * (w + 1) ≤ N * (w + 1) := Nat.mul_le_mul_right _ h
/-- lists and tuples of such data; nested at most some deep -/
theorem sh_list {w N : Nat} {ds : List PyData} (h : ∀ d ∈ ds, Sh w d) (hd : ∀ d ∈ ds, d.depth ≤ 20) (hn : ds.length ≤ N) : Sh (N * (w + 1)) (.list ds) := by
  obtain ⟨h1, h2, h3⟩ := sh_all h
  have h4 := (okd_all fun d hd => (h d hd).ok).1
  have h5 : PyData.depthAll ds ≤ 20 := by
    clear h1 h2 h3 h4 h hn
    induction ds with
    | nil => simp [PyData.depthAll]
    | cons a r ih =>
      have := ih fun d hm => hd d (List.mem_cons_of_mem _ hm)
      have := hd a List.mem_cons_self
      simp only [PyData.depthAll]; omega
  refine ⟨⟨by simp [PyData.canLay0, h4], by simp only [PyData.depth]; omega⟩, by simp [PyData.showable, h1], by simp [PyData.leavesShort, h2], ?_⟩
  simp only [PyData.weight]
  exact Nat.le_trans h3 (sh_mul hn)
theorem sh_tup {w N : Nat} {ds : List PyData} (h : ∀ d ∈ ds, Sh w d) (hd : ∀ d ∈ ds, d.depth ≤ 20) (hn : ds.length ≤ N) : Sh (N * (w + 1)) (.tuple ds) := by
  have x := sh_list h hd hn
  have y := x.ok
  refine ⟨⟨by simpa [PyData.canLay0] using y.1, by simpa [PyData.depth] using y.2⟩, by simpa [PyData.showable] using x.sw, by simpa [PyData.leavesShort] using x.lf, by simpa [PyData.weight] using x.wt⟩
theorem sh_pd {a b : Int} (h1 : -1000000000000 < a) (h2 : a < 1000000000000) (h3 : -1000000000000 < b) (h4 : b < 1000000000000) : Sh 102 (pd (a, b)) :=
  sh_tup (w := 50) (N := 2) (ds := [.int a, .int b]) (fun d hd => by
    simp only [List.mem_cons, List.not_mem_nil, or_false] at hd
    rcases hd with rfl | rfl
    · exact sh_int h1 h2
    · exact sh_int h3 h4) (fun d hd => by
    simp only [List.mem_cons, List.not_mem_nil, or_false] at hd
    rcases hd with rfl | rfl <;> simp [PyData.depth]) (Nat.le_refl _)
theorem s_repr {C : Addr} {K : PySem.W.Frag} {Tb : List (Addr × Str)} {H : Hp} {L : List R} {Q : VK} {x : V} {d : PyData} {b : Bool} {w : Nat} (S : Sep C K Tb H L) (h : Has b L x d) (sh : Sh w d) (hw : w ≤ 1000000) (k : Q (.str d.shown) H) : rReprD K [x] H Q := by
  refine ⟨x, d, rfl, S.dp h, ?_, sh.sw, sh.len hw, k⟩
  obtain ⟨h1, h2⟩ := sh.ok
  have h3 : d.depth ≤ 64 := by omega
  simp [SeqAt.shaped, h1, h3]
def NewA (Q : VK) (xs : List V) (H : Hp) : Prop := ∀ q, H q = none → Q (.ref q) (upd H q (.lst xs))
theorem s_lstRg1 {σ : St} {H : Hp} {Q : VK} {ta : TE} (h : ta σ H fun x H1 => ∃ n, x = .int n ∧ (RgOk 0 n ∧ NewA Q (rgV 0 n) H1)) : tLstRg (tRg1 ta) σ H Q := by
  refine r_lstRg1 (σ := σ) (H := H) (Q := Q) (ta := ta) ?_
  exact h
theorem s_rg {C : Addr} {K : PySem.W.Frag} {Tb : List (Addr × Str)} {H : Hp} {L : List R} {Q : VK} {a : Int} {n : Nat} (S : Sep C K Tb H L) (e : a = n) (hn : n ≤ 1000000) (k : ∀ p H', Sep C K Tb H' (.cell p (.lst (iv (List.range n))) :: L) → Q (.ref p) H') : RgOk 0 a ∧ NewA Q (rgV 0 a) H := by
  subst e
  refine ⟨RgOk.of_le (by omega) (by omega) (by omega) (by omega), fun q hq => ?_⟩
  rw [rgV_iv]
  exact k q _ (S.new hq trivial)
/-- a tuple of two ints is taken apart -/
theorem s_gtup2 {C : Addr} {K : PySem.W.Frag} {Tb : List (Addr × Str)} {σ : St} {H : Hp} {L : List R} {QS : St → Hp → Prop} {t : Addr} {xs : List V} {n : Nat} {g : TGs} (S : Sep C K Tb H L) (h : R.tup t xs ∈ L) (hn : xs.length = n) (k : g xs σ H QS) : gTup K n g (.ref t) σ H QS := r_gtup (SqT.of (S.getT h)) hn k
theorem s_ixt {C : Addr} {K : PySem.W.Frag} {Tb : List (Addr × Str)} {H : Hp} {L : List R} {Q : VK} {t : Addr} {xs : List V} {a : Int} {v : V} (S : Sep C K Tb H L) (h : R.tup t xs ∈ L) (e : atI xs a = some v) (k : Q v H) : rIxT K (.ref t) (.int a) H Q := r_ixt (SqT.of (S.getT h)) e k
theorem attr_n (m : SM) : attrOf m "n" = some (.int m.n) := by unfold attrOf; rw [if_pos rfl]
theorem attr_l (m : SM) : attrOf m "limit" = some (.int m.lim) := by unfold attrOf; rw [if_neg (by decide +kernel), if_pos rfl]
theorem attr_g (m : SM) : attrOf m "generations" = some (.int m.g) := by unfold attrOf; rw [if_neg (by decide +kernel), if_neg (by decide +kernel), if_pos rfl]
theorem attr_r (m : SM) : attrOf m "rule" = some (.str m.rule.s) := by unfold attrOf; rw [if_neg (by decide +kernel), if_neg (by decide +kernel), if_neg (by decide +kernel), if_pos rfl]
theorem pe_bmK {X : Cx} {K : PySem.W.Frag} {T id : String} {name : Str} {apos cpos : Pos} {o e : Expr} {es : List Expr} {r : V → List V → Hp → VK → Prop} {to : TE} {t : TA} (pa : PlainAttrs T) (slot : Slot T name id) (hty : typeOf (.builtin id) = pure (.type "method_descriptor")) (hm : MtR X id r) (ho : PE X o to) (ha : PA X (e :: es) t) (hK : X.K = K := by rfl)
    (h1 : attributeBase o name X.env (eval o X.env) = eval o X.env := by rfl)
    (h2 : ((backTo cpos (starEach (e :: es) X.env)).all (fun x => !x.1) && (backToKw cpos (keywordEach [] X.env)).all (fun x => x.1.isSome) && decide ((e :: es).length + ([] : List Keyword).length + (if ([] : List Keyword).isEmpty then 0 else 1) < 30)) = true := by rfl)
    (h3 : (apos.endLine == cpos.line) = true := by rfl) (h4 : starEach (e :: es) X.env = (false, eval e X.env) :: starEach es X.env := by rfl) (h5 : (backTo cpos (starEach es X.env)).any (·.1) = false := by rfl) : PE X (.Call (.Attribute o name apos) (e :: es) [] cpos) (tBM K T r to t) := hK ▸ pe_bm pa slot hty hm ho ha h1 h2 h3 h4 h5
local macro_rules | `(tactic| walk_at "sd1") => `(tactic| first
  | ((with_reducible show ∃ (a : Addr) (C : Addr) (dx : Addr) (fs : List (Str × V)) (v : V), V.ref _ = V.ref a ∧ _); refine s_attr (by assumption) (by walk_at "mm") (by assumption) (by assumption) (by with_reducible first | exact attr_n _ | exact attr_l _ | exact attr_g _ | exact attr_r _) ?_)
  | (with_reducible refine s_lstRg1 ?_)
  | ((with_reducible refine s_rg (by assumption) (by first | rfl | omega) ?_ (fun _ _ _ => ?_)); (focus walk_at "sz"))
  | ((with_reducible show gTup _ _ _ _ _ _ _); refine s_gtup2 (by assumption) (by walk_at "mm") (by rfl) ?_)
  | ((with_reducible show rIxT _ _ _ _ _); refine s_ixt (by assumption) (by walk_at "mm") (by rfl) ?_))

/-! ### more of slot maps: live handles, generations -/
theorem count_filt (td : List (Int × Int)) (s : Int) : (td.filter fun q => decide (q.1 = s)).length = (td.map (·.1)).count s := by
  induction td with
  | nil => rfl
  | cons a r ih =>
    rw [List.map_cons, List.count_cons, List.filter_cons]
    by_cases h : a.1 = s
    · simp [h, ih]
    · simp [h, ih]
theorem eqvAll_pds : ∀ ps qs : List (Int × Int), PyData.eqvAll (ps.map pd) (qs.map pd) = decide (ps = qs)
  | [], [] => rfl
  | [], _ :: _ => rfl
  | _ :: _, [] => rfl
  | p :: ps, q :: qs => by
    show (PyData.eqv (pd p) (pd q) && PyData.eqvAll (ps.map pd) (qs.map pd)) = _
    rw [eqv_pd, eqvAll_pds ps qs]
    by_cases h : p = q <;> simp [h]
theorem eqv_pds (ps qs : List (Int × Int)) : PyData.eqv (.list (ps.map pd)) (.list (qs.map pd)) = decide (ps = qs) := by
  rw [← eqvAll_pds]; simp only [PyData.eqv]
theorem okd_pds (ps : List (Int × Int)) : ∀ d ∈ ps.map pd, Okd d := fun d hd => by
  obtain ⟨p, _, rfl⟩ := List.mem_map.mp hd; exact okd_pd p
theorem liveH_take {m : SM} (h : m.Ok) (hl : m.live.length < m.lim) (v : V) : (m.take v).liveH = m.liveH ++ [((m.slot : Int), (m.take v).gen m.slot)] := by
  have e : (m.take v).ages = m.ages ++ [m.slot] := by simp [SM.ages, SM.take]
  unfold SM.liveH
  rw [e, List.map_append]
  congr 1
  refine List.map_congr_left fun s hs => ?_
  have ne : s ≠ m.slot := fun z => h.slot_dead hl (z ▸ hs)
  have : (m.take v).gen s = m.gen s := by
    show (((m.take v).cnt s : Int) - 1) % (m.g : Int) = _
    rw [SM.cnt_take h hl, if_neg ne]; rfl
  rw [this]
theorem erase_idx {l : List Nat} (h : l.Nodup) {j s : Nat} (e : l[j]? = some s) : l.erase s = l.eraseIdx j := by
  induction l generalizing j with
  | nil => simp at e
  | cons a r ih =>
    obtain ⟨h1, h2⟩ := List.nodup_cons.mp h
    cases j with
    | zero =>
      have : a = s := by simpa using e
      subst this; simp
    | succ j =>
      have e2 : r[j]? = some s := by simpa using e
      have ne : a ≠ s := fun z => h1 (z ▸ List.mem_of_getElem? e2)
      rw [List.erase_cons_tail (by simp [ne]), ih h2 e2]; rfl
theorem liveH_give {m : SM} (h : m.Ok) {s j : Nat} (e : m.ages[j]? = some s) : (m.give s).liveH = m.liveH.eraseIdx j := by
  unfold SM.liveH
  rw [SM.ages_giveE h, erase_idx h.nodupA e, ← map_eraseIdx]
  rfl
theorem gen_taken {m : SM} (h : m.Ok) (hl : m.live.length < m.lim) (v : V) : (m.take v).gen m.slot = (m.cnt m.slot : Int) % (m.g : Int) := by
  show (((m.take v).cnt m.slot : Int) - 1) % (m.g : Int) = _
  rw [SM.cnt_take h hl, if_pos rfl]
  congr 1; omega
theorem gen_bnd {m : SM} (h : m.Ok) (s : Nat) : 0 ≤ m.gen s ∧ m.gen s < 1000000000 := by
  have g1 := h.ar.g1
  have g2 := h.ar.g2
  unfold SM.gen
  exact ⟨Int.emod_nonneg _ (by omega), Int.lt_of_lt_of_le (Int.emod_lt_of_pos _ (by omega)) g2⟩

/-! ### sorted(xs, key=lambda x: (int(counts[x] >= bound), 0 - counts[x], x)): the same items in another order -/
section
variable {prog : Program} {w : World} {A : Around} {s : Shared} {E : Value → Shared → Prop}
/-- int(counts[x] >= bound), counts and bound captured -/
theorem key_flag {qual xn C G : Str} {scope : Scope} {L f cc cg l : Addr} {cd : Value} {cl : List (Str × Addr)} {m mg mb : Str → Option Value} {i : Nat} {t tz tg : Tok} {z g : Int} {items : Array Value} {p0 p1 p2 p3 p4 p5 p6 : Pos} {Q : Value → Shared → Prop}
    (hk : scope.kind = .function) (hx : scope.names.lookup xn = some .local) (hC : scope.names.lookup C = some .free) (hG : scope.names.lookup G = some .free) (hi : scope.names.lookup (Str.ofString "int") = some NameKind.globalImplicit)
    (hcl : cl.lookup C = some cc) (hgl : cl.lookup G = some cg) (hcell : s.heap.IsCell cc (some (.ref l))) (gcell : s.heap.IsCell cg (some (.int g tg))) (hl : s.heap.IsList l items)
    (hn : s.heap.Ns L m) (hm : m xn = some (.int i t)) (h63 : (i : Int) < 2 ^ 63) (hu : items[i]? = some (.int z tz)) (gm : s.heap.Ns mainGlobals mg) (gn : mg "int" = none) (bm : s.heap.Ns builtinsNs mb) (bn : mb "int" = bootBuiltins "int")
    (h : ∀ (u : Tok) (tk : Nat), Q (.int (if g ≤ z then 1 else 0) u) { s with toks := tk })
    (d1 : (xn == ("__debug__" : Str)) = false) (d2 : (C == ("__debug__" : Str)) = false) (d3 : (C == ("__classdict__" : Str)) = false) (d4 : (G == ("__debug__" : Str)) = false) (d5 : (G == ("__classdict__" : Str)) = false)
    (hm0 : behindInMarks .GtE (.Name G p4) = false)
    (he : starEach [.Compare (.Subscript (.Name C p1) (.Name xn p2) p3) [.GtE] [.Name G p4] p5] (PySem.W.envX qual scope L f cd cl) = [(false, eval (.Compare (.Subscript (.Name C p1) (.Name xn p2) p3) [.GtE] [.Name G p4] p5) (PySem.W.envX qual scope L f cd cl))])
    (hc : eval (.Call (.Name "int" p0) [.Compare (.Subscript (.Name C p1) (.Name xn p2) p3) [.GtE] [.Name G p4] p5] [] p6) (PySem.W.envX qual scope L f cd cl) = (do callWith p6 (← eval (.Name "int" p0) (PySem.W.envX qual scope L f cd cl)) [] (backTo p6 (starEach [.Compare (.Subscript (.Name C p1) (.Name xn p2) p3) [.GtE] [.Name G p4] p5] (PySem.W.envX qual scope L f cd cl))) (backToKw p6 (keywordEach [] (PySem.W.envX qual scope L f cd cl)))) := by rfl) :
    wpAny (model prog w) A (eval (.Call (.Name "int" p0) [.Compare (.Subscript (.Name C p1) (.Name xn p2) p3) [.GtE] [.Name G p4] p5] [] p6) (PySem.W.envX qual scope L f cd cl)) Q E s := by
  refine PyProof.Rows.Call_ ?_ hc
  refine Calls.Name_function_global hk hi (Calls.loadGlobal_builtin gm gn bm (bn.trans PyProof.Rows.boot_int) ?_) (by decide)
  refine PyProof.Rows.callWith_type1 ?_ he rfl
  rw [he]
  refine Calls.spliced_cons (wpAny_Compare1 ?_ hm0)
  refine key_item hk hx hC hcl hcell hl hn hm h63 hu ?_ d1 d2 d3
  refine wpAny_Name (wpAny_loadName_free hk hG hgl gcell ?_ d5) d4
  refine PyProof.Rows.ge_int (Calls.spliced_nil ?_)
  have e : (if (decide (g ≤ z)) = true then (1 : Int) else 0) = if g ≤ z then 1 else 0 := by by_cases c : g ≤ z <;> simp [c]
  exact call_int_bool (by rw [e]; exact h _ _)
/-- (e, e', x), e and e' ints, x the argument -/
theorem key_three {qual xn : Str} {scope : Scope} {L f : Addr} {cd : Value} {cl : List (Str × Addr)} {m : Str → Option Value} {i : Int} {t : Tok} {y z : Int} {e e' : Expr} {p2 pos : Pos} {x1}
    (hk : scope.kind = .function) (hx : scope.names.lookup xn = some .local) (hn : s.heap.Ns L m) (hm : m xn = some (.int i t)) (d1 : (xn == ("__debug__" : Str)) = false)
    (hs : starEach [e, e', .Name xn p2] (PySem.W.envX qual scope L f cd cl) = [(false, eval e (PySem.W.envX qual scope L f cd cl)), (false, eval e' (PySem.W.envX qual scope L f cd cl)), (false, eval (.Name xn p2) (PySem.W.envX qual scope L f cd cl))])
    (he : ∀ (Q : Value → Shared → Prop), (∀ (u : Tok) (tk : Nat), Q (.int y u) { s with toks := tk }) → wpAny (model prog w) A (eval e (PySem.W.envX qual scope L f cd cl)) Q E s)
    (he' : ∀ (k : Nat) (Q : Value → Shared → Prop), (∀ (u : Tok) (tk : Nat), Q (.int z u) { s with toks := tk }) → wpAny (model prog w) A (eval e' (PySem.W.envX qual scope L f cd cl)) Q E { s with toks := k }) :
    wpAny (model prog w) A (eval (.Tuple [e, e', .Name xn p2] x1 pos) (PySem.W.envX qual scope L f cd cl)) (PySem.W.KeyPure (.tuple [.int y, .int z, .int i]) s) E s := by
  refine wpAny_Tuple_spliced ?_
  rw [hs]
  refine Calls.spliced_cons (he _ fun u tk => ?_)
  refine Calls.spliced_cons (he' tk _ fun u' tk' => ?_)
  refine Calls.spliced_cons (wpAny_Name (wpAny_loadName_local hk hx hn hm ?_) d1)
  refine Calls.spliced_nil ⟨by show 3 ≤ sizeLine; decide, ?_⟩
  refine ⟨_, _, rfl, fun b o q => Heap.get?_push_of_some _ q, ?_⟩
  exact .tuple (as := []) (Heap.get?_push_size _ rfl) rfl rfl (.cons (as := []) (.int y u) (.cons (as := []) (.int z u') (.cons (as := []) (.int i t) .nil)))
end
/-- what such a sort asks of its list, and what it leaves -/
def rSortL3 (T : List (Addr × Str)) (K : PySem.W.Frag) (j jg : Nat) (σ : St) (Q : VK) : V → Hp → Prop := fun x H1 => ∃ (a l : Addr) (ns : List Nat) (cs : List Int) (g : Int), x = .ref a ∧ SqL K H1 a (ns.map fun (n : Nat) => V.int n) ∧ σ[j]? = some (some (.ref l)) ∧ SqL K H1 l (cs.map V.int) ∧ σ[jg]? = some (some (.int g)) ∧
  (∀ n ∈ ns, n < cs.length) ∧ LamX.Tabs T H1 ∧ ∀ (H2 : Hp) (p : Addr) (ms : List Nat), ms.Perm ns → LamX.ExtN H1 H2 → LamX.Tabs T H2 → H2 p = none → Q (.ref p) (upd H2 p (.lst (ms.map fun (n : Nat) => V.int n)))
def tSortL3 (T : List (Addr × Str)) (K : PySem.W.Frag) (j jg : Nat) (te : TE) : TE := fun σ H Q => te σ H (rSortL3 T K j jg σ Q)
theorem pe_sortL3 {X : Cx} {T : List (Addr × Str)} {c P : Addr} {j jg : Nat} {e e0 e1 : Expr} {te : TE} {xn C G : Str} {params : Arguments} {scope : Scope} {x1} {q0 q1 q2 q3 q4 q5 q6 r1 r2 r3 r4 r5 : Pos} {jz : Nat} {p p2 p3 lpos kpos pos : Pos} (hg : Gl X "sorted") (hm : X.mg "sorted" = none) (hmi : X.mg "int" = none) (he : PE X e te)
    (TB : LamX.TabB X.base X.mg c P) (hcode : X.env.code = .ref c) (hmT : (P, X.env.qual ++ "<lambda>") ∈ T) (huT : ∀ q ∈ T, q.1 = P → q.2 = X.env.qual ++ "<lambda>") (hr : Room 2 X.A)
    (hN : X.N[j]? = some C) (hC : X.env.scope.names.lookup C = some .cell) (hNg : X.N[jg]? = some G) (hCg : X.env.scope.names.lookup G = some .cell)
    (h0 : e0 = .Call (.Name "int" q0) [.Compare (.Subscript (.Name C q1) (.Name xn q2) q3) [.GtE] [.Name G q4] q5] [] q6) (h1 : e1 = .BinOp (.Constant (.int 0) jz r4) .Sub (.Subscript (.Name C r1) (.Name xn r2) r3) r5)
    (sk : scope.kind = .function) (sx : scope.names.lookup xn = some .local) (sC : scope.names.lookup C = some .free) (sG : scope.names.lookup G = some .free) (si : scope.names.lookup (Str.ofString "int") = some NameKind.globalImplicit) (scell : ∀ y ∈ scope.names, y.2 ≠ .cell) (sfree : ∀ y ∈ scope.names, y.2 = .free → y.1 = C ∨ y.1 = G) (sco : scope.isCoroutine = false) (sgen : scope.isGenerator = false)
    (hclo : ∀ (cells : List (Str × Addr)) (cc cg : Addr), cells.lookup C = some cc → cells.lookup G = some cg → (cloFrom cells scope.names []).lookup C = some cc ∧ (cloFrom cells scope.names []).lookup G = some cg)
    (hdef : defaultsOf params X.env = ([], []))
    (hbind : ∀ (q : Str) (cl : List (Str × Addr)) (pm cv ctv v : Value), bindArgs (PySem.W.kla_fn "<lambda>" q params (.Tuple [e0, e1, .Name xn p2] x1 p3) scope cl pm cv ctv) ⟨[v], []⟩ = pure [(xn, v)])
    (hs : ∀ env : Env, starEach [e0, e1, .Name xn p2] env = [(false, eval e0 env), (false, eval e1 env), (false, eval (.Name xn p2) env)])
    (hse0 : ∀ env : Env, starEach [.Compare (.Subscript (.Name C q1) (.Name xn q2) q3) [.GtE] [.Name G q4] q5] env = [(false, eval (.Compare (.Subscript (.Name C q1) (.Name xn q2) q3) [.GtE] [.Name G q4] q5) env)] := by intro _; rfl)
    (hmk : behindInMarks .GtE (.Name G q4) = false := by with_unfolding_all rfl)
    (dx : (xn == ("__debug__" : Str)) = false := by decide) (dC : (C == ("__debug__" : Str)) = false := by decide) (dD : (C == ("__classdict__" : Str)) = false := by decide) (dG : (G == ("__debug__" : Str)) = false := by decide) (dH : (G == ("__classdict__" : Str)) = false := by decide)
    (hst : starEach (e :: []) X.env = (false, eval e X.env) :: starEach [] X.env := by rfl) (hse : backTo pos (starEach (e :: []) X.env) = (false, eval e X.env) :: backTo pos (starEach [] X.env) := by rfl) (hpl : (backTo pos (starEach (e :: []) X.env)).any (·.1) = false := by rfl)
    (hall : (backToKw pos (keywordEach [⟨some "key", .Lambda params (.Tuple [e0, e1, .Name xn p2] x1 p3) scope lpos, kpos⟩] X.env)).all (·.1.isSome) = true := by rfl)
    (hnone : (backToKw pos (keywordEach [⟨some "key", .Lambda params (.Tuple [e0, e1, .Name xn p2] x1 p3) scope lpos, kpos⟩] X.env)).any (·.1.isNone) = false := by rfl)
    (hks : (backToKw pos (keywordEach [⟨some "key", .Lambda params (.Tuple [e0, e1, .Name xn p2] x1 p3) scope lpos, kpos⟩] X.env)).filterMap (·.1) = [Str.ofString "key"] := by rfl) :
    PE X (.Call (.Name "sorted" p) [e] [⟨some "key", .Lambda params (.Tuple [e0, e1, .Name xn p2] x1 p3) scope lpos, kpos⟩] pos) (tSortL3 T X.K j jg te) := by
  refine ⟨fun pins s σ H Q I h => ?_⟩
  refine wpAny_Call_Name_kw (ld_blt I hg hm PyProof.Rows.boot_sorted ?_)
  have hargs : PA X [e] (tCons te tNil) := pa_cons he pa_nil hst
  refine PyProof.Rows.callWith_kw (thn (hargs.run pos pins s σ H (fun vs H1 => match vs with | [x] => rSortL3 T X.K j jg σ Q x H1 | _ => False) I h) fun us s1 hh => ?_) hse hpl hall hnone
  obtain ⟨vs, H1, I1, r1, q1⟩ := hh
  match vs, r1, q1 with
  | [x], r1, q1 =>
    obtain ⟨a, l, ns, cs, g, rfl, ha, hj, hl, hjg, hlt, hT, q⟩ := q1
    obtain rfl := Vals.ref1 r1
    rw [hks]
    show wpAny _ _ (evalAll ((do let v ← eval (.Lambda params (.Tuple [e0, e1, .Name xn p2] x1 p3) scope lpos) X.env; standAt pos; pure v) :: [])) _ _ s1
    have hfr : ∀ y ∈ scope.names, y.2 = .free → ∃ c, X.env.cells.lookup y.1 = some c := fun y hy ey => by
      rcases sfree y hy ey with e | e
      · rw [e]; exact I1.ok.has C (.inl hC)
      · rw [e]; exact I1.ok.has G (.inl hCg)
    refine wpAny_evalAll_cons (wpAny_bind (LamX.lam_make2 I1 TB hcode hmT huT hT hdef hfr fun f c' pm ctv H2 s2 I2 eN T2 hf hfn hff hco => ?_))
    refine wpAny_bind (wpAny_standAt (wpAny_pure (wpAny_evalAll_nil ?_)))
    show wpAny _ _ (call (.builtin "sorted") [.ref a] [(Str.ofString "key", .ref f)]) _ _ s2
    obtain ⟨its, rv, pl, hz⟩ := I2.list (SqL.extN ha eN)
    obtain ⟨ics, rc, plc, hzc⟩ := I2.list (SqL.extN hl eN)
    have hea := each_nat rv
    -- what is captured
    obtain ⟨m, hn, hloc⟩ := I2.loc
    have cellOf : ∀ {k : Nat} {y : Str} {v : V}, X.N[k]? = some y → σ[k]? = some (some v) → X.env.scope.names.lookup y = some .cell → ∃ u cc, RelV v u ∧ X.env.cells.lookup y = some cc ∧ s2.heap.IsCell cc (some u) := fun {k y v} a1 a2 a3 => by
      obtain ⟨u, ru, lk⟩ := hloc k y v a1 a2 (.inr (.inl a3))
      rcases lk with ⟨k', _⟩ | ⟨_, cc, e1, e2⟩
      · have k'' : X.env.scope.names.lookup y = some .local := k'
        rw [a3] at k''; cases k''
      · exact ⟨u, cc, ru, e1, e2⟩
    obtain ⟨u, cc, ru, hcc, hcell⟩ := cellOf hN hj hC
    obtain rfl : u = Value.ref l := ru
    obtain ⟨ug, cg, rg, hcg, gcell⟩ := cellOf hNg hjg hCg
    obtain ⟨tg, rfl⟩ : ∃ tg, ug = Value.int g tg := rg
    have hcrec : s2.heap.CodeRec (.ref c') (X.env.qual ++ "<lambda>") := by
      obtain ⟨⟨oc, vs, t, e1, e2, e3⟩, _, _⟩ := I2.hok c' _ hco
      exact ⟨c', oc, vs, t, rfl, e1, e2, e3⟩
    have hlim := I2.nolimit
    have gm := I2.mod.glob.keeps I2.bk
    obtain ⟨mb, bm0, bn⟩ := I2.mod.blt
    have bm := bm0.keeps I2.bk
    have hclo' := hclo _ _ _ hcc hcg
    refine PySem.W.sorted_key_data (R := fun v (n : Nat) => ∃ t, v = Value.int n t) (b := false) (f := .ref f) (fun n : Nat => PyData.tuple [.int (if g ≤ cs.getD n 0 then 1 else 0), .int (0 - cs.getD n 0), .int n]) pl.isList hea ?_ (.inl ?_) (by rw [List.length_map] at hz; exact hz) (fun n _ => ?_) (PyProof.Rows.ksk_s1 _ _) (fun _ => PyProof.Rows.ksk_l1 _ _)
      (fun _ => PyProof.Rows.ksk_t1 _ _) ?_ ?_
    · intro d hd d' hd'
      obtain ⟨n, _, rfl⟩ := List.mem_map.mp hd
      obtain ⟨n', _, rfl⟩ := List.mem_map.mp hd'
      simp [PySem.W.alike, PySem.W.alikeAll]
    · intro d hd
      obtain ⟨n, _, rfl⟩ := List.mem_map.mp hd
      exact ⟨_, _, rfl⟩
    · have h1 := hr.un
      have h2 : PyData.depth (.tuple [.int (if g ≤ cs.getD n 0 then 1 else 0), .int (0 - cs.getD n 0), .int (n : Int)]) = 1 := rfl
      rw [h2]; omega
    · rintro v n ⟨t, rfl⟩ hn h tk kp
      have hnl := hlt n hn
      obtain ⟨w', ew, rw'⟩ := rc.get (i := n) (x := V.int cs[n]) (by simp [hnl])
      obtain ⟨tz, rfl⟩ : ∃ tz, w' = Value.int cs[n] tz := rw'
      have hn63 : (n : Int) < 2 ^ 63 := by
        have q := rc.length
        have h3 : ics.length ≤ sizeLine := by rw [← q]; exact hzc
        rw [List.length_map] at q
        rw [sizeLine_eq] at h3
        omega
      obtain ⟨o1, n1, g1, g2, g3, g4⟩ := plc
      have ed : cs.getD n 0 = cs[n] := by simp [hnl]
      refine key_call (s := { s2 with heap := h, toks := tk }) (xn := xn) (kp _ _ hf) (hcrec.keeps kp) (by have := hr.dp; show X.A.depth < _; omega) (hlim.keeps kp) (hbind _ _ _ _ _ _) sx scell sco sgen sk fun L h₁ tk' kp2 hns => ?_
      obtain ⟨oc, z1, z2⟩ := hcell
      obtain ⟨og, y1, y2⟩ := gcell
      rw [ed]
      have kp3 : ∀ b o, s2.heap.get? b = some o → h₁.get? b = some o := fun b o e => kp2 b o (kp b o e)
      subst h0; subst h1
      refine key_three (t := t) (s := { s2 with heap := h₁, toks := tk' }) sk sx hns (by simp) dx (hs _) (fun Q' hq => ?_) (fun k' Q' hq => ?_)
      · exact key_flag (s := { s2 with heap := h₁, toks := tk' }) (t := t) (tz := tz) (items := ics.toArray) sk sx sC sG si hclo'.1 hclo'.2 ⟨oc, kp3 _ _ z1, z2⟩ ⟨og, kp3 _ _ y1, y2⟩ ⟨o1, kp3 _ _ g1, g2, n1, g4⟩ hns (by simp) hn63 (by simpa using ew) (gm.keeps kp3) hmi (bm.keeps kp3) (bn _ (by decide)) hq dx dC dD dG dH hmk (hse0 _)
      · refine wpAny_BinOp (wpAny_Constant_int ?_)
        exact key_item (s := { s2 with heap := h₁, toks := _ }) (t := t) (items := ics.toArray) sk sx sC hclo'.1 ⟨oc, kp3 _ _ z1, z2⟩ ⟨o1, kp3 _ _ g1, g2, n1, g4⟩ hns (by simp) hn63 (by simpa using ew) (PyProof.Rows.sub_int (hq _ _)) dx dC dD
    · intro out cap h' tk kp hfree hat hlen hE
      have e1 := vals_each hE
      have hpm := List.mergeSort_perm ns (PySem.W.dataLe false fun n : Nat => PyData.tuple [.int (if g ≤ cs.getD n 0 then 1 else 0), .int (0 - cs.getD n 0), .int n])
      generalize ns.mergeSort (PySem.W.dataLe false fun n : Nat => PyData.tuple [.int (if g ≤ cs.getD n 0 then 1 else 0), .int (0 - cs.getD n 0), .int n]) = ms at e1 hpm
      have hl2 : (ms.map fun (n : Nat) => V.int n).length ≤ sizeLine := by
        rw [List.length_map] at hz ⊢
        rw [hpm.length_eq]; exact hz
      exact ⟨.ref _, upd H2 (s2.heap.objs.size + 1) (.lst (ms.map fun (n : Nat) => V.int n)), I2.laid (t' := tk) kp (Nat.le_succ _) ⟨hl2, out, cap, e1, hat⟩, rfl, q H2 _ ms hpm eN T2 (I2.hok.fresh (Nat.le_succ _))⟩

def topS (i : Nat) : Stmt := PySem.Challenge.pw_slotwraps_k65_whole_any_rule_of_reuse.main.body.getD i (.Pass ⟨0, 0, 0, 0⟩)
abbrev s_is_integer : Stmt := topS 5
abbrev s_is_between : Stmt := topS 6
abbrev s_is_rule : Stmt := topS 7
abbrev s_check_map : Stmt := topS 11
abbrev s__law_source_of : Stmt := topS 18
abbrev s__law_next : Stmt := topS 19
abbrev s__law_one : Stmt := topS 20
abbrev s_full_horizon : Stmt := topS 13
abbrev s_horizon : Stmt := topS 14
abbrev s_retired : Stmt := topS 15
abbrev s__law_chosen : Stmt := topS 22
abbrev s__law_played : Stmt := topS 23
abbrev s_law : Stmt := topS 24
theorem sc_is_integer : FnScope ["value"] ["value"] (defScope s_is_integer) := ⟨rfl, rfl, rfl, by decide +kernel, rfl, by decide +kernel, by decide +kernel⟩
theorem vs_is_integer_0 : Vis (defScope s_is_integer) "value" := Or.inl rfl
theorem lc_is_integer_0 : Loc (defScope s_is_integer) "value" := Or.inl rfl
theorem sc_is_between : FnScope ["value", "low", "high"] ["value", "low", "high"] (defScope s_is_between) := ⟨rfl, rfl, rfl, by decide +kernel, rfl, by decide +kernel, by decide +kernel⟩
theorem vs_is_between_0 : Vis (defScope s_is_between) "value" := Or.inl rfl
theorem lc_is_between_0 : Loc (defScope s_is_between) "value" := Or.inl rfl
theorem vs_is_between_1 : Vis (defScope s_is_between) "low" := Or.inl rfl
theorem lc_is_between_1 : Loc (defScope s_is_between) "low" := Or.inl rfl
theorem vs_is_between_2 : Vis (defScope s_is_between) "high" := Or.inl rfl
theorem lc_is_between_2 : Loc (defScope s_is_between) "high" := Or.inl rfl
theorem sc_is_rule : FnScope ["value"] ["value"] (defScope s_is_rule) := ⟨rfl, rfl, rfl, by decide +kernel, rfl, by decide +kernel, by decide +kernel⟩
theorem vs_is_rule_0 : Vis (defScope s_is_rule) "value" := Or.inl rfl
theorem lc_is_rule_0 : Loc (defScope s_is_rule) "value" := Or.inl rfl
theorem sc_check_map : FnScope ["n", "limit", "generations", "rule"] ["n", "limit", "generations", "rule"] (defScope s_check_map) := ⟨rfl, rfl, rfl, by decide +kernel, rfl, by decide +kernel, by decide +kernel⟩
theorem vs_check_map_0 : Vis (defScope s_check_map) "n" := Or.inl rfl
theorem lc_check_map_0 : Loc (defScope s_check_map) "n" := Or.inl rfl
theorem vs_check_map_1 : Vis (defScope s_check_map) "limit" := Or.inl rfl
theorem lc_check_map_1 : Loc (defScope s_check_map) "limit" := Or.inl rfl
theorem vs_check_map_2 : Vis (defScope s_check_map) "generations" := Or.inl rfl
theorem lc_check_map_2 : Loc (defScope s_check_map) "generations" := Or.inl rfl
theorem vs_check_map_3 : Vis (defScope s_check_map) "rule" := Or.inl rfl
theorem lc_check_map_3 : Loc (defScope s_check_map) "rule" := Or.inl rfl
theorem sc__law_source_of : FnScope ["_law_cell"] ["_law_cell"] (defScope s__law_source_of) := ⟨rfl, rfl, rfl, by decide +kernel, rfl, by decide +kernel, by decide +kernel⟩
theorem vs__law_source_of_0 : Vis (defScope s__law_source_of) "_law_cell" := Or.inl rfl
theorem lc__law_source_of_0 : Loc (defScope s__law_source_of) "_law_cell" := Or.inl rfl
theorem sc__law_next : FnScope ["_law_source", "_law_many", "_law_found", "_law_prime", "_law_number"] ["_law_source", "_law_many"] (defScope s__law_next) := ⟨rfl, rfl, rfl, by decide +kernel, rfl, by decide +kernel, by decide +kernel⟩
theorem vs__law_next_0 : Vis (defScope s__law_next) "_law_source" := Or.inl rfl
theorem lc__law_next_0 : Loc (defScope s__law_next) "_law_source" := Or.inl rfl
theorem vs__law_next_1 : Vis (defScope s__law_next) "_law_many" := Or.inl rfl
theorem lc__law_next_1 : Loc (defScope s__law_next) "_law_many" := Or.inl rfl
theorem vs__law_next_2 : Vis (defScope s__law_next) "_law_found" := Or.inl rfl
theorem lc__law_next_2 : Loc (defScope s__law_next) "_law_found" := Or.inl rfl
theorem vs__law_next_3 : Vis (defScope s__law_next) "_law_prime" := Or.inl rfl
theorem lc__law_next_3 : Loc (defScope s__law_next) "_law_prime" := Or.inl rfl
theorem vs__law_next_4 : Vis (defScope s__law_next) "_law_number" := Or.inl rfl
theorem lc__law_next_4 : Loc (defScope s__law_next) "_law_number" := Or.inl rfl
theorem sc__law_one : FnScope ["_law_source", "_law_some"] ["_law_source", "_law_some"] (defScope s__law_one) := ⟨rfl, rfl, rfl, by decide +kernel, rfl, by decide +kernel, by decide +kernel⟩
theorem vs__law_one_0 : Vis (defScope s__law_one) "_law_source" := Or.inl rfl
theorem lc__law_one_0 : Loc (defScope s__law_one) "_law_source" := Or.inl rfl
theorem vs__law_one_1 : Vis (defScope s__law_one) "_law_some" := Or.inl rfl
theorem lc__law_one_1 : Loc (defScope s__law_one) "_law_some" := Or.inl rfl
theorem sc_full_horizon : FnScope ["n", "limit", "generations"] ["n", "limit", "generations"] (defScope s_full_horizon) := ⟨rfl, rfl, rfl, by decide +kernel, rfl, by decide +kernel, by decide +kernel⟩
theorem vs_full_horizon_0 : Vis (defScope s_full_horizon) "n" := Or.inl rfl
theorem lc_full_horizon_0 : Loc (defScope s_full_horizon) "n" := Or.inl rfl
theorem vs_full_horizon_1 : Vis (defScope s_full_horizon) "limit" := Or.inl rfl
theorem lc_full_horizon_1 : Loc (defScope s_full_horizon) "limit" := Or.inl rfl
theorem vs_full_horizon_2 : Vis (defScope s_full_horizon) "generations" := Or.inl rfl
theorem lc_full_horizon_2 : Loc (defScope s_full_horizon) "generations" := Or.inl rfl
theorem sc_horizon : FnScope ["n", "limit", "generations", "rule"] ["n", "limit", "generations", "rule"] (defScope s_horizon) := ⟨rfl, rfl, rfl, by decide +kernel, rfl, by decide +kernel, by decide +kernel⟩
theorem vs_horizon_0 : Vis (defScope s_horizon) "n" := Or.inl rfl
theorem lc_horizon_0 : Loc (defScope s_horizon) "n" := Or.inl rfl
theorem vs_horizon_1 : Vis (defScope s_horizon) "limit" := Or.inl rfl
theorem lc_horizon_1 : Loc (defScope s_horizon) "limit" := Or.inl rfl
theorem vs_horizon_2 : Vis (defScope s_horizon) "generations" := Or.inl rfl
theorem lc_horizon_2 : Loc (defScope s_horizon) "generations" := Or.inl rfl
theorem vs_horizon_3 : Vis (defScope s_horizon) "rule" := Or.inl rfl
theorem lc_horizon_3 : Loc (defScope s_horizon) "rule" := Or.inl rfl
theorem sc_retired : FnScope ["n", "limit", "generations"] ["n", "limit", "generations"] (defScope s_retired) := ⟨rfl, rfl, rfl, by decide +kernel, rfl, by decide +kernel, by decide +kernel⟩
theorem vs_retired_0 : Vis (defScope s_retired) "n" := Or.inl rfl
theorem lc_retired_0 : Loc (defScope s_retired) "n" := Or.inl rfl
theorem vs_retired_1 : Vis (defScope s_retired) "limit" := Or.inl rfl
theorem lc_retired_1 : Loc (defScope s_retired) "limit" := Or.inl rfl
theorem vs_retired_2 : Vis (defScope s_retired) "generations" := Or.inl rfl
theorem lc_retired_2 : Loc (defScope s_retired) "generations" := Or.inl rfl
theorem sc__law_chosen : FnScope ["_law_source", "_law_rule", "_law_free", "_law_counts", "_law_generations", "_law_one_here"] ["_law_source", "_law_rule", "_law_free", "_law_counts", "_law_generations"] (defScope s__law_chosen) := ⟨rfl, rfl, rfl, by decide +kernel, rfl, by decide +kernel, by decide +kernel⟩
theorem vs__law_chosen_0 : Vis (defScope s__law_chosen) "_law_source" := Or.inl rfl
theorem lc__law_chosen_0 : Loc (defScope s__law_chosen) "_law_source" := Or.inl rfl
theorem vs__law_chosen_1 : Vis (defScope s__law_chosen) "_law_rule" := Or.inl rfl
theorem lc__law_chosen_1 : Loc (defScope s__law_chosen) "_law_rule" := Or.inl rfl
theorem vs__law_chosen_2 : Vis (defScope s__law_chosen) "_law_free" := Or.inl rfl
theorem lc__law_chosen_2 : Loc (defScope s__law_chosen) "_law_free" := Or.inl rfl
theorem vs__law_chosen_3 : Vis (defScope s__law_chosen) "_law_counts" := Or.inr (Or.inl rfl)
theorem lc__law_chosen_3 : Loc (defScope s__law_chosen) "_law_counts" := Or.inr rfl
theorem vs__law_chosen_4 : Vis (defScope s__law_chosen) "_law_generations" := Or.inr (Or.inl rfl)
theorem lc__law_chosen_4 : Loc (defScope s__law_chosen) "_law_generations" := Or.inr rfl
theorem sc__law_played : FnScope ["_law_source", "_law_rule", "_law_n", "_law_limit", "_law_generations", "_law_is_retiring", "_law_free", "_law_counts", "_law_number", "_law_slot"] ["_law_source", "_law_rule", "_law_n", "_law_limit", "_law_generations", "_law_is_retiring"] (defScope s__law_played) := ⟨rfl, rfl, rfl, by decide +kernel, rfl, by decide +kernel, by decide +kernel⟩
theorem vs__law_played_0 : Vis (defScope s__law_played) "_law_source" := Or.inl rfl
theorem lc__law_played_0 : Loc (defScope s__law_played) "_law_source" := Or.inl rfl
theorem vs__law_played_1 : Vis (defScope s__law_played) "_law_rule" := Or.inl rfl
theorem lc__law_played_1 : Loc (defScope s__law_played) "_law_rule" := Or.inl rfl
theorem vs__law_played_2 : Vis (defScope s__law_played) "_law_n" := Or.inl rfl
theorem lc__law_played_2 : Loc (defScope s__law_played) "_law_n" := Or.inl rfl
theorem vs__law_played_3 : Vis (defScope s__law_played) "_law_limit" := Or.inl rfl
theorem lc__law_played_3 : Loc (defScope s__law_played) "_law_limit" := Or.inl rfl
theorem vs__law_played_4 : Vis (defScope s__law_played) "_law_generations" := Or.inl rfl
theorem lc__law_played_4 : Loc (defScope s__law_played) "_law_generations" := Or.inl rfl
theorem vs__law_played_5 : Vis (defScope s__law_played) "_law_is_retiring" := Or.inl rfl
theorem lc__law_played_5 : Loc (defScope s__law_played) "_law_is_retiring" := Or.inl rfl
theorem vs__law_played_6 : Vis (defScope s__law_played) "_law_free" := Or.inl rfl
theorem lc__law_played_6 : Loc (defScope s__law_played) "_law_free" := Or.inl rfl
theorem vs__law_played_7 : Vis (defScope s__law_played) "_law_counts" := Or.inl rfl
theorem lc__law_played_7 : Loc (defScope s__law_played) "_law_counts" := Or.inl rfl
theorem vs__law_played_8 : Vis (defScope s__law_played) "_law_number" := Or.inl rfl
theorem lc__law_played_8 : Loc (defScope s__law_played) "_law_number" := Or.inl rfl
theorem vs__law_played_9 : Vis (defScope s__law_played) "_law_slot" := Or.inl rfl
theorem lc__law_played_9 : Loc (defScope s__law_played) "_law_slot" := Or.inl rfl
theorem sc_law : FnScope ["_law_script", "_law_cell", "_law_source", "_law_n", "_law_limit", "_law_generations", "_law_most", "_law_rule", "_law_found"] ["_law_script"] (defScope s_law) := ⟨rfl, rfl, rfl, by decide +kernel, rfl, by decide +kernel, by decide +kernel⟩
theorem vs_law_0 : Vis (defScope s_law) "_law_script" := Or.inl rfl
theorem lc_law_0 : Loc (defScope s_law) "_law_script" := Or.inl rfl
theorem vs_law_1 : Vis (defScope s_law) "_law_cell" := Or.inl rfl
theorem lc_law_1 : Loc (defScope s_law) "_law_cell" := Or.inl rfl
theorem vs_law_2 : Vis (defScope s_law) "_law_source" := Or.inl rfl
theorem lc_law_2 : Loc (defScope s_law) "_law_source" := Or.inl rfl
theorem vs_law_3 : Vis (defScope s_law) "_law_n" := Or.inl rfl
theorem lc_law_3 : Loc (defScope s_law) "_law_n" := Or.inl rfl
theorem vs_law_4 : Vis (defScope s_law) "_law_limit" := Or.inl rfl
theorem lc_law_4 : Loc (defScope s_law) "_law_limit" := Or.inl rfl
theorem vs_law_5 : Vis (defScope s_law) "_law_generations" := Or.inl rfl
theorem lc_law_5 : Loc (defScope s_law) "_law_generations" := Or.inl rfl
theorem vs_law_6 : Vis (defScope s_law) "_law_most" := Or.inl rfl
theorem lc_law_6 : Loc (defScope s_law) "_law_most" := Or.inl rfl
theorem vs_law_7 : Vis (defScope s_law) "_law_rule" := Or.inl rfl
theorem lc_law_7 : Loc (defScope s_law) "_law_rule" := Or.inl rfl
theorem vs_law_8 : Vis (defScope s_law) "_law_found" := Or.inl rfl
theorem lc_law_8 : Loc (defScope s_law) "_law_found" := Or.inl rfl
structure Txt (K : PySem.W.Frag) (mg : Str → Option Value) where
  z_bool : mg "bool" = none
  z_int : mg "int" = none
  z_isinstance : mg "isinstance" = none
  z_len : mg "len" = none
  z_list : mg "list" = none
  z_range : mg "range" = none
  z_sorted : mg "sorted" = none
  z_str : mg "str" = none
  g_MOST_SLOTS : ∃ t, mg "MOST_SLOTS" = some (.int 64 t)
  g_MOST_GENERATIONS : ∃ t, mg "MOST_GENERATIONS" = some (.int 1000000000 t)
  g_RULES : ∃ a, mg "RULES" = some (.ref a) ∧ ∀ H, SqT K H a [.str "last", .str "first", .str "lowest", .str "least"]
  f_is_integer : Addr
  fd_is_integer : FuncData
  F_is_integer : Fun K "is_integer" "is_integer" s_is_integer f_is_integer fd_is_integer
  m_is_integer : mg "is_integer" = some (.ref f_is_integer)
  b_is_integer : Binds K fd_is_integer ["value"] []
  f_is_between : Addr
  fd_is_between : FuncData
  F_is_between : Fun K "is_between" "is_between" s_is_between f_is_between fd_is_between
  m_is_between : mg "is_between" = some (.ref f_is_between)
  kb_is_between : KBn K fd_is_between ["value", "low", "high"] 1 ["low", "high"] (fun us ws => us ++ ws) (fun vs zs => vs ++ zs)
  f_is_rule : Addr
  fd_is_rule : FuncData
  F_is_rule : Fun K "is_rule" "is_rule" s_is_rule f_is_rule fd_is_rule
  m_is_rule : mg "is_rule" = some (.ref f_is_rule)
  b_is_rule : Binds K fd_is_rule ["value"] []
  f_check_map : Addr
  fd_check_map : FuncData
  F_check_map : Fun K "check_map" "check_map" s_check_map f_check_map fd_check_map
  m_check_map : mg "check_map" = some (.ref f_check_map)
  b_check_map : Binds K fd_check_map ["n", "limit", "generations", "rule"] []
  f__law_source_of : Addr
  fd__law_source_of : FuncData
  F__law_source_of : Fun K "_law_source_of" "_law_source_of" s__law_source_of f__law_source_of fd__law_source_of
  m__law_source_of : mg "_law_source_of" = some (.ref f__law_source_of)
  b__law_source_of : Binds K fd__law_source_of ["_law_cell"] []
  f__law_next : Addr
  fd__law_next : FuncData
  F__law_next : Fun K "_law_next" "_law_next" s__law_next f__law_next fd__law_next
  m__law_next : mg "_law_next" = some (.ref f__law_next)
  b__law_next : Binds K fd__law_next ["_law_source", "_law_many"] []
  f__law_one : Addr
  fd__law_one : FuncData
  F__law_one : Fun K "_law_one" "_law_one" s__law_one f__law_one fd__law_one
  m__law_one : mg "_law_one" = some (.ref f__law_one)
  b__law_one : Binds K fd__law_one ["_law_source", "_law_some"] []
  f_full_horizon : Addr
  fd_full_horizon : FuncData
  F_full_horizon : Fun K "full_horizon" "full_horizon" s_full_horizon f_full_horizon fd_full_horizon
  m_full_horizon : mg "full_horizon" = some (.ref f_full_horizon)
  b_full_horizon : Binds K fd_full_horizon ["n", "limit", "generations"] []
  f_horizon : Addr
  fd_horizon : FuncData
  F_horizon : Fun K "horizon" "horizon" s_horizon f_horizon fd_horizon
  m_horizon : mg "horizon" = some (.ref f_horizon)
  b_horizon : Binds K fd_horizon ["n", "limit", "generations", "rule"] []
  f_retired : Addr
  fd_retired : FuncData
  F_retired : Fun K "retired" "retired" s_retired f_retired fd_retired
  m_retired : mg "retired" = some (.ref f_retired)
  b_retired : Binds K fd_retired ["n", "limit", "generations"] []
  f__law_chosen : Addr
  fd__law_chosen : FuncData
  c__law_chosen : Addr
  P__law_chosen : Addr
  FC__law_chosen : FunC K "_law_chosen" "_law_chosen" s__law_chosen f__law_chosen fd__law_chosen c__law_chosen
  F__law_chosen : Fun K "_law_chosen" "_law_chosen" s__law_chosen f__law_chosen fd__law_chosen
  m__law_chosen : mg "_law_chosen" = some (.ref f__law_chosen)
  b__law_chosen : Binds K fd__law_chosen ["_law_source", "_law_rule", "_law_free", "_law_counts", "_law_generations"] []
  f__law_played : Addr
  fd__law_played : FuncData
  F__law_played : Fun K "_law_played" "_law_played" s__law_played f__law_played fd__law_played
  m__law_played : mg "_law_played" = some (.ref f__law_played)
  b__law_played : Binds K fd__law_played ["_law_source", "_law_rule", "_law_n", "_law_limit", "_law_generations", "_law_is_retiring"] []
  f_law : Addr
  fd_law : FuncData
  F_law : Fun K "law" "law" s_law f_law fd_law
  m_law : mg "law" = some (.ref f_law)
  b_law : Binds K fd_law ["_law_script"] []
  nP : [P__law_chosen].Nodup
abbrev Txt.tabs {K : PySem.W.Frag} {mg : Str → Option Value} (T : Txt K mg) : List (Addr × Str) := [(T.P__law_chosen, "_law_chosen.<locals>.<lambda>")]
abbrev Txt.codes {K : PySem.W.Frag} {mg : Str → Option Value} (T : Txt K mg) : List (Addr × Addr) := [(T.c__law_chosen, T.P__law_chosen)]
def TBs {K : PySem.W.Frag} {mg : Str → Option Value} (T : Txt K mg) (base : Heap) : Prop := ∀ q ∈ T.codes, LamX.TabB base mg q.1 q.2
theorem Txt.tb__law_chosen {K : PySem.W.Frag} {mg : Str → Option Value} {T : Txt K mg} {base : Heap} (h : TBs T base) : LamX.TabB base mg T.c__law_chosen T.P__law_chosen := h (T.c__law_chosen, T.P__law_chosen) (by simp [Txt.codes])
theorem Txt.mem__law_chosen {K : PySem.W.Frag} {mg : Str → Option Value} (T : Txt K mg) : (T.P__law_chosen, ("_law_chosen.<locals>.<lambda>" : Str)) ∈ T.tabs := by simp [Txt.tabs]
theorem Txt.one__law_chosen {K : PySem.W.Frag} {mg : Str → Option Value} (T : Txt K mg) : ∀ q ∈ T.tabs, q.1 = T.P__law_chosen → q.2 = ("_law_chosen.<locals>.<lambda>" : Str) := by
  intro q hq e
  have n := T.nP
  simp only [Txt.tabs, List.mem_cons, List.not_mem_nil, or_false] at hq
  simp only [List.nodup_cons, List.mem_cons, List.not_mem_nil, or_false, not_or] at n
  rcases hq with rfl <;> first | rfl | (exfalso; simp only at e; grind)
section
variable {P : Program} {w : World} {K : PySem.W.Frag} {mg : Str → Option Value} {base : Heap}
theorem ok_is_integer (T : Txt K mg) (TB : TBs T base) : FnOk P w K mg base CX0 1 T.f_is_integer T.fd_is_integer ["value"] (spIsInt K) := by
  refine T.F_is_integer.ok sc_is_integer (fun vs H Q E h => ?_) (fun cdv A outer s H vs Q E hr h => ?_)
  · obtain ⟨v, t, rfl, _⟩ := h; rfl
  · obtain ⟨v, t, rfl, kn, k⟩ := h
    refine ⟨_, (pss_one (ps_ret (pe_and (pe_callB (isiK (K := K)) (by rfl) T.z_isinstance (by decide +kernel) (pa_cons (pv 0 rfl vs_is_integer_0) (pa_cons (pe_ty (n := "int") (by rfl) T.z_int (by decide +kernel)) pa_nil))) (pe_one (pe_not (pe_callB (isiK (K := K)) (by rfl) T.z_isinstance (by decide +kernel) (pa_cons (pv 0 rfl vs_is_integer_0) (pa_cons (pe_ty (n := "bool") (by rfl) T.z_bool (by decide +kernel)) pa_nil)))))))), ?_⟩
    walk_at "go"
    cases kn <;> (walk_at "rd"; exact k)

theorem ok_is_between (T : Txt K mg) (TB : TBs T base) : FnOk P w K mg base CX0 2 T.f_is_between T.fd_is_between ["value", "low", "high"] (spBetween K) := by
  refine T.F_is_between.ok sc_is_between (fun vs H Q E h => ?_) (fun cdv A outer s H vs Q E hr h => ?_)
  · obtain ⟨v, t, lo, hi, rfl, _⟩ := h; rfl
  · obtain ⟨v, t, lo, hi, rfl, kn, k⟩ := h
    refine ⟨_, (pss_one (ps_ret (pe_and (pe_call (ok_is_integer T TB) (hr.mono (by decide)) rfl T.m_is_integer T.F_is_integer.kp T.b_is_integer .nil pass0 (pa_cons (pv 0 rfl vs_is_between_0) pa_nil)) (pe_one (pe_chain op_le op_le (pv 1 rfl vs_is_between_1) (pv 0 rfl vs_is_between_0) (pv 2 rfl vs_is_between_2)))))), ?_⟩
    walk_at "go"
    walk_at "rd"
    refine ⟨v, t, rfl, kn, ?_⟩
    cases v with
    | int i =>
      refine ⟨_, rfl, if_T (b := isInt (.int i)) rfl ?_⟩
      walk_at "rd"
      by_cases h1 : lo ≤ i
      · refine if_T (decide_eq_true h1) ?_
        walk_at "rd"
        have e : inBnd lo hi (.int i) = decide (i ≤ hi) := by simp [inBnd, h1]
        rw [e] at k
        exact k
      · refine if_F (decide_eq_false h1) ?_
        have e : inBnd lo hi (.int i) = false := by simp [inBnd, h1]
        rw [e] at k
        exact k
    | _ => exact ⟨_, rfl, if_F (b := isInt _) rfl k⟩

theorem ok_is_rule (T : Txt K mg) (TB : TBs T base) : FnOk P w K mg base CX0 1 T.f_is_rule T.fd_is_rule ["value"] (spIsRule K) := by
  refine T.F_is_rule.ok sc_is_rule (fun vs H Q E h => ?_) (fun cdv A outer s H vs Q E hr h => ?_)
  · obtain ⟨v, t, rfl, _⟩ := h; rfl
  · obtain ⟨v, t, rfl, kn, k⟩ := h
    refine ⟨_, (pss_one (ps_ret (pe_and (pe_callB (isiK (K := K)) (by rfl) T.z_isinstance (by decide +kernel) (pa_cons (pv 0 rfl vs_is_rule_0) (pa_cons (pe_ty (n := "str") (by rfl) T.z_str (by decide +kernel)) pa_nil))) (pe_one (pe_cmpR (inK (K := K)) (pv 0 rfl vs_is_rule_0) (pe_gt rfl T.g_RULES) (by rfl)))))), ?_⟩
    walk_at "go"
    cases kn with
    | str x =>
      walk_at "rd"
      intro a ha
      exact r_inT ha rfl (by decide) k
    | _ => walk_at "rd"; exact k

theorem inBnd_of {lo hi i : Int} (h1 : lo ≤ i) (h2 : i ≤ hi) : inBnd lo hi (.int i) = true := by simp [inBnd, h1, h2]
theorem isRl_s (r : Rl) : isRl (.str r.s) = true := by cases r <;> decide +kernel
theorem ok_check_map (T : Txt K mg) (TB : TBs T base) : FnOk P w K mg base CX0 3 T.f_check_map T.fd_check_map ["n", "limit", "generations", "rule"] spCheck := by
  refine T.F_check_map.ok sc_check_map (fun vs H Q E h => ?_) (fun cdv A outer s H vs Q E hr h => ?_)
  · obtain ⟨n, l, g, r, rfl, _⟩ := h; rfl
  · obtain ⟨n, l, g, r, rfl, ⟨h1, h2, h3, h4, h5, h6⟩, k⟩ := h
    refine ⟨_, (pss_cons (ps_if (pt_not (pt_val (pe_callN (ok_is_between T TB) (hr.mono (by decide)) rfl T.m_is_between T.F_is_between.kp T.kb_is_between pass0 (pa_cons (pv 0 rfl vs_check_map_0) pa_nil) (pk_cons pe_int (pk_cons (pe_gk rfl T.g_MOST_SLOTS) pk_nil))))) (pss_one ps_never) pss_nil)
  (pss_cons (ps_if (pt_not (pt_val (pe_callN (ok_is_between T TB) (hr.mono (by decide)) rfl T.m_is_between T.F_is_between.kp T.kb_is_between pass0 (pa_cons (pv 1 rfl vs_check_map_1) pa_nil) (pk_cons pe_int (pk_cons (pv 0 rfl vs_check_map_0) pk_nil))))) (pss_one ps_never) pss_nil)
  (pss_cons (ps_if (pt_not (pt_val (pe_callN (ok_is_between T TB) (hr.mono (by decide)) rfl T.m_is_between T.F_is_between.kp T.kb_is_between pass0 (pa_cons (pv 2 rfl vs_check_map_2) pa_nil) (pk_cons pe_int (pk_cons (pe_gk rfl T.g_MOST_GENERATIONS) pk_nil))))) (pss_one ps_never) pss_nil)
  (pss_one (ps_if (pt_not (pt_val (pe_call (ok_is_rule T TB) (hr.mono (by decide)) rfl T.m_is_rule T.F_is_rule.kp T.b_is_rule .nil pass0 (pa_cons (pv 3 rfl vs_check_map_3) pa_nil)))) (pss_one ps_never) pss_nil))))), ?_⟩
    walk_at "go"
    walk_at "rd"
    refine ⟨rfl, rfl, _, _, _, _, rfl, .int n, ?_⟩
    rw [inBnd_of h1 h2]
    walk_at "rd"
    refine ⟨rfl, rfl, _, _, _, _, rfl, .int l, ?_⟩
    rw [inBnd_of h3 h4]
    walk_at "rd"
    refine ⟨rfl, rfl, _, _, _, _, rfl, .int g, ?_⟩
    rw [inBnd_of h5 h6]
    walk_at "rd"
    refine ⟨_, _, rfl, .str _, ?_⟩
    rw [isRl_s]
    walk_at "rd"
    exact k

def spSource : Sp := fun vs H Q _ => ∃ c : Int, vs = [.int c] ∧ ∀ (p : Addr) (H' : Hp), H p = none → Src H' p → Same H H' → Q (.ref p) H'
theorem ok__law_source_of (T : Txt K mg) (TB : TBs T base) : FnOk P w K mg base CX0 1 T.f__law_source_of T.fd__law_source_of ["_law_cell"] spSource := by
  refine T.F__law_source_of.ok sc__law_source_of (fun vs H Q E h => ?_) (fun cdv A outer s H vs Q E hr h => ?_)
  · obtain ⟨c, rfl, _⟩ := h; rfl
  · obtain ⟨c, rfl, k⟩ := h
    refine ⟨_, (pss_cons (ps_set (i := 0) sc__law_source_of.nd rfl lc__law_source_of_0 (pe_ifExp (pt_cmpR op_ge (pv 0 rfl vs__law_source_of_0) pe_int (nomark _)) (pv 0 rfl vs__law_source_of_0) (pe_op op_sub (pe_op op_sub pe_int (pe_op op_mul pe_int (pv 0 rfl vs__law_source_of_0))) pe_int)))
  (pss_one (ps_ret (pe_lst (pa_cons (pe_op op_mul (pv 0 rfl vs__law_source_of_0) (pe_callTy c_int (by rfl) T.z_int (by decide +kernel) (pa_cons (pe_cmpR op_ge (pv 0 rfl vs__law_source_of_0) (pe_op op_pow pe_int pe_int) (nomark _)) pa_nil))) (pa_cons (pe_op op_mod (pe_callTy c_int (by rfl) T.z_int (by decide +kernel) (pa_cons (pv 0 rfl vs__law_source_of_0) pa_nil)) pe_int) (pa_cons pe_int pa_nil))))))), ?_⟩
    walk_at "go"
    walk_at "rd"
    refine if_d (fun c0 => ?_) (fun c0 => ?_)
    · walk_at "rd"
      exact fun p hp => k p _ hp ⟨_, _, _, upd_same⟩ (Same.upd (Same.refl H) hp)
    · walk_at "rd"
      exact fun p hp => k p _ hp ⟨_, _, _, upd_same⟩ (Same.upd (Same.refl H) hp)
/-! use -/
theorem u_source {C : Addr} {Tb : List (Addr × Str)} {K : PySem.W.Frag} {H : Hp} {L : List R} {Q : VK} {E : XK} {c : Int} (S : Sep C K Tb H L) (k : ∀ p H', Sep C K Tb H' (.src p :: L) → Q (.ref p) H') : spSource [.int c] H Q E := ⟨c, rfl, fun p H' n s o => k p H' (S.readSrc n s o)⟩

theorem ok__law_next (T : Txt K mg) (TB : TBs T base) : FnOk P w K mg base CX0 1 T.f__law_next T.fd__law_next ["_law_source", "_law_many"] spNext := by
  refine T.F__law_next.ok sc__law_next (fun vs H Q E h => ?_) (fun cdv A outer s H vs Q E hr h => ?_)
  · obtain ⟨s, m, rfl, _⟩ := h; rfl
  · obtain ⟨s, m, rfl, ⟨a, b, c, hs⟩, h0, h1, k⟩ := h
    refine ⟨_, (pss_cons (ps_if (pt_cmpR op_gt (pe_ix (ixL (K := K)) (pv 0 rfl vs__law_next_0) pe_int (fun _ _ => rfl)) pe_int (nomark _)) (pss_cons (ps_set (i := 2) sc__law_next.nd rfl lc__law_next_2 (pe_op op_mod (pe_callTy c_int (by rfl) T.z_int (by decide +kernel) (pa_cons (pe_ix (ixL (K := K)) (pv 0 rfl vs__law_next_0) pe_int (fun _ _ => rfl)) pa_nil)) (pv 1 rfl vs__law_next_1)))
  (pss_cons (ps_asg (pe_op op_fdiv (pe_ix (ixL (K := K)) (pv 0 rfl vs__law_next_0) pe_int (fun _ _ => rfl)) (pv 1 rfl vs__law_next_1)) (pg_sub (pv 0 rfl vs__law_next_0) pe_int set_list))
  (pss_one (ps_ret (pv 2 rfl vs__law_next_2))))) pss_nil)
  (pss_cons (ps_asg (pe_op op_add (pe_ix (ixL (K := K)) (pv 0 rfl vs__law_next_0) pe_int (fun _ _ => rfl)) pe_int) (pg_sub (pv 0 rfl vs__law_next_0) pe_int set_list))
  (pss_cons (ps_set (i := 3) sc__law_next.nd rfl lc__law_next_3 pe_int)
  (pss_cons (ps_set (i := 4) sc__law_next.nd rfl lc__law_next_4 (pe_op op_mod (pe_callTy c_int (by rfl) T.z_int (by decide +kernel) (pa_cons (pe_op op_add (pe_op op_add (pe_ix (ixL (K := K)) (pv 0 rfl vs__law_next_0) pe_int (fun _ _ => rfl)) (pe_op op_mul pe_int (pe_ix (ixL (K := K)) (pv 0 rfl vs__law_next_0) pe_int (fun _ _ => rfl)))) pe_int) pa_nil)) (pv 3 rfl vs__law_next_3)))
  (pss_cons (ps_set (i := 4) sc__law_next.nd rfl lc__law_next_4 (pe_op op_mod (pe_callTy c_int (by rfl) T.z_int (by decide +kernel) (pa_cons (pe_op op_mul (pv 4 rfl vs__law_next_4) pe_int) pa_nil)) (pv 3 rfl vs__law_next_3)))
  (pss_cons (ps_set (i := 4) sc__law_next.nd rfl lc__law_next_4 (pe_op op_mod (pe_callTy c_int (by rfl) T.z_int (by decide +kernel) (pa_cons (pe_op op_mul (pv 4 rfl vs__law_next_4) (pe_op op_add (pe_op op_fdiv (pv 4 rfl vs__law_next_4) pe_int) pe_int)) pa_nil)) (pv 3 rfl vs__law_next_3)))
  (pss_cons (ps_set (i := 4) sc__law_next.nd rfl lc__law_next_4 (pe_op op_mod (pe_callTy c_int (by rfl) T.z_int (by decide +kernel) (pa_cons (pe_op op_mul (pv 4 rfl vs__law_next_4) (pe_op op_add (pe_op op_fdiv (pv 4 rfl vs__law_next_4) pe_int) pe_int)) pa_nil)) pe_int))
  (pss_one (ps_ret (pe_op op_mod (pe_callTy c_int (by rfl) T.z_int (by decide +kernel) (pa_cons (pe_op op_fdiv (pv 4 rfl vs__law_next_4) pe_int) pa_nil)) (pv 1 rfl vs__law_next_1))))))))))), ?_⟩
    walk_at "go"
    walk_at "rd"
    refine if_d (fun c0 => ?_) (fun c0 => ?_)
    · walk_at "rd"
      exact k _ _ (Int.emod_nonneg _ (by omega)) (Int.emod_lt_of_pos _ h0) ⟨_, _, _, upd_same⟩ fun b hb => upd_ne hb
    · walk_at "rd"
      exact k _ _ (Int.emod_nonneg _ (by omega)) (Int.emod_lt_of_pos _ h0) ⟨_, _, _, upd_same⟩ fun b hb => upd_ne hb
/-! use -/
theorem u_next {C : Addr} {Tb : List (Addr × Str)} {K : PySem.W.Frag} {H : Hp} {L L' : List R} {Q : VK} {E : XK} {s : Addr} {m : Int} (S : Sep C K Tb H L) (pk : Pick (.src s) L L') (h0 : 0 < m) (h1 : m < 1073741824) (k : ∀ (r : Nat) H', (r : Int) < m → Sep C K Tb H' (.src s :: L') → Q (.int (r : Int)) H') : spNext [.ref s, .int m] H Q E :=
  ⟨s, m, rfl, S.getS pk.mem, h0, h1, fun r H' r0 r1 s' o => by
    obtain ⟨j, rfl⟩ : ∃ j : Nat, r = (j : Int) := ⟨r.toNat, by omega⟩
    exact k j H' r1 (S.draw pk s' o)⟩

def spOne (K : PySem.W.Frag) : Sp := fun vs H Q _ => ∃ (s l : Addr) (xs : List V), vs = [.ref s, .ref l] ∧ Src H s ∧ l ≠ s ∧ SqL K H l xs ∧ 0 < xs.length ∧ xs.length < 1073741824 ∧ ∀ (v : V) (H' : Hp), v ∈ xs → Src H' s → Off s H H' → Q v H'
theorem ok__law_one (T : Txt K mg) (TB : TBs T base) : FnOk P w K mg base CX0 2 T.f__law_one T.fd__law_one ["_law_source", "_law_some"] (spOne K) := by
  refine T.F__law_one.ok sc__law_one (fun vs H Q E h => ?_) (fun cdv A outer s H vs Q E hr h => ?_)
  · obtain ⟨s, l, xs, rfl, _⟩ := h; rfl
  · obtain ⟨s, l, xs, rfl, hs, hn, hl, h0, h1, k⟩ := h
    refine ⟨_, (pss_one (ps_ret (pe_ix (ixL (K := K)) (pv 1 rfl vs__law_one_1) (pe_call (ok__law_next T TB) (hr.mono (by decide)) rfl T.m__law_next T.F__law_next.kp T.b__law_next .nil pass0 (pa_cons (pv 0 rfl vs__law_one_0) (pa_cons (pe_callB (c_len (K := K)) (by rfl) T.z_len (by decide +kernel) (pa_cons (pv 1 rfl vs__law_one_1) pa_nil)) pa_nil))) (fun _ _ => rfl)))), ?_⟩
    walk_at "go"
    walk_at "rd"
    refine r_lenl hl ?_
    walk_at "rd"
    refine ⟨s, _, rfl, hs, by omega, by omega, fun r H' r0 r1 hs' off => ?_⟩
    obtain ⟨j, rfl⟩ : ∃ j : Nat, r = (j : Int) := ⟨r.toNat, by omega⟩
    have hj : j < xs.length := by omega
    refine r_ixl (off.kp.seq hn hl) (atI_nat (List.getElem?_eq_getElem hj)) ?_
    exact k _ _ (List.getElem_mem hj) hs' off
/-! use -/
theorem u_one {C : Addr} {Tb : List (Addr × Str)} {K : PySem.W.Frag} {H : Hp} {L L' : List R} {Q : VK} {E : XK} {s l : Addr} {xs : List V} (S : Sep C K Tb H L) (pk : Pick (.src s) L L') (hl : R.cell l (.lst xs) ∈ L') (h0 : 0 < xs.length) (h1 : xs.length ≤ 1000000) (k : ∀ v H', v ∈ xs → Sep C K Tb H' (.src s :: L') → Q v H') : spOne K [.ref s, .ref l] H Q E := by
  have S' := S.pick pk
  refine ⟨s, l, xs, rfl, S.getS pk.mem, ?_, SqL.of (S'.get (List.mem_cons_of_mem _ hl)), h0, by omega, fun v H' m s' o => k v H' m (S.draw pk s' o)⟩
  obtain ⟨⟨Φ, _, F, f, _, h3⟩, _⟩ := S'
  obtain ⟨G, g, u⟩ := h3.at hl
  intro e
  exact (u l ((g.2.2 l).mpr rfl)).2 ((f.2 l).mpr e)

theorem ok_full_horizon (T : Txt K mg) (TB : TBs T base) : FnOk P w K mg base CX0 1 T.f_full_horizon T.fd_full_horizon ["n", "limit", "generations"] spFull := by
  refine T.F_full_horizon.ok sc_full_horizon (fun vs H Q E h => ?_) (fun cdv A outer s H vs Q E hr h => ?_)
  · obtain ⟨n, l, g, rfl, _⟩ := h; rfl
  · obtain ⟨n, l, g, rfl, h1, h2, k⟩ := h
    refine ⟨_, (pss_one (ps_ret (pe_op op_add (pe_op op_mul (pv 2 rfl vs_full_horizon_2) (pe_op op_add (pe_op op_sub (pv 0 rfl vs_full_horizon_0) (pv 1 rfl vs_full_horizon_1)) pe_int)) (pv 1 rfl vs_full_horizon_1)))), ?_⟩
    walk_at "go"
    walk_at "rd"
    exact k

theorem ok_horizon (T : Txt K mg) (TB : TBs T base) : FnOk P w K mg base CX0 4 T.f_horizon T.fd_horizon ["n", "limit", "generations", "rule"] spHorizon := by
  refine T.F_horizon.ok sc_horizon (fun vs H Q E h => ?_) (fun cdv A outer s H vs Q E hr h => ?_)
  · obtain ⟨n, l, g, r, rfl, _⟩ := h; rfl
  · obtain ⟨n, l, g, r, rfl, ha, k⟩ := h
    have h1 := ha.g1
    have h2 := ha.g2
    refine ⟨_, (pss_cons (ps_expr (pe_call (ok_check_map T TB) (hr.mono (by decide)) rfl T.m_check_map T.F_check_map.kp T.b_check_map .nil pass0 (pa_cons (pv 0 rfl vs_horizon_0) (pa_cons (pv 1 rfl vs_horizon_1) (pa_cons (pv 2 rfl vs_horizon_2) (pa_cons (pv 3 rfl vs_horizon_3) pa_nil))))))
  (pss_cons (ps_if (pt_cmpR (inK (K := K)) (pv 3 rfl vs_horizon_3) (pe_tup (pa_cons pe_str (pa_cons pe_str pa_nil))) (by rfl)) (pss_one (ps_ret (pe_op op_add (pv 2 rfl vs_horizon_2) pe_int))) pss_nil)
  (pss_one (ps_ret (pe_call (ok_full_horizon T TB) (hr.mono (by decide)) rfl T.m_full_horizon T.F_full_horizon.kp T.b_full_horizon .nil pass0 (pa_cons (pv 0 rfl vs_horizon_0) (pa_cons (pv 1 rfl vs_horizon_1) (pa_cons (pv 2 rfl vs_horizon_2) pa_nil)))))))), ?_⟩
    walk_at "go"
    walk_at "rd"
    refine ⟨n, l, g, r, rfl, ha, ?_⟩
    walk_at "rd"
    intro p hp
    have s1 : Same H (upd H p (.tup [V.str "last", V.str "lowest"])) := Same.upd (Same.refl H) hp
    refine r_inT (SqT.of upd_same) rfl (by decide) ?_
    cases r with
    | last => refine ⟨_, rfl, if_T (by decide +kernel) ?_⟩; walk_at "rd"; exact k _ s1
    | lowest => refine ⟨_, rfl, if_T (by decide +kernel) ?_⟩; walk_at "rd"; exact k _ s1
    | first => refine ⟨_, rfl, if_F (by decide +kernel) ?_⟩; walk_at "rd"; refine ⟨n, l, g, rfl, h1, h2, ?_⟩; walk_at "rd"; exact k _ s1
    | least => refine ⟨_, rfl, if_F (by decide +kernel) ?_⟩; walk_at "rd"; refine ⟨n, l, g, rfl, h1, h2, ?_⟩; walk_at "rd"; exact k _ s1

theorem ok_retired (T : Txt K mg) (TB : TBs T base) : FnOk P w K mg base CX0 4 T.f_retired T.fd_retired ["n", "limit", "generations"] spRetired := by
  refine T.F_retired.ok sc_retired (fun vs H Q E h => ?_) (fun cdv A outer s H vs Q E hr h => ?_)
  · obtain ⟨n, l, g, rfl, _⟩ := h; rfl
  · obtain ⟨n, l, g, rfl, ha, k⟩ := h
    refine ⟨_, (pss_cons (ps_expr (pe_call (ok_check_map T TB) (hr.mono (by decide)) rfl T.m_check_map T.F_check_map.kp T.b_check_map .nil pass0 (pa_cons (pv 0 rfl vs_retired_0) (pa_cons (pv 1 rfl vs_retired_1) (pa_cons (pv 2 rfl vs_retired_2) (pa_cons pe_str pa_nil))))))
  (pss_one (ps_ret (pe_op op_sub (pe_call (ok_full_horizon T TB) (hr.mono (by decide)) rfl T.m_full_horizon T.F_full_horizon.kp T.b_full_horizon .nil pass0 (pa_cons (pv 0 rfl vs_retired_0) (pa_cons (pv 1 rfl vs_retired_1) (pa_cons (pv 2 rfl vs_retired_2) pa_nil)))) pe_int)))), ?_⟩
    walk_at "go"
    walk_at "rd"
    refine ⟨n, l, g, .first, rfl, ha, ?_⟩
    walk_at "rd"
    refine ⟨n, l, g, rfl, ha.g1, ha.g2, ?_⟩
    walk_at "rd"
    exact k

theorem atI_last (A : List Nat) (o : Nat) : atI (iv (A ++ [o])) (-1) = some (.int (o : Int)) := by
  have hl : (iv (A ++ [o])).length = A.length + 1 := by rw [iv_len]; simp
  have e : ixN (iv (A ++ [o])).length (-1) = some A.length := by
    rw [hl]
    unfold ixN
    rw [if_neg (by decide), if_pos (by omega)]
    congr 1; omega
  unfold atI
  rw [e]
  show (iv (A ++ [o]))[A.length]? = _
  exact iv_get (by simp)
theorem s_rem {C : Addr} {K : PySem.W.Frag} {Tb : List (Addr × Str)} {H : Hp} {L L' : List R} {Q : VK} {q : Addr} {l : List Nat} {s : Nat} (S : Sep C K Tb H L) (pk : Pick (.cell q (.lst (iv l))) L L') (hs : s ∈ l) (k : ∀ H', Sep C K Tb H' (.cell q (.lst (iv (l.erase s))) :: L') → Q .non H') : rRemI (.ref q) [.int (s : Int)] H Q :=
  r_rem (S.get pk.mem) hs (k _ (S.put pk trivial))

theorem s_sortLam {C : Addr} {K : PySem.W.Frag} {Tb : List (Addr × Str)} {H : Hp} {L : List R} {Q : VK} {σ : St} {j : Nat} {gk : Int → Int} {a l : Addr} {ns cs : List Nat} (S : Sep C K Tb H L) (h1 : R.cell a (.lst (iv ns)) ∈ L) (hj : σ[j]? = some (some (.ref l))) (h2 : R.cell l (.lst (iv cs)) ∈ L) (hl : ∀ n ∈ ns, n < cs.length)
    (k : ∀ p H', Sep C K Tb H' (.cell p (.lst (iv (byKey gk (ci cs) ns))) :: L) → Q (.ref p) H') : rSortLam Tb K gk j σ Q (.ref a) H := by
  have e1 := SqL.of (K := K) (S.get h1)
  rw [iv_map] at e1
  refine ⟨a, l, ns, ci cs, rfl, e1, hj, SqL.of (S.get h2), fun n hn => by rw [ci_len]; exact hl n hn, S.tb, fun H2 p e2 t2 hp => k p _ ?_⟩
  have S2 := (S.read (.ext e2) t2).new (o := .lst ((byKey gk (ci cs) ns).map fun (n : Nat) => V.int n)) hp trivial
  rw [iv_map]; exact S2
theorem s_sortL3 {C : Addr} {K : PySem.W.Frag} {Tb : List (Addr × Str)} {H : Hp} {L : List R} {Q : VK} {σ : St} {j jg : Nat} {a l : Addr} {ns cs : List Nat} {g : Int} (S : Sep C K Tb H L) (h1 : R.cell a (.lst (iv ns)) ∈ L) (hj : σ[j]? = some (some (.ref l))) (h2 : R.cell l (.lst (iv cs)) ∈ L) (hg : σ[jg]? = some (some (.int g))) (hl : ∀ n ∈ ns, n < cs.length)
    (k : ∀ p (ms : List Nat) H', ms.Perm ns → Sep C K Tb H' (.cell p (.lst (iv ms)) :: L) → Q (.ref p) H') : rSortL3 Tb K j jg σ Q (.ref a) H := by
  have e1 := SqL.of (K := K) (S.get h1)
  rw [iv_map] at e1
  refine ⟨a, l, ns, ci cs, g, rfl, e1, hj, SqL.of (S.get h2), hg, fun n hn => by rw [ci_len]; exact hl n hn, S.tb, fun H2 p ms hm e2 t2 hp => k p ms _ hm ?_⟩
  have S2 := (S.read (.ext e2) t2).new (o := .lst (ms.map fun (n : Nat) => V.int n)) hp trivial
  rw [iv_map]; exact S2
theorem byKey_min {cs : List Nat} {fr : List Nat} {x : Nat} {r : List Nat} (h : byKey (fun z => z) (ci cs) fr = x :: r) : ∀ y ∈ fr, cs.getD x 0 ≤ cs.getD y 0 := fun y hy => by
  have hp := byKey_perm (fun z => z) (ci cs) fr
  have hs := List.pairwise_mergeSort (le := fun a b : Nat => decide ((ci cs).getD a 0 < (ci cs).getD b 0 ∨ ((ci cs).getD a 0 = (ci cs).getD b 0 ∧ a ≤ b))) (fun a b c h1 h2 => by simp only [decide_eq_true_eq] at *; omega) (fun a b => by simp only [Bool.or_eq_true, decide_eq_true_eq]; omega) fr
  have hs' : (x :: r).Pairwise fun a b => decide ((ci cs).getD a 0 < (ci cs).getD b 0 ∨ ((ci cs).getD a 0 = (ci cs).getD b 0 ∧ a ≤ b)) = true := h ▸ hs
  rw [h] at hp
  have gd : ∀ j, (ci cs).getD j 0 = ((cs.getD j 0 : Nat) : Int) := fun j => by
    rw [List.getD_eq_getElem?_getD, List.getD_eq_getElem?_getD]
    unfold ci
    rw [List.getElem?_map]
    cases cs[j]? <;> rfl
  rcases List.mem_cons.mp (hp.mem_iff.mpr hy) with rfl | hr
  · exact Nat.le_refl _
  · have := of_decide_eq_true ((List.pairwise_cons.mp hs').1 y hr)
    rw [gd, gd] at this
    omega
theorem atI0n {x : Nat} {r : List Nat} : atI (iv (x :: r)) 0 = some (.int (x : Int)) := atI_nat (j := 0) (iv_get (l := x :: r) (i := 0) (n := x) (by simp))
def ruls : List Str := ["fewest", "most", "last", "first", "any", "late"]
def spChosen (C : Addr) (K : PySem.W.Frag) (Tb : List (Addr × Str)) : Sp := fun vs H Q _ => ∃ (L : List R) (s qf qc : Addr) (ru : Str) (fr cs : List Nat) (g : Int), vs = [.ref s, .str ru, .ref qf, .ref qc, .int g] ∧ Sep C K Tb H (.src s :: .cell qf (.lst (iv fr)) :: .cell qc (.lst (iv cs)) :: L) ∧
  0 < fr.length ∧ fr.length ≤ 64 ∧ (∀ x ∈ fr, x < cs.length) ∧ (ru = "changing" ∨ ru ∈ ruls) ∧
  ∀ (x : Nat) (H' : Hp), x ∈ fr → (ru = "first" → ∃ r, fr = x :: r) → (ru = "fewest" → ∀ y ∈ fr, cs.getD x 0 ≤ cs.getD y 0) → Sep C K Tb H' (.src s :: .cell qf (.lst (iv fr)) :: .cell qc (.lst (iv cs)) :: L) → Q (.int (x : Int)) H'
theorem ok__law_chosen (T : Txt K mg) (TB : TBs T base) : FnOk P w K mg base CX0 5 T.f__law_chosen T.fd__law_chosen ["_law_source", "_law_rule", "_law_free", "_law_counts", "_law_generations"] (spChosen (0 : Addr) K T.tabs) := by
  refine T.FC__law_chosen.ok sc__law_chosen (fun vs H Q E h => ?_) (fun cdv A outer s H vs Q E hr h => ?_)
  · obtain ⟨L, s, qf, qc, ru, fr, cs, g, rfl, _⟩ := h; rfl
  · obtain ⟨L, sr, qf, qc, ru, fr, cs, g, rfl, S, hf0, hf1, hlt, hru, k⟩ := h
    refine ⟨_, (C8.pss_cut (ps_if (pt_cmpR op_eq (pv 1 rfl vs__law_chosen_1) pe_str (nomark _)) (pss_one (ps_set (i := 1) sc__law_chosen.nd rfl lc__law_chosen_1 (pe_call (ok__law_one T TB) (hr.mono (by decide)) rfl T.m__law_one T.F__law_one.kp T.b__law_one .nil pass0 (pa_cons (pv 0 rfl vs__law_chosen_0) (pa_cons (pe_lst (pa_cons pe_str (pa_cons pe_str (pa_cons pe_str (pa_cons pe_str (pa_cons pe_str (pa_cons pe_str pa_nil))))))) pa_nil))))) pss_nil)
  (pss_cons (ps_if (pt_cmpR op_eq (pv 1 rfl vs__law_chosen_1) pe_str (nomark _)) (pss_one (ps_ret (pe_ix (ixL (K := K)) (pv 2 rfl vs__law_chosen_2) pe_int (fun _ _ => rfl)))) pss_nil)
  (pss_cons (ps_if (pt_cmpR op_eq (pv 1 rfl vs__law_chosen_1) pe_str (nomark _)) (pss_one (ps_ret (pe_ix (ixL (K := K)) (pv 2 rfl vs__law_chosen_2) (pe_un un_neg pe_int) (fun _ _ => rfl)))) pss_nil)
  (pss_cons (ps_if (pt_cmpR op_eq (pv 1 rfl vs__law_chosen_1) pe_str (nomark _)) (pss_one (ps_ret (pe_call (ok__law_one T TB) (hr.mono (by decide)) rfl T.m__law_one T.F__law_one.kp T.b__law_one .nil pass0 (pa_cons (pv 0 rfl vs__law_chosen_0) (pa_cons (pv 2 rfl vs__law_chosen_2) pa_nil))))) pss_nil)
  (pss_cons (ps_if (pt_cmpR op_eq (pv 1 rfl vs__law_chosen_1) pe_str (nomark _)) (pss_one (ps_ret (pe_ix (ixL (K := K)) (pe_sortLam (T := T.tabs) (j := 3) (xn := "_law_one_here") (C := "_law_counts") (gk := fun z => 0 - z) rfl T.z_sorted (pv 2 rfl vs__law_chosen_2) (Txt.tb__law_chosen TB) rfl (Txt.mem__law_chosen T) (Txt.one__law_chosen T) (hr.mono (by decide)) rfl rfl keyIs_neg rfl rfl rfl (by decide +kernel) (by decide +kernel) rfl rfl (fun cells cc h => by first | exact cloFrom1 h | simp [cloFrom, h]) rfl (fun _ _ _ _ _ _ => rfl) (fun _ => rfl)) pe_int (fun _ _ => rfl)))) pss_nil)
  (pss_cons (ps_if (pt_cmpR op_eq (pv 1 rfl vs__law_chosen_1) pe_str (nomark _)) (pss_one (ps_ret (pe_ix (ixL (K := K)) (pe_sortL3 (T := T.tabs) (j := 3) (jg := 4) (xn := "_law_one_here") (C := "_law_counts") (G := "_law_generations") rfl T.z_sorted T.z_int (pv 2 rfl vs__law_chosen_2) (Txt.tb__law_chosen TB) rfl (Txt.mem__law_chosen T) (Txt.one__law_chosen T) (hr.mono (by decide)) rfl rfl rfl rfl rfl rfl rfl rfl rfl rfl rfl (by decide +kernel) (by decide +kernel) rfl rfl (fun cells cc cg h h2 => by constructor <;> simp [cloFrom, h, h2] <;> rfl) rfl (fun _ _ _ _ _ _ => rfl) (fun _ => rfl)) pe_int (fun _ _ => rfl)))) pss_nil)
  (pss_one (ps_ret (pe_ix (ixL (K := K)) (pe_sortLam (T := T.tabs) (j := 3) (xn := "_law_one_here") (C := "_law_counts") (gk := fun z => z) rfl T.z_sorted (pv 2 rfl vs__law_chosen_2) (Txt.tb__law_chosen TB) rfl (Txt.mem__law_chosen T) (Txt.one__law_chosen T) (hr.mono (by decide)) rfl rfl keyIs_item rfl rfl rfl (by decide +kernel) (by decide +kernel) rfl rfl (fun cells cc h => by first | exact cloFrom1 h | simp [cloFrom, h]) rfl (fun _ _ _ _ _ _ => rfl) (fun _ => rfl)) pe_int (fun _ _ => rfl)))))))))), ?_⟩
    walk_at "go"
    walk_at "sd"
    refine r_cut (fun σ H' => ∃ ru' : Str, σ = [some (.ref sr), some (.str ru'), some (.ref qf), some (.ref qc), some (.int g), none] ∧ ru' ∈ ruls ∧ (ru ≠ "changing" → ru' = ru) ∧ Sep (0 : Addr) K T.tabs H' (.src sr :: .cell qf (.lst (iv fr)) :: .cell qc (.lst (iv cs)) :: L)) ?_ ?_
    · by_cases c : ru = "changing"
      · subst c
        walk_at "sd"
        refine if_T (by decide +kernel) ?_
        walk_at "sd"
        rename_i lq H1 S1
        refine u_one S1 (by walk_at "pk") (by walk_at "mm") (by simp) (by walk_at "sz") fun v H2 hv S2 => ?_
        walk_at "sd"
        obtain ⟨ru', rfl, hm⟩ : ∃ ru' : Str, v = .str ru' ∧ ru' ∈ ruls := by
          simp only [List.mem_cons, List.not_mem_nil, or_false] at hv
          rcases hv with rfl | rfl | rfl | rfl | rfl | rfl <;> exact ⟨_, rfl, by simp [ruls]⟩
        exact ⟨ru', rfl, hm, fun h => (h rfl).elim, S2.fit (by walk_at "ft")⟩
      · walk_at "sd"
        first
          | exact ⟨ru, rfl, hru.resolve_left c, fun _ => rfl, S⟩
          | (refine if_F (by simp [c]) ?_
             exact ⟨ru, rfl, hru.resolve_left c, fun _ => rfl, S⟩)
    · rintro σ H1 ⟨ru', rfl, hm, hc, S1⟩
      have hk : ∀ {z : Str}, ru = z → (z = "changing" → False) → ru' = z := fun {z} e h => (hc (fun q => h (e.symm.trans q))).trans e
      have hk1 : ru = "first" → ru' = "first" := fun e => hk e (by decide +kernel)
      have hk2 : ru = "fewest" → ru' = "fewest" := fun e => hk e (by decide +kernel)
      simp only [ruls, List.mem_cons, List.not_mem_nil, or_false] at hm
      rcases hm with rfl | rfl | rfl | rfl | rfl | rfl
      · -- fewest
        walk_at "sd"
        refine if_F (by decide +kernel) ?_
        walk_at "sd"
        refine if_F (by decide +kernel) ?_
        walk_at "sd"
        refine if_F (by decide +kernel) ?_
        walk_at "sd"
        refine if_F (by decide +kernel) ?_
        walk_at "sd"
        refine if_F (by decide +kernel) ?_
        walk_at "sd"
        refine r_var rfl ?_
        refine s_sortLam (gk := fun z => z) (l := qc) (cs := cs) S1 (by walk_at "mm") rfl (by walk_at "mm") hlt fun p H2 S2 => ?_
        have hp := byKey_perm (fun z => z) (ci cs) fr
        obtain ⟨x, r, e⟩ : ∃ x r, byKey (fun z => z) (ci cs) fr = x :: r := by
          cases e : byKey (fun z => z) (ci cs) fr with
          | nil => rw [e] at hp; have := hp.length_eq; simp at this; omega
          | cons x r => exact ⟨x, r, rfl⟩
        rw [e] at S2 hp
        refine r_ixl (SqL.of (S2.get (o := .lst (iv (x :: r))) (by walk_at "mm"))) atI0n ?_
        exact k x _ (hp.mem_iff.mp List.mem_cons_self) (fun z => absurd (hk1 z) (by decide +kernel)) (fun z => byKey_min e) (S2.fit (by walk_at "ft"))
      · -- most
        walk_at "sd"
        refine if_F (by decide +kernel) ?_
        walk_at "sd"
        refine if_F (by decide +kernel) ?_
        walk_at "sd"
        refine if_F (by decide +kernel) ?_
        walk_at "sd"
        refine if_T (by decide +kernel) ?_
        walk_at "sd"
        refine r_var rfl ?_
        refine s_sortLam (gk := fun z => 0 - z) (l := qc) (cs := cs) S1 (by walk_at "mm") rfl (by walk_at "mm") hlt fun p H2 S2 => ?_
        have hp := byKey_perm (fun z => 0 - z) (ci cs) fr
        obtain ⟨x, r, e⟩ : ∃ x r, byKey (fun z => 0 - z) (ci cs) fr = x :: r := by
          cases e : byKey (fun z => 0 - z) (ci cs) fr with
          | nil => rw [e] at hp; have := hp.length_eq; simp at this; omega
          | cons x r => exact ⟨x, r, rfl⟩
        rw [e] at S2 hp
        refine r_ixl (SqL.of (S2.get (o := .lst (iv (x :: r))) (by walk_at "mm"))) atI0n ?_
        exact k x _ (hp.mem_iff.mp List.mem_cons_self) (fun z => absurd (hk1 z) (by decide +kernel)) (fun z => absurd (hk2 z) (by decide +kernel)) (S2.fit (by walk_at "ft"))
      · -- last
        walk_at "sd"
        refine if_F (by decide +kernel) ?_
        walk_at "sd"
        refine if_T (by decide +kernel) ?_
        walk_at "sd"
        obtain ⟨us, x, rfl⟩ : ∃ us x, fr = us ++ [x] := by
          rcases List.eq_nil_or_concat fr with h | ⟨us, x, h⟩
          · rw [h] at hf0; simp at hf0
          · exact ⟨us, x, by simpa using h⟩
        refine r_ixl (SqL.of (S1.get (o := .lst (iv (us ++ [x]))) (by walk_at "mm"))) (atI_last us x) ?_
        exact k x _ (by simp) (fun z => absurd (hk1 z) (by decide +kernel)) (fun z => absurd (hk2 z) (by decide +kernel)) (S1.fit (by walk_at "ft"))
      · -- first
        walk_at "sd"
        refine if_T (by decide +kernel) ?_
        walk_at "sd"
        obtain ⟨x, r, rfl⟩ : ∃ x r, fr = x :: r := by
          cases fr with
          | nil => simp at hf0
          | cons x r => exact ⟨x, r, rfl⟩
        refine r_ixl (SqL.of (S1.get (o := .lst (iv (x :: r))) (by walk_at "mm"))) atI0n ?_
        exact k x _ List.mem_cons_self (fun z => ⟨r, rfl⟩) (fun z => absurd (hk2 z) (by decide +kernel)) (S1.fit (by walk_at "ft"))
      · -- any
        walk_at "sd"
        refine if_F (by decide +kernel) ?_
        walk_at "sd"
        refine if_F (by decide +kernel) ?_
        walk_at "sd"
        refine if_T (by decide +kernel) ?_
        walk_at "sd"
        refine u_one S1 (by walk_at "pk") (by walk_at "mm") (by rw [iv_len]; exact hf0) (by rw [iv_len]; omega) fun v H2 hv S2 => ?_
        obtain ⟨x, hx, rfl⟩ : ∃ x, x ∈ fr ∧ V.int (x : Int) = v := by
          unfold iv ci at hv
          obtain ⟨j, hj, rfl⟩ := List.mem_map.mp hv
          obtain ⟨i, hi, rfl⟩ := List.mem_map.mp hj
          exact ⟨i, hi, rfl⟩
        walk_at "sd"
        exact k x _ hx (fun z => absurd (hk1 z) (by decide +kernel)) (fun z => absurd (hk2 z) (by decide +kernel)) (S2.fit (by walk_at "ft"))
      · -- late
        walk_at "sd"
        refine if_F (by decide +kernel) ?_
        walk_at "sd"
        refine if_F (by decide +kernel) ?_
        walk_at "sd"
        refine if_F (by decide +kernel) ?_
        walk_at "sd"
        refine if_F (by decide +kernel) ?_
        walk_at "sd"
        refine if_T (by decide +kernel) ?_
        walk_at "sd"
        refine r_var rfl ?_
        refine s_sortL3 (l := qc) (cs := cs) S1 (by walk_at "mm") rfl (by walk_at "mm") rfl hlt fun p ms H2 hp S2 => ?_
        obtain ⟨x, r, rfl⟩ : ∃ x r, ms = x :: r := by
          cases ms with
          | nil => have := hp.length_eq; simp at this; omega
          | cons x r => exact ⟨x, r, rfl⟩
        refine r_ixl (SqL.of (S2.get (o := .lst (iv (x :: r))) (by walk_at "mm"))) atI0n ?_
        exact k x _ (hp.mem_iff.mp List.mem_cons_self) (fun z => absurd (hk1 z) (by decide +kernel)) (fun z => absurd (hk2 z) (by decide +kernel)) (S2.fit (by walk_at "ft"))

/-! ### a caller against any rule of reuse -/
/-- the counts of some slots together -/
def sumC (cs fr : List Nat) : Nat := (fr.map fun x => cs.getD x 0).sum
theorem sumC_perm {cs fr fr' : List Nat} (h : fr.Perm fr') : sumC cs fr = sumC cs fr' := (h.map _).sum_nat
theorem sumC_cons (cs : List Nat) (x : Nat) (fr : List Nat) : sumC cs (x :: fr) = cs.getD x 0 + sumC cs fr := by simp [sumC]
theorem getD_setN {cs : List Nat} {x : Nat} (h : x < cs.length) (v y : Nat) : (cs.set x v).getD y 0 = if y = x then v else cs.getD y 0 := by
  rw [List.getD_eq_getElem?_getD, List.getD_eq_getElem?_getD, List.getElem?_set]
  by_cases c : y = x
  · subst c; simp [h]
  · rw [if_neg c, if_neg (fun e => c e.symm)]
theorem sumC_set {cs : List Nat} {x v : Nat} {fr : List Nat} (h : x < cs.length) (hx : x ∉ fr) : sumC (cs.set x v) fr = sumC cs fr := by
  unfold sumC
  congr 1
  refine List.map_congr_left fun y hy => ?_
  rw [getD_setN h, if_neg (by rintro rfl; exact hx hy)]
theorem sumC_le {cs : List Nat} {g : Nat} : ∀ {fr : List Nat}, (∀ x ∈ fr, cs.getD x 0 ≤ g) → sumC cs fr ≤ g * fr.length
  | [], _ => by simp [sumC]
  | x :: fr, h => by
    rw [sumC_cons, List.length_cons, Nat.mul_succ]
    have h1 := h x List.mem_cons_self
    have h2 := sumC_le (fr := fr) fun y hy => h y (List.mem_cons_of_mem _ hy)
    omega
theorem sumC_eq {cs : List Nat} {g : Nat} : ∀ {fr : List Nat}, (∀ x ∈ fr, cs.getD x 0 = g) → sumC cs fr = g * fr.length
  | [], _ => by simp [sumC]
  | x :: fr, h => by
    rw [sumC_cons, List.length_cons, Nat.mul_succ]
    have h1 := h x List.mem_cons_self
    have h2 := sumC_eq (fr := fr) fun y hy => h y (List.mem_cons_of_mem _ hy)
    omega
/-- behind k takes: fr free, r given up; the first l - 1 objects are kept -/
structure Ply (n l g : Nat) (rt : Bool) (k : Nat) (fr cs : List Nat) (r : Nat) : Prop where
  cl : cs.length = n
  nd : fr.Nodup
  lt : ∀ x ∈ fr, x < n
  len : fr.length + min k (l - 1) + r = n
  sum : k = min k (l - 1) + sumC cs fr + g * r
  top : ∀ x ∈ fr, cs.getD x 0 ≤ g
  top1 : rt = true → ∀ x ∈ fr, cs.getD x 0 < g
  low : k < l → ∀ x ∈ fr, cs.getD x 0 = 0
  low0 : k < l → r = 0
  r0 : rt = false → r = 0
theorem ply_start {n l g : Nat} {rt : Bool} (hg : 1 ≤ g) : Ply n l g rt 0 (List.range n) (List.replicate n 0) 0 := by
  have z : ∀ x, (List.replicate n 0).getD x 0 = 0 := fun x => by
    rw [List.getD_eq_getElem?_getD, List.getElem?_replicate]; split <;> rfl
  have zs : sumC (List.replicate n 0) (List.range n) = 0 := by rw [sumC_eq (g := 0) fun x _ => z x]; simp
  refine ⟨by simp, List.nodup_range, fun x h => List.mem_range.mp h, by simp, by rw [zs]; simp, fun x _ => by rw [z]; omega, fun _ x _ => by rw [z]; omega, fun _ x _ => z x, fun _ => rfl, fun _ => rfl⟩
section
variable {n l g k r x : Nat} {rt : Bool} {fr cs : List Nat}
theorem Ply.step (h : Ply n l g rt k fr cs r) (hx : x ∈ fr) : x < cs.length ∧ x ∉ fr.erase x ∧ (fr.erase x).length + 1 = fr.length ∧ sumC cs fr = cs.getD x 0 + sumC cs (fr.erase x) ∧ ∀ v, sumC (cs.set x v) (fr.erase x) = sumC cs (fr.erase x) := by
  have h1 : x < cs.length := by rw [h.cl]; exact h.lt x hx
  have h2 : x ∉ fr.erase x := h.nd.not_mem_erase
  refine ⟨h1, h2, ?_, ?_, fun v => sumC_set h1 h2⟩
  · have := List.length_erase_of_mem hx
    have := List.length_pos_of_mem hx
    omega
  · rw [sumC_perm (List.perm_cons_erase hx), sumC_cons]
/-- the slot is kept, or given up -/
theorem Ply.gone (h : Ply n l g rt k fr cs r) (hx : x ∈ fr) (hc : cs.getD x 0 ≠ g) (d : k + 1 < l ∨ (l ≤ k + 1 ∧ 1 ≤ l ∧ rt = true ∧ cs.getD x 0 + 1 = g)) :
    ∃ r', Ply n l g rt (k + 1) (fr.erase x) (cs.set x (cs.getD x 0 + 1)) r' := by
  obtain ⟨a1, a2, a3, a4, a5⟩ := h.step hx
  have sub : ∀ y ∈ fr.erase x, y ∈ fr ∧ y ≠ x := fun y hy => ⟨List.mem_of_mem_erase hy, fun e => a2 (e ▸ hy)⟩
  have old : ∀ y ∈ fr.erase x, (cs.set x (cs.getD x 0 + 1)).getD y 0 = cs.getD y 0 := fun y hy => by rw [getD_setN a1, if_neg (sub y hy).2]
  have hl := h.len
  have hs := h.sum
  rcases d with d | ⟨d1, d2, d3, d4⟩
  · have z := h.low (by omega)
    have r0 := h.low0 (by omega)
    have zx := z x hx
    refine ⟨r, by simp [h.cl], h.nd.erase x, fun y hy => h.lt y (sub y hy).1, by omega, ?_, fun y hy => by rw [old y hy]; exact h.top y (sub y hy).1, fun e y hy => by rw [old y hy]; exact h.top1 e y (sub y hy).1, fun _ y hy => by rw [old y hy]; exact z y (sub y hy).1, fun _ => r0, h.r0⟩
    rw [a5]; omega
  · refine ⟨r + 1, by simp [h.cl], h.nd.erase x, fun y hy => h.lt y (sub y hy).1, by omega, ?_, fun y hy => by rw [old y hy]; exact h.top y (sub y hy).1, fun e y hy => by rw [old y hy]; exact h.top1 e y (sub y hy).1, fun e => by omega, fun e => by omega, fun e => by rw [d3] at e; cases e⟩
    rw [a5, Nat.mul_succ]; omega
/-- the slot is given back -/
theorem Ply.back (h : Ply n l g rt k fr cs r) (hx : x ∈ fr) (hc : cs.getD x 0 ≠ g) (d1 : l ≤ k + 1) (d2 : 1 ≤ l) (d : rt = true → cs.getD x 0 + 1 ≠ g) :
    Ply n l g rt (k + 1) (fr.erase x ++ [x]) (cs.set x (cs.getD x 0 + 1)) r := by
  obtain ⟨a1, a2, a3, a4, a5⟩ := h.step hx
  have hp : (fr.erase x ++ [x]).Perm fr := List.perm_append_comm.trans (List.perm_cons_erase hx).symm
  have new : ∀ y, (cs.set x (cs.getD x 0 + 1)).getD y 0 = if y = x then cs.getD x 0 + 1 else cs.getD y 0 := fun y => getD_setN a1 _ _
  have hl := h.len
  have hs := h.sum
  have ht := h.top x hx
  have es : sumC (cs.set x (cs.getD x 0 + 1)) (fr.erase x ++ [x]) = sumC cs fr + 1 := by
    rw [sumC_perm (List.perm_append_comm (l₁ := fr.erase x) (l₂ := [x]))]
    show sumC _ (x :: fr.erase x) = _
    rw [sumC_cons, a5, new, if_pos rfl, a4]; omega
  refine ⟨by simp [h.cl], hp.nodup_iff.mpr h.nd, fun y hy => h.lt y (hp.mem_iff.mp hy), by rw [hp.length_eq]; omega, by rw [es]; omega, fun y hy => ?_, fun e y hy => ?_, fun e => by omega, fun e => by omega, h.r0⟩
  · rw [new]; split
    · omega
    · exact h.top y (hp.mem_iff.mp hy)
  · have := h.top1 e x hx
    have := d e
    rw [new]; split
    · omega
    · exact h.top1 e y (hp.mem_iff.mp hy)
/-- how many takes there can be -/
theorem Ply.most (h : Ply n l g rt k fr cs r) (l2 : l ≤ n) (l1 : 1 ≤ l) (hr : r = 0) (e : l ≤ k + 1) : k ≤ g * (n - l + 1) + l - 1 := by
  have h1 := sumC_le h.top
  have h2 := h.len
  have h3 := h.sum
  subst hr
  have : fr.length = n - l + 1 := by omega
  rw [this] at h1
  omega
theorem Ply.most' (h : Ply n l g false k fr cs r) (l2 : l ≤ n) (l1 : 1 ≤ l) (hg : 1 ≤ g) : k ≤ g * (n - l + 1) + l - 1 := by
  by_cases e : l ≤ k + 1
  · exact h.most l2 l1 (h.r0 rfl) e
  · omega
/-- a slot taken g times is the least: all are -/
theorem Ply.full (h : Ply n l g false k fr cs r) (l2 : l ≤ n) (l1 : 1 ≤ l) (hg : 1 ≤ g) (hx : x ∈ fr) (hc : cs.getD x 0 = g) : k + 1 ≤ g * (n - l + 1) + l ∧ ((∀ y ∈ fr, cs.getD x 0 ≤ cs.getD y 0) → k + 1 = g * (n - l + 1) + l) := by
  have hk : l ≤ k + 1 := by
    by_cases e : k < l
    · have := h.low e x hx; omega
    · omega
  have h1 := h.most l2 l1 (h.r0 rfl) hk
  refine ⟨by omega, fun hm => ?_⟩
  have h2 := h.len
  have h3 := h.sum
  have h4 := h.r0 rfl
  subst h4
  have : sumC cs fr = g * fr.length := sumC_eq fun y hy => by
    have := h.top y hy
    have := hm y hy
    omega
  rw [this, show fr.length = n - l + 1 by omega] at h3
  omega
theorem Ply.more (h : Ply n l g false k fr cs r) (l2 : l ≤ n) (l1 : 1 ≤ l) : fr ≠ [] := fun e => by
  have h2 := h.len
  have h4 := h.r0 rfl
  rw [e] at h2
  simp only [List.length_nil] at h2
  omega
theorem Ply.over (h : Ply n l g true k [] cs r) (l2 : l ≤ n) (l1 : 1 ≤ l) : k = g * (n - l + 1) + l - 1 := by
  have h2 := h.len
  have h3 := h.sum
  have e0 : sumC cs [] = 0 := rfl
  simp only [List.length_nil] at h2
  by_cases e : k < l
  · have := h.low0 e; omega
  · rw [e0, show r = n - l + 1 by omega] at h3
    omega
theorem Ply.few (h : Ply n l g rt k fr cs r) (l2 : l ≤ n) (l1 : 1 ≤ l) (hg : 1 ≤ g) : k ≤ g * n + n := by
  have h1 := sumC_le h.top
  have h2 := h.len
  have h3 := h.sum
  have h4 : g * fr.length + g * r ≤ g * n := by rw [← Nat.mul_add]; exact Nat.mul_le_mul_left _ (by omega)
  omega
end
/-- «first»: those taken less often stand ahead -/
structure Que (fr cs : List Nat) : Prop where
  up : fr.Pairwise fun a b => cs.getD a 0 ≤ cs.getD b 0
  near : ∀ a ∈ fr, ∀ b ∈ fr, cs.getD a 0 ≤ cs.getD b 0 + 1
theorem que_start (n : Nat) : Que (List.range n) (List.replicate n 0) := by
  have z : ∀ x, (List.replicate n 0).getD x 0 = 0 := fun x => by
    rw [List.getD_eq_getElem?_getD, List.getElem?_replicate]; split <;> rfl
  exact ⟨List.pairwise_iff_getElem.mpr fun _ _ _ _ _ => by rw [z, z]; exact Nat.le_refl _, fun a _ b _ => by rw [z, z]; omega⟩
section
variable {x : Nat} {fr cs : List Nat}
theorem Que.min (h : Que (x :: fr) cs) : ∀ y ∈ x :: fr, cs.getD x 0 ≤ cs.getD y 0 := fun y hy => by
  rcases List.mem_cons.mp hy with rfl | hy
  · exact Nat.le_refl _
  · exact (List.pairwise_cons.mp h.up).1 y hy
theorem Que.gone (h : Que (x :: fr) cs) (hl : x < cs.length) (hx : x ∉ fr) (v : Nat) : Que fr (cs.set x v) := by
  have old : ∀ y ∈ fr, (cs.set x v).getD y 0 = cs.getD y 0 := fun y hy => by rw [getD_setN hl, if_neg (by rintro rfl; exact hx hy)]
  refine ⟨(List.pairwise_cons.mp h.up).2.imp_of_mem fun ha hb e => by rw [old _ ha, old _ hb]; exact e, fun a ha b hb => ?_⟩
  rw [old _ ha, old _ hb]; exact h.near a (List.mem_cons_of_mem _ ha) b (List.mem_cons_of_mem _ hb)
theorem Que.back (h : Que (x :: fr) cs) (hl : x < cs.length) (hx : x ∉ fr) : Que (fr ++ [x]) (cs.set x (cs.getD x 0 + 1)) := by
  have old : ∀ y ∈ fr, (cs.set x (cs.getD x 0 + 1)).getD y 0 = cs.getD y 0 := fun y hy => by rw [getD_setN hl, if_neg (by rintro rfl; exact hx hy)]
  have new : (cs.set x (cs.getD x 0 + 1)).getD x 0 = cs.getD x 0 + 1 := by rw [getD_setN hl, if_pos rfl]
  have g := h.gone hl hx (cs.getD x 0 + 1)
  have hm := h.min
  have hn := h.near
  refine ⟨List.pairwise_append.mpr ⟨g.up, List.pairwise_singleton _ _, fun a ha b hb => ?_⟩, fun a ha b hb => ?_⟩
  · rw [List.mem_singleton.mp hb, new, old a ha]
    exact hn a (List.mem_cons_of_mem _ ha) x List.mem_cons_self
  · rcases List.mem_append.mp ha with ha | ha <;> rcases List.mem_append.mp hb with hb | hb
    · exact g.near a ha b hb
    · rw [List.mem_singleton.mp hb, new, old a ha]
      have := hn a (List.mem_cons_of_mem _ ha) x List.mem_cons_self
      omega
    · rw [List.mem_singleton.mp ha, new, old b hb]
      have := hm b (List.mem_cons_of_mem _ hb)
      omega
    · rw [List.mem_singleton.mp ha, List.mem_singleton.mp hb]; omega
end

theorem ixN_at {n j : Nat} (h : j < n) : ixN n (j : Int) = some j := by
  unfold ixN
  rw [if_pos (by omega), if_pos (by omega), Int.toNat_natCast]
def spPlayed (C : Addr) (K : PySem.W.Frag) (Tb : List (Addr × Str)) : Sp := fun vs H Q _ => ∃ (L : List R) (s : Addr) (ru : Str) (n l g : Nat) (rt : Bool), vs = [.ref s, .str ru, .int n, .int l, .int g, .bl rt] ∧ Sep C K Tb H (.src s :: L) ∧ 1 ≤ l ∧ l ≤ n ∧ n ≤ 9 ∧ 1 ≤ g ∧ g ≤ 6 ∧ (ru = "changing" ∨ ru ∈ ruls) ∧
  ∀ (t : Nat) (H' : Hp), (rt = false → t ≤ g * (n - l + 1) + l ∧ ((ru = "first" ∨ ru = "fewest") → t = g * (n - l + 1) + l)) → (rt = true → t = g * (n - l + 1) + l - 1) → Sep C K Tb H' (.src s :: L) → Q (.int (t : Int)) H'
theorem ok__law_played (T : Txt K mg) (TB : TBs T base) : FnOk P w K mg base CX0 6 T.f__law_played T.fd__law_played ["_law_source", "_law_rule", "_law_n", "_law_limit", "_law_generations", "_law_is_retiring"] (spPlayed (0 : Addr) K T.tabs) := by
  refine T.F__law_played.ok sc__law_played (fun vs H Q E h => ?_) (fun cdv A outer s H vs Q E hr h => ?_)
  · obtain ⟨L, s, ru, n, l, g, rt, rfl, _⟩ := h; rfl
  · obtain ⟨L, sr, ru, n, l, g, rt, rfl, S, l1, l2, n9, g1, g6, hru, k⟩ := h
    refine ⟨_, (pss_cons (ps_set (i := 6) sc__law_played.nd rfl lc__law_played_6 (pe_listRg rfl rfl T.z_list (prg_1 rfl T.z_range (pv 2 rfl vs__law_played_2))))
  (pss_cons (ps_set (i := 7) sc__law_played.nd rfl lc__law_played_7 (pe_op op_rep (pe_lst (pa_cons pe_int pa_nil)) (pv 2 rfl vs__law_played_2)))
  (pss_cons (ps_set (i := 8) sc__law_played.nd rfl lc__law_played_8 pe_int)
  (pss_cons (ps_while PassesOwn.never (pt_cmpR (neK hr.units (K := K)) (pv 6 rfl vs__law_played_6) (pe_lst pa_nil) (nomark _)) (pss_cons (ps_set (i := 8) sc__law_played.nd rfl lc__law_played_8 (pe_op op_add (pv 8 rfl vs__law_played_8) pe_int))
  (pss_cons (ps_set (i := 9) sc__law_played.nd rfl lc__law_played_9 (pe_call (ok__law_chosen T TB) (hr.mono (by decide)) rfl T.m__law_chosen T.F__law_chosen.kp T.b__law_chosen .nil pass0 (pa_cons (pv 0 rfl vs__law_played_0) (pa_cons (pv 1 rfl vs__law_played_1) (pa_cons (pv 6 rfl vs__law_played_6) (pa_cons (pv 7 rfl vs__law_played_7) (pa_cons (pv 4 rfl vs__law_played_4) pa_nil)))))))
  (pss_cons (ps_if (pt_cmpR op_eq (pe_ix (ixL (K := K)) (pv 7 rfl vs__law_played_7) (pv 9 rfl vs__law_played_9) (fun _ _ => rfl)) (pv 4 rfl vs__law_played_4) (nomark _)) (pss_one (ps_ret (pv 8 rfl vs__law_played_8))) pss_nil)
  (pss_cons (ps_asg (pe_op op_add (pe_ix (ixL (K := K)) (pv 7 rfl vs__law_played_7) (pv 9 rfl vs__law_played_9) (fun _ _ => rfl)) pe_int) (pg_sub (pv 7 rfl vs__law_played_7) (pv 9 rfl vs__law_played_9) set_list))
  (pss_cons (ps_expr (pe_bm PySem.F.plainAttrs_list PySem.F.slot_list_remove PySem.F.type_list_remove mt_remove (pv 6 rfl vs__law_played_6) (pa_cons (pv 9 rfl vs__law_played_9) pa_nil)))
  (pss_one (ps_if (PW.pt (pw_and (pt_cmpR op_ge (pv 8 rfl vs__law_played_8) (pv 3 rfl vs__law_played_3) (nomark _)) (pw_and1 (pt_not (PW.pt (pw_and (pt_val (pv 5 rfl vs__law_played_5)) (pw_and1 (pt_cmpR op_eq (pe_ix (ixL (K := K)) (pv 7 rfl vs__law_played_7) (pv 9 rfl vs__law_played_9) (fun _ _ => rfl)) (pv 4 rfl vs__law_played_4) (nomark _))))))))) (pss_one (ps_expr (pe_bm PySem.F.plainAttrs_list PySem.F.slot_list_append PySem.F.type_list_append mt_append (pv 6 rfl vs__law_played_6) (pa_cons (pv 9 rfl vs__law_played_9) pa_nil)))) pss_nil))))))))
  (pss_one (ps_ret (pv 8 rfl vs__law_played_8))))))), ?_⟩
    walk_at "go"
    walk_at "sd"
    rename_i qf H1 S1 q0 H2 S2
    refine r_rep1 (S2.get (by walk_at "mm")) (by omega) fun qc n0 => ?_
    have S3 := S2.new (o := .lst (List.replicate n (V.int 0))) n0 trivial
    have er : List.replicate n (V.int 0) = iv (List.replicate n 0) := by simp [iv, ci]
    rw [er] at S3 ⊢
    generalize upd H2 qc (.lst (iv (List.replicate n 0))) = H3 at S3 ⊢
    walk_at "sd"
    have hgn : g * n ≤ 54 := Nat.mul_le_mul g6 n9
    refine s_while (fun N σ H' => ∃ (fr cs : List Nat) (t r : Nat) (v9 : Option V), σ = [some (.ref sr), some (.str ru), some (.int (n : Int)), some (.int (l : Int)), some (.int (g : Int)), some (.bl rt), some (.ref qf), some (.ref qc), some (.int (t : Int)), v9] ∧ N = 64 - t ∧ Ply n l g rt t fr cs r ∧ (ru = "first" → Que fr cs) ∧
      Sep (0 : Addr) K T.tabs H' (.cell qf (.lst (iv fr)) :: .cell qc (.lst (iv cs)) :: .src sr :: L)) ⟨_, _, _, 0, 0, _, rfl, rfl, ply_start g1, fun _ => que_start n, S3.fit (by walk_at "ft")⟩ ?_
    rintro N σ H4 ⟨fr, cs, t, r, v9, rfl, rfl, P4, Q4, S4⟩
    have hfew := P4.few l2 l1 g1
    walk_at "sd"
    rename_i q5 H5 S5
    refine s_neD (b1 := false) (b2 := false) (d := .list ((ci fr).map PyData.int)) (e := .list []) S5 (show Has false _ (.ref qf) (.list ((ci fr).map PyData.int)) from .lst rfl (xs := iv fr) (by walk_at "mm") (.ints _)) (.lst rfl (by walk_at "mm") .nil) (okd_list fun d hd => by
      obtain ⟨i, _, rfl⟩ := List.mem_map.mp hd; exact okd_int i) (by decide +kernel) ?_
    rw [eqv_nil]
    by_cases c0 : fr = []
    · subst c0
      walk_at "sd"
      refine if_F (by simp [ci]) ?_
      walk_at "sd"
      refine k t H5 (fun e => ?_) (fun e => ?_) (S5.fit (by walk_at "ft"))
      · subst e; exact absurd rfl (P4.more l2 l1)
      · subst e; exact P4.over l2 l1
    · have c1 : ¬ ((ci fr).map PyData.int = []) := fun e => c0 (by simpa [ci] using e)
      rw [decide_eq_false c1]
      walk_at "sd"
      refine w_turn ?_
      walk_at "sd"
      have hlf := P4.len
      refine ⟨L, sr, qf, qc, ru, fr, cs, (g : Int), rfl, S5.fit (by walk_at "ft"), List.length_pos_iff.mpr c0, by omega, fun x hx => by rw [P4.cl]; exact P4.lt x hx, hru, fun x H6 hx hx1 hx2 S6 => ?_⟩
      have hxc := (P4.step hx).1
      have hcx : atI (iv cs) (x : Int) = some (.int ((cs.getD x 0 : Nat) : Int)) := atI_nat (iv_get (by
        rw [List.getD_eq_getElem?_getD, List.getElem?_eq_getElem hxc]; rfl))
      walk_at "sd"
      refine r_ixl (SqL.of (S6.get (o := .lst (iv cs)) (by walk_at "mm"))) hcx ?_
      walk_at "sd"
      by_cases c2 : cs.getD x 0 = g
      · walk_at "sd"
        have e1 : ((t : Int) + 1) = ((t + 1 : Nat) : Int) := by push_cast; rfl
        have hmin : (ru = "first" ∨ ru = "fewest") → ∀ y ∈ fr, cs.getD x 0 ≤ cs.getD y 0 := fun e => by
          rcases e with e | e
          · obtain ⟨r', rfl⟩ := hx1 e
            exact (Q4 e).min
          · exact hx2 e
        show Q (.int ((t : Int) + 1)) H6
        rw [e1]
        refine k (t + 1) H6 (fun e => ?_) (fun e => ?_) (S6.fit (by walk_at "ft"))
        · subst e
          obtain ⟨f1, f2⟩ := P4.full l2 l1 g1 hx c2
          exact ⟨f1, fun e => f2 (hmin e)⟩
        · have := P4.top1 e x hx; omega
      · walk_at "sd"
        refine r_ixl (SqL.of (S6.get (o := .lst (iv cs)) (by walk_at "mm"))) hcx ?_
        walk_at "sd"
        refine s_setl S6 (by walk_at "pk") (ixN_at (j := x) (by rw [iv_len]; exact hxc)) fun H7 S7 => ?_
        have es : (iv cs).set x (V.int (((cs.getD x 0 : Nat) : Int) + 1)) = iv (cs.set x (cs.getD x 0 + 1)) := by simp [iv, ci, List.map_set]
        rw [es] at S7
        walk_at "sd"
        refine s_rem S7 (by walk_at "pk") hx fun H8 S8 => ?_
        walk_at "sd"
        have ndx : fr.Nodup := P4.nd
        have qg : ru = "first" → Que (fr.erase x) (cs.set x (cs.getD x 0 + 1)) := fun e => by
          obtain ⟨r', e2⟩ := hx1 e
          have q := Q4 e
          rw [e2] at q ndx ⊢
          rw [List.erase_cons_head]
          exact q.gone hxc (List.nodup_cons.mp ndx).1 _
        have qb : ru = "first" → Que (fr.erase x ++ [x]) (cs.set x (cs.getD x 0 + 1)) := fun e => by
          obtain ⟨r', e2⟩ := hx1 e
          have q := Q4 e
          rw [e2] at q ndx ⊢
          rw [List.erase_cons_head]
          exact q.back hxc (List.nodup_cons.mp ndx).1
        have hcx2 : atI (iv (cs.set x (cs.getD x 0 + 1))) (x : Int) = some (.int ((cs.getD x 0 + 1 : Nat) : Int)) := atI_nat (iv_get (by
          rw [List.getElem?_set_self (by omega)]))
        by_cases c3 : l ≤ t + 1
        · refine if_T (by simp; omega) ?_
          cases rt with
          | false =>
            walk_at "sd"
            refine s_append S8 (by walk_at "pk") (by rw [iv_len]; have := (P4.step hx).2.2.1; omega) fun H9 S9 => ?_
            rw [iv_app] at S9
            exact ⟨64 - (t + 1), by omega, fr.erase x ++ [x], _, t + 1, _, _, rfl, rfl, P4.back hx c2 c3 l1 (fun e => nomatch e), qb, S9.fit (by walk_at "ft")⟩
          | true =>
            walk_at "sd"
            refine r_ixl (SqL.of (S8.get (o := .lst (iv (cs.set x (cs.getD x 0 + 1)))) (by walk_at "mm"))) hcx2 ?_
            walk_at "sd"
            by_cases c4 : cs.getD x 0 + 1 = g
            · walk_at "sd"
              refine if_F (by rw [c4]; simp) ?_
              walk_at "sd"
              obtain ⟨r', P9⟩ := P4.gone hx c2 (.inr ⟨c3, l1, rfl, c4⟩)
              exact ⟨64 - (t + 1), by omega, fr.erase x, _, t + 1, r', _, rfl, rfl, P9, qg, S8.fit (by walk_at "ft")⟩
            · walk_at "sd"
              refine if_T (by rw [decide_eq_false (show ¬ (((cs.getD x 0 + 1 : Nat) : Int) = (g : Int)) from fun e => c4 (Int.ofNat.inj e))]; rfl) ?_
              walk_at "sd"
              refine s_append S8 (by walk_at "pk") (by rw [iv_len]; have := (P4.step hx).2.2.1; omega) fun H9 S9 => ?_
              rw [iv_app] at S9
              exact ⟨64 - (t + 1), by omega, fr.erase x ++ [x], _, t + 1, _, _, rfl, rfl, P4.back hx c2 c3 l1 (fun _ => c4), qb, S9.fit (by walk_at "ft")⟩
        · refine if_F (by simp; omega) ?_
          walk_at "sd"
          obtain ⟨r', P9⟩ := P4.gone hx c2 (.inl (by omega))
          exact ⟨64 - (t + 1), by omega, fr.erase x, _, t + 1, r', _, rfl, rfl, P9, qg, S8.fit (by walk_at "ft")⟩

theorem ok_law (T : Txt K mg) (TB : TBs T base) : FnOk P w K mg base CX0 7 T.f_law T.fd_law ["_law_script"] (spLaw T.tabs K) := by
  refine T.F_law.ok sc_law (fun vs H Q E h => ?_) (fun cdv A outer s H vs Q E hr h => ?_)
  · obtain ⟨a, ns, rfl, _⟩ := h; rfl
  · obtain ⟨a, ns, rfl, hS, hlen, hT, k⟩ := h
    refine ⟨_, (pss_cons (ps_for PassesOwn.never rfl (pi_list (pe_op op_cat (pe_lst (pa_cons pe_int (pa_cons pe_int (pa_cons pe_int (pa_cons pe_int pa_nil))))) (pe_slice (slK (K := K)) (pv 0 rfl vs_law_0) po_none (po_some pe_int)))) (pg_name (i := 1) sc_law.nd rfl lc_law_1) (pss_cons (ps_set (i := 2) sc_law.nd rfl lc_law_2 (pe_call (ok__law_source_of T TB) (hr.mono (by decide)) rfl T.m__law_source_of T.F__law_source_of.kp T.b__law_source_of .nil pass0 (pa_cons (pv 1 rfl vs_law_1) pa_nil)))
  (pss_cons (ps_set (i := 3) sc_law.nd rfl lc_law_3 (pe_op op_add pe_int (pe_call (ok__law_next T TB) (hr.mono (by decide)) rfl T.m__law_next T.F__law_next.kp T.b__law_next .nil pass0 (pa_cons (pv 2 rfl vs_law_2) (pa_cons pe_int pa_nil)))))
  (pss_cons (ps_set (i := 4) sc_law.nd rfl lc_law_4 (pe_op op_add pe_int (pe_call (ok__law_next T TB) (hr.mono (by decide)) rfl T.m__law_next T.F__law_next.kp T.b__law_next .nil pass0 (pa_cons (pv 2 rfl vs_law_2) (pa_cons (pv 3 rfl vs_law_3) pa_nil)))))
  (pss_cons (ps_set (i := 5) sc_law.nd rfl lc_law_5 (pe_op op_add pe_int (pe_call (ok__law_next T TB) (hr.mono (by decide)) rfl T.m__law_next T.F__law_next.kp T.b__law_next .nil pass0 (pa_cons (pv 2 rfl vs_law_2) (pa_cons pe_int pa_nil)))))
  (pss_cons (ps_set (i := 6) sc_law.nd rfl lc_law_6 (pe_call (ok_horizon T TB) (hr.mono (by decide)) rfl T.m_horizon T.F_horizon.kp T.b_horizon .nil pass0 (pa_cons (pv 3 rfl vs_law_3) (pa_cons (pv 4 rfl vs_law_4) (pa_cons (pv 5 rfl vs_law_5) (pa_cons pe_str pa_nil))))))
  (pss_cons (ps_if (PW.pt (pw_or (pt_cmpR op_ne (pe_call (ok_horizon T TB) (hr.mono (by decide)) rfl T.m_horizon T.F_horizon.kp T.b_horizon .nil pass0 (pa_cons (pv 3 rfl vs_law_3) (pa_cons (pv 4 rfl vs_law_4) (pa_cons (pv 5 rfl vs_law_5) (pa_cons pe_str pa_nil))))) (pv 6 rfl vs_law_6) (nomark _)) (pw_or1 (pt_cmpR op_ne (pe_call (ok_retired T TB) (hr.mono (by decide)) rfl T.m_retired T.F_retired.kp T.b_retired .nil pass0 (pa_cons (pv 3 rfl vs_law_3) (pa_cons (pv 4 rfl vs_law_4) (pa_cons (pv 5 rfl vs_law_5) pa_nil)))) (pe_op op_sub (pv 6 rfl vs_law_6) pe_int) (nomark _))))) (pss_one (ps_ret pe_bl)) pss_nil)
  (pss_one (ps_for PassesOwn.never rfl (pi_list (pe_lst (pa_cons pe_str (pa_cons pe_str (pa_cons pe_str (pa_cons pe_str (pa_cons pe_str (pa_cons pe_str (pa_cons pe_str pa_nil))))))))) (pg_name (i := 7) sc_law.nd rfl lc_law_7) (pss_cons (ps_set (i := 8) sc_law.nd rfl lc_law_8 (pe_call (ok__law_played T TB) (hr.mono (by decide)) rfl T.m__law_played T.F__law_played.kp T.b__law_played .nil pass0 (pa_cons (pv 2 rfl vs_law_2) (pa_cons (pv 7 rfl vs_law_7) (pa_cons (pv 3 rfl vs_law_3) (pa_cons (pv 4 rfl vs_law_4) (pa_cons (pv 5 rfl vs_law_5) (pa_cons pe_bl pa_nil))))))))
  (pss_cons (ps_if (PW.pt (pw_or (pt_cmpR op_gt (pv 8 rfl vs_law_8) (pv 6 rfl vs_law_6) (nomark _)) (pw_or1 (PW.pt (pw_and (pt_cmpR (inK (K := K)) (pv 7 rfl vs_law_7) (pe_lst (pa_cons pe_str (pa_cons pe_str pa_nil))) (by rfl)) (pw_and1 (pt_cmpR op_ne (pv 8 rfl vs_law_8) (pv 6 rfl vs_law_6) (nomark _)))))))) (pss_one (ps_ret pe_bl)) pss_nil)
  (pss_one (ps_if (pt_cmpR op_ne (pe_call (ok__law_played T TB) (hr.mono (by decide)) rfl T.m__law_played T.F__law_played.kp T.b__law_played .nil pass0 (pa_cons (pv 2 rfl vs_law_2) (pa_cons (pv 7 rfl vs_law_7) (pa_cons (pv 3 rfl vs_law_3) (pa_cons (pv 4 rfl vs_law_4) (pa_cons (pv 5 rfl vs_law_5) (pa_cons pe_bl pa_nil))))))) (pe_call (ok_retired T TB) (hr.mono (by decide)) rfl T.m_retired T.F_retired.kp T.b_retired .nil pass0 (pa_cons (pv 3 rfl vs_law_3) (pa_cons (pv 4 rfl vs_law_4) (pa_cons (pv 5 rfl vs_law_5) pa_nil)))) (nomark _)) (pss_one (ps_ret pe_bl)) pss_nil)))))))))))))
  (pss_one (ps_ret pe_bl))), ?_⟩
    have S : Sep (0 : Addr) K T.tabs H [.ro a (ns.map V.int)] := Sep.start hT hS
    walk_at "go"
    walk_at "sd"
    rename_i p1 H1 S1 p2 H2 S2
    obtain ⟨ms, ems, hms⟩ := cut_ints ns none (some 6)
    rw [ems] at S2
    refine s_cat S2 (by walk_at "mm") (by walk_at "mm") (by simp; omega) fun l H3 S3 => ?_
    have S3 : Sep (0 : Addr) K T.tabs H3 [.cell l (.lst (([0, 1, 2, 3] ++ ms).map V.int))] := by
      rw [List.map_append]
      exact S3.fit (rs := [.cell l (.lst ([V.int 0, .int 1, .int 2, .int 3] ++ ms.map V.int))]) (by walk_at "ft")
    walk_at "sd"
    refine loop_list (xs := ([0, 1, 2, 3] ++ ms).map V.int) (fun i σ H' => ∃ v1 v2 v3 v4 v5 v6 v7 v8 : Option V, σ = [some (.ref a), v1, v2, v3, v4, v5, v6, v7, v8] ∧ Sep (0 : Addr) K T.tabs H' [.cell l (.lst (([0, 1, 2, 3] ++ ms).map V.int))]) ⟨_, _, _, _, _, _, _, _, rfl, S3⟩ ?_ ?_ ?_
    · rintro i σ H' _ ⟨_, _, _, _, _, _, _, _, _, S4⟩
      exact SqL.of (S4.get (by walk_at "mm"))
    · rintro i x σ H4 hx ⟨v1, v2, v3, v4, v5, v6, v7, v8, rfl, S4⟩
      obtain ⟨c, rfl⟩ : ∃ c, x = V.int c := by
        obtain ⟨c, _, e⟩ := List.mem_map.mp (List.mem_of_getElem? hx)
        exact ⟨c, e.symm⟩
      generalize hcl : HO.lst (([0, 1, 2, 3] ++ ms).map V.int) = cl at S4 ⊢
      walk_at "sd"
      refine u_source S4 fun p H5 S5 => ?_
      walk_at "sd"
      refine u_next S5 (by walk_at "pk") (by decide) (by decide) fun n0 H6 hn0 S6 => ?_
      walk_at "sd"
      refine u_next S6 (by walk_at "pk") (by omega) (by omega) fun l0 H7 hl0 S7 => ?_
      walk_at "sd"
      refine u_next S7 (by walk_at "pk") (by decide) (by decide) fun g0 H8 hg0 S8 => ?_
      walk_at "sd"
      obtain ⟨n, hn⟩ : ∃ n : Nat, 1 + (n0 : Int) = n := ⟨n0 + 1, by push_cast; omega⟩
      obtain ⟨lm, hl⟩ : ∃ n : Nat, 1 + (l0 : Int) = n := ⟨l0 + 1, by push_cast; omega⟩
      obtain ⟨g, hg⟩ : ∃ n : Nat, 1 + (g0 : Int) = n := ⟨g0 + 1, by push_cast; omega⟩
      rw [hn] at hl0 ⊢
      rw [hl, hg]
      have ar : Args (n : Int) lm g := ⟨by omega, by omega, by omega, by omega, by omega, by omega⟩
      obtain ⟨M, hM⟩ : ∃ M : Nat, g * (n - lm + 1) + lm = M := ⟨_, rfl⟩
      have em : (g : Int) * ((n : Int) - lm + 1) + lm = (M : Int) := by
        rw [show (n : Int) - lm + 1 = ((n - lm + 1 : Nat) : Int) by omega, ← hM]; rfl
      refine ⟨n, lm, g, .first, rfl, ar, fun H9 s9 => ?_⟩
      have S9 := S8.read (.same s9) (tabs_same S8.tb s9)
      rw [show hor (n : Int) lm g .first = (M : Int) from em]
      walk_at "sd"
      refine ⟨n, lm, g, .least, rfl, ar, fun H10 s10 => ?_⟩
      have S10 := S9.read (.same s10) (tabs_same S9.tb s10)
      rw [show hor (n : Int) lm g .least = (M : Int) from em]
      walk_at "sd"
      refine if_F (by simp) ?_
      walk_at "sd"
      refine ⟨n, lm, g, rfl, ar, ?_⟩
      rw [em]
      walk_at "sd"
      refine if_F (by simp) ?_
      walk_at "sd"
      rename_i lr H11 S11
      refine loop_list (xs := [V.str "fewest", .str "most", .str "last", .str "first", .str "any", .str "late", .str "changing"]) (fun i σ H' => ∃ v7 v8 : Option V, σ = [some (.ref a), some (.int c), some (.ref p), some (.int (n : Int)), some (.int (lm : Int)), some (.int (g : Int)), some (.int (M : Int)), v7, v8] ∧
        Sep (0 : Addr) K T.tabs H' [.cell lr (.lst [V.str "fewest", .str "most", .str "last", .str "first", .str "any", .str "late", .str "changing"]), .src p, .cell l cl]) ⟨_, _, rfl, S11⟩ ?_ ?_ ?_
      · rintro i σ H' _ ⟨_, _, _, S12⟩
        exact SqL.of (S12.get (by walk_at "mm"))
      · rintro i x σ H12 hx ⟨v7, v8, rfl, S12⟩
        obtain ⟨ru, rfl, hru⟩ : ∃ ru : Str, x = .str ru ∧ (ru = "changing" ∨ ru ∈ ruls) := by
          have := List.mem_of_getElem? hx
          simp only [List.mem_cons, List.not_mem_nil, or_false] at this
          rcases this with rfl | rfl | rfl | rfl | rfl | rfl | rfl <;> exact ⟨_, rfl, by simp [ruls]⟩
        walk_at "sd"
        refine ⟨[.cell lr (.lst [V.str "fewest", .str "most", .str "last", .str "first", .str "any", .str "late", .str "changing"]), .cell l cl], p, ru, n, lm, g, false, rfl, S12.fit (by walk_at "ft"), by omega, by omega, by omega, by omega, by omega, hru, fun t H13 ht _ S13 => ?_⟩
        obtain ⟨ht1, ht2⟩ := ht rfl
        rw [hM] at ht1 ht2
        walk_at "sd"
        rename_i lq H14 S14
        have ein : inV (.str ru) [.str "fewest", .str "first"] = decide (ru = "first" ∨ ru = "fewest") := by
          rcases hru with rfl | hru
          · decide +kernel
          · simp only [ruls, List.mem_cons, List.not_mem_nil, or_false] at hru
            rcases hru with rfl | rfl | rfl | rfl | rfl | rfl <;> decide +kernel
        refine r_inL (SqL.of (S14.get (by walk_at "mm"))) rfl rfl ?_
        rw [ein]
        by_cases c1 : ru = "first" ∨ ru = "fewest"
        · rw [decide_eq_true c1]
          have ht3 := ht2 c1
          walk_at "sd"
          refine if_F (by rw [ht3]; simp) ?_
          walk_at "sd"
          refine ⟨[.cell lr (.lst [V.str "fewest", .str "most", .str "last", .str "first", .str "any", .str "late", .str "changing"]), .cell l cl], p, ru, n, lm, g, true, rfl, S14.fit (by walk_at "ft"), by omega, by omega, by omega, by omega, by omega, hru, fun t2 H15 _ ht4 S15 => ?_⟩
          have ht5 := ht4 rfl
          rw [hM] at ht5
          walk_at "sd"
          refine ⟨n, lm, g, rfl, ar, ?_⟩
          rw [em]
          walk_at "sd"
          refine if_F (by simp; omega) ?_
          walk_at "sd"
          exact ⟨_, _, rfl, S15.fit (by walk_at "ft")⟩
        · rw [decide_eq_false c1]
          walk_at "sd"
          refine ⟨[.cell lr (.lst [V.str "fewest", .str "most", .str "last", .str "first", .str "any", .str "late", .str "changing"]), .cell l cl], p, ru, n, lm, g, true, rfl, S14.fit (by walk_at "ft"), by omega, by omega, by omega, by omega, by omega, hru, fun t2 H15 _ ht4 S15 => ?_⟩
          have ht5 := ht4 rfl
          rw [hM] at ht5
          walk_at "sd"
          refine ⟨n, lm, g, rfl, ar, ?_⟩
          rw [em]
          walk_at "sd"
          refine if_F (by simp; omega) ?_
          walk_at "sd"
          exact ⟨_, _, rfl, S15.fit (by walk_at "ft")⟩
      · rintro σ H12 ⟨v7, v8, rfl, S12⟩
        subst hcl
        walk_at "sd"
        exact ⟨_, _, _, _, _, _, _, _, rfl, S12.fit (by walk_at "ft")⟩
    · rintro σ H1 ⟨v1, v2, v3, v4, v5, v6, v7, v8, rfl, S1⟩
      walk_at "sd"
      exact k _

end
theorem all_mk {l : PySem.W.OpenLaw} {w : World} {K : PySem.W.Frag} {h : Heap} {mg : Str → Option Value}
  {t_MOST_SLOTS : Tok}
  {t_MOST_GENERATIONS : Tok}
  {r_RULES : Addr} {dd_RULES : Option Addr} {nn_RULES : Nat} {sl_RULES : Array (Option Value)} {u0_RULES : Tok} {u1_RULES : Tok} {u2_RULES : Tok} {u3_RULES : Tok}
  {f_is_integer : Addr} {od_is_integer an_is_integer : Option Addr} {sl_is_integer : Array (Option Value)} {oc_is_integer kV_is_integer dc_is_integer pm_is_integer cd_is_integer ct_is_integer : Value}
  {f_is_between : Addr} {od_is_between an_is_between : Option Addr} {sl_is_between : Array (Option Value)} {oc_is_between kV_is_between dc_is_between pm_is_between cd_is_between ct_is_between : Value}
  {f_is_rule : Addr} {od_is_rule an_is_rule : Option Addr} {sl_is_rule : Array (Option Value)} {oc_is_rule kV_is_rule dc_is_rule pm_is_rule cd_is_rule ct_is_rule : Value}
  {f_check_map : Addr} {od_check_map an_check_map : Option Addr} {sl_check_map : Array (Option Value)} {oc_check_map kV_check_map dc_check_map pm_check_map cd_check_map ct_check_map : Value}
  {f__law_source_of : Addr} {od__law_source_of an__law_source_of : Option Addr} {sl__law_source_of : Array (Option Value)} {oc__law_source_of kV__law_source_of dc__law_source_of pm__law_source_of cd__law_source_of ct__law_source_of : Value}
  {f__law_next : Addr} {od__law_next an__law_next : Option Addr} {sl__law_next : Array (Option Value)} {oc__law_next kV__law_next dc__law_next pm__law_next cd__law_next ct__law_next : Value}
  {f__law_one : Addr} {od__law_one an__law_one : Option Addr} {sl__law_one : Array (Option Value)} {oc__law_one kV__law_one dc__law_one pm__law_one cd__law_one ct__law_one : Value}
  {f_full_horizon : Addr} {od_full_horizon an_full_horizon : Option Addr} {sl_full_horizon : Array (Option Value)} {oc_full_horizon kV_full_horizon dc_full_horizon pm_full_horizon cd_full_horizon ct_full_horizon : Value}
  {f_horizon : Addr} {od_horizon an_horizon : Option Addr} {sl_horizon : Array (Option Value)} {oc_horizon kV_horizon dc_horizon pm_horizon cd_horizon ct_horizon : Value}
  {f_retired : Addr} {od_retired an_retired : Option Addr} {sl_retired : Array (Option Value)} {oc_retired kV_retired dc_retired pm_retired cd_retired ct_retired : Value}
  {f__law_chosen c__law_chosen P__law_chosen : Addr} {od__law_chosen an__law_chosen cod__law_chosen : Option Addr} {sl__law_chosen csl__law_chosen : Array (Option Value)} {vs__law_chosen : Array Value} {oc__law_chosen kV__law_chosen dc__law_chosen pm__law_chosen ct__law_chosen coc__law_chosen : Value}
  {f__law_played : Addr} {od__law_played an__law_played : Option Addr} {sl__law_played : Array (Option Value)} {oc__law_played kV__law_played dc__law_played pm__law_played cd__law_played ct__law_played : Value}
  {f_law : Addr} {od_law an_law : Option Addr} {sl_law : Array (Option Value)} {oc_law kV_law dc_law pm_law cd_law ct_law : Value}
  {fa : Addr}
  (X : K.In h) (G : h.Ns mainGlobals mg) (hfa : mg "law" = some (.ref fa)) (HT : TabsAt ["_law_chosen"] mg h)
  (hz_bool : PySem.W.nsIn K mainGlobals "bool" = some none)
  (hz_int : PySem.W.nsIn K mainGlobals "int" = some none)
  (hz_isinstance : PySem.W.nsIn K mainGlobals "isinstance" = some none)
  (hz_len : PySem.W.nsIn K mainGlobals "len" = some none)
  (hz_list : PySem.W.nsIn K mainGlobals "list" = some none)
  (hz_range : PySem.W.nsIn K mainGlobals "range" = some none)
  (hz_sorted : PySem.W.nsIn K mainGlobals "sorted" = some none)
  (hz_str : PySem.W.nsIn K mainGlobals "str" = some none)
  (hg_MOST_SLOTS : PySem.W.nsIn K mainGlobals "MOST_SLOTS" = some (some (.int 64 t_MOST_SLOTS)))
  (hg_MOST_GENERATIONS : PySem.W.nsIn K mainGlobals "MOST_GENERATIONS" = some (some (.int 1000000000 t_MOST_GENERATIONS)))
  (hg_RULES : PySem.W.nsIn K mainGlobals "RULES" = some (some (.ref r_RULES)))
  (hl_RULES : K.lookup r_RULES = some ⟨.type "tuple", dd_RULES, .seq #[.str "last" u0_RULES, .str "first" u1_RULES, .str "lowest" u2_RULES, .str "least" u3_RULES] nn_RULES, sl_RULES⟩)
  (a_is_integer : PySem.W.nsIn K mainGlobals "is_integer" = some (some (.ref f_is_integer)))
  (l_is_integer : K.lookup f_is_integer = some ⟨oc_is_integer, od_is_integer, .func (PySem.W.fnOf "is_integer" "is_integer" (defArgs s_is_integer) (defBody s_is_integer) (defScope s_is_integer) .none kV_is_integer dc_is_integer pm_is_integer an_is_integer cd_is_integer ct_is_integer), sl_is_integer⟩)
  (c_is_integer : PySem.W.codeIn K cd_is_integer "is_integer" = true)
  (k_is_integer : PySem.W.keepIn K (.ref f_is_integer) = true)
  (a_is_between : PySem.W.nsIn K mainGlobals "is_between" = some (some (.ref f_is_between)))
  (l_is_between : K.lookup f_is_between = some ⟨oc_is_between, od_is_between, .func (PySem.W.fnOf "is_between" "is_between" (defArgs s_is_between) (defBody s_is_between) (defScope s_is_between) .none kV_is_between dc_is_between pm_is_between an_is_between cd_is_between ct_is_between), sl_is_between⟩)
  (c_is_between : PySem.W.codeIn K cd_is_between "is_between" = true)
  (k_is_between : PySem.W.keepIn K (.ref f_is_between) = true)
  (a_is_rule : PySem.W.nsIn K mainGlobals "is_rule" = some (some (.ref f_is_rule)))
  (l_is_rule : K.lookup f_is_rule = some ⟨oc_is_rule, od_is_rule, .func (PySem.W.fnOf "is_rule" "is_rule" (defArgs s_is_rule) (defBody s_is_rule) (defScope s_is_rule) .none kV_is_rule dc_is_rule pm_is_rule an_is_rule cd_is_rule ct_is_rule), sl_is_rule⟩)
  (c_is_rule : PySem.W.codeIn K cd_is_rule "is_rule" = true)
  (k_is_rule : PySem.W.keepIn K (.ref f_is_rule) = true)
  (a_check_map : PySem.W.nsIn K mainGlobals "check_map" = some (some (.ref f_check_map)))
  (l_check_map : K.lookup f_check_map = some ⟨oc_check_map, od_check_map, .func (PySem.W.fnOf "check_map" "check_map" (defArgs s_check_map) (defBody s_check_map) (defScope s_check_map) .none kV_check_map dc_check_map pm_check_map an_check_map cd_check_map ct_check_map), sl_check_map⟩)
  (c_check_map : PySem.W.codeIn K cd_check_map "check_map" = true)
  (k_check_map : PySem.W.keepIn K (.ref f_check_map) = true)
  (a__law_source_of : PySem.W.nsIn K mainGlobals "_law_source_of" = some (some (.ref f__law_source_of)))
  (l__law_source_of : K.lookup f__law_source_of = some ⟨oc__law_source_of, od__law_source_of, .func (PySem.W.fnOf "_law_source_of" "_law_source_of" (defArgs s__law_source_of) (defBody s__law_source_of) (defScope s__law_source_of) .none kV__law_source_of dc__law_source_of pm__law_source_of an__law_source_of cd__law_source_of ct__law_source_of), sl__law_source_of⟩)
  (c__law_source_of : PySem.W.codeIn K cd__law_source_of "_law_source_of" = true)
  (k__law_source_of : PySem.W.keepIn K (.ref f__law_source_of) = true)
  (a__law_next : PySem.W.nsIn K mainGlobals "_law_next" = some (some (.ref f__law_next)))
  (l__law_next : K.lookup f__law_next = some ⟨oc__law_next, od__law_next, .func (PySem.W.fnOf "_law_next" "_law_next" (defArgs s__law_next) (defBody s__law_next) (defScope s__law_next) .none kV__law_next dc__law_next pm__law_next an__law_next cd__law_next ct__law_next), sl__law_next⟩)
  (c__law_next : PySem.W.codeIn K cd__law_next "_law_next" = true)
  (k__law_next : PySem.W.keepIn K (.ref f__law_next) = true)
  (a__law_one : PySem.W.nsIn K mainGlobals "_law_one" = some (some (.ref f__law_one)))
  (l__law_one : K.lookup f__law_one = some ⟨oc__law_one, od__law_one, .func (PySem.W.fnOf "_law_one" "_law_one" (defArgs s__law_one) (defBody s__law_one) (defScope s__law_one) .none kV__law_one dc__law_one pm__law_one an__law_one cd__law_one ct__law_one), sl__law_one⟩)
  (c__law_one : PySem.W.codeIn K cd__law_one "_law_one" = true)
  (k__law_one : PySem.W.keepIn K (.ref f__law_one) = true)
  (a_full_horizon : PySem.W.nsIn K mainGlobals "full_horizon" = some (some (.ref f_full_horizon)))
  (l_full_horizon : K.lookup f_full_horizon = some ⟨oc_full_horizon, od_full_horizon, .func (PySem.W.fnOf "full_horizon" "full_horizon" (defArgs s_full_horizon) (defBody s_full_horizon) (defScope s_full_horizon) .none kV_full_horizon dc_full_horizon pm_full_horizon an_full_horizon cd_full_horizon ct_full_horizon), sl_full_horizon⟩)
  (c_full_horizon : PySem.W.codeIn K cd_full_horizon "full_horizon" = true)
  (k_full_horizon : PySem.W.keepIn K (.ref f_full_horizon) = true)
  (a_horizon : PySem.W.nsIn K mainGlobals "horizon" = some (some (.ref f_horizon)))
  (l_horizon : K.lookup f_horizon = some ⟨oc_horizon, od_horizon, .func (PySem.W.fnOf "horizon" "horizon" (defArgs s_horizon) (defBody s_horizon) (defScope s_horizon) .none kV_horizon dc_horizon pm_horizon an_horizon cd_horizon ct_horizon), sl_horizon⟩)
  (c_horizon : PySem.W.codeIn K cd_horizon "horizon" = true)
  (k_horizon : PySem.W.keepIn K (.ref f_horizon) = true)
  (a_retired : PySem.W.nsIn K mainGlobals "retired" = some (some (.ref f_retired)))
  (l_retired : K.lookup f_retired = some ⟨oc_retired, od_retired, .func (PySem.W.fnOf "retired" "retired" (defArgs s_retired) (defBody s_retired) (defScope s_retired) .none kV_retired dc_retired pm_retired an_retired cd_retired ct_retired), sl_retired⟩)
  (c_retired : PySem.W.codeIn K cd_retired "retired" = true)
  (k_retired : PySem.W.keepIn K (.ref f_retired) = true)
  (a__law_chosen : PySem.W.nsIn K mainGlobals "_law_chosen" = some (some (.ref f__law_chosen)))
  (l__law_chosen : K.lookup f__law_chosen = some ⟨oc__law_chosen, od__law_chosen, .func (PySem.W.fnOf "_law_chosen" "_law_chosen" (defArgs s__law_chosen) (defBody s__law_chosen) (defScope s__law_chosen) .none kV__law_chosen dc__law_chosen pm__law_chosen an__law_chosen (.ref c__law_chosen) ct__law_chosen), sl__law_chosen⟩)
  (cc__law_chosen : PySem.W.codeIn K (.ref c__law_chosen) "_law_chosen" = true)
  (k__law_chosen : PySem.W.keepIn K (.ref f__law_chosen) = true)
  (lc__law_chosen : K.lookup c__law_chosen = some ⟨coc__law_chosen, cod__law_chosen, .fields vs__law_chosen, csl__law_chosen⟩)
  (v__law_chosen : vs__law_chosen[11]? = some (.ref P__law_chosen))
  (np__law_chosen : K.lookup P__law_chosen = none)
  (a__law_played : PySem.W.nsIn K mainGlobals "_law_played" = some (some (.ref f__law_played)))
  (l__law_played : K.lookup f__law_played = some ⟨oc__law_played, od__law_played, .func (PySem.W.fnOf "_law_played" "_law_played" (defArgs s__law_played) (defBody s__law_played) (defScope s__law_played) .none kV__law_played dc__law_played pm__law_played an__law_played cd__law_played ct__law_played), sl__law_played⟩)
  (c__law_played : PySem.W.codeIn K cd__law_played "_law_played" = true)
  (k__law_played : PySem.W.keepIn K (.ref f__law_played) = true)
  (a_law : PySem.W.nsIn K mainGlobals "law" = some (some (.ref f_law)))
  (l_law : K.lookup f_law = some ⟨oc_law, od_law, .func (PySem.W.fnOf "law" "law" (defArgs s_law) (defBody s_law) (defScope s_law) .none kV_law dc_law pm_law an_law cd_law ct_law), sl_law⟩)
  (c_law : PySem.W.codeIn K cd_law "law" = true)
  (k_law : PySem.W.keepIn K (.ref f_law) = true)
  (nP : [P__law_chosen].Nodup)
  : LamX.LawAtS l w K CX0 7 63 "_law_script" mg fa h := by
  have e := hfa.symm.trans (PySem.W.mg_of X G a_law)
  cases e
  have tb__law_chosen : PySem.W.CodeHd h c__law_chosen P__law_chosen ∧ h.get? P__law_chosen = some { cls := .none, data := .fields #[] } := tab_at X HT (by simp) (PySem.W.mg_of X G a__law_chosen) l__law_chosen lc__law_chosen v__law_chosen
  let T : Txt K mg := {
    z_bool := PySem.W.mg_none_of X G hz_bool
    z_int := PySem.W.mg_none_of X G hz_int
    z_isinstance := PySem.W.mg_none_of X G hz_isinstance
    z_len := PySem.W.mg_none_of X G hz_len
    z_list := PySem.W.mg_none_of X G hz_list
    z_range := PySem.W.mg_none_of X G hz_range
    z_sorted := PySem.W.mg_none_of X G hz_sorted
    z_str := PySem.W.mg_none_of X G hz_str
    g_MOST_SLOTS := ⟨_, PySem.W.mg_of X G hg_MOST_SLOTS⟩
    g_MOST_GENERATIONS := ⟨_, PySem.W.mg_of X G hg_MOST_GENERATIONS⟩
    g_RULES := ⟨_, PySem.W.mg_of X G hg_RULES, fun H => .inr ⟨_, _, _, hl_RULES, rfl, rfl, (by show 4 ≤ sizeLine; decide), .cons ⟨_, rfl⟩ (.cons ⟨_, rfl⟩ (.cons ⟨_, rfl⟩ (.cons ⟨_, rfl⟩ (.nil))))⟩⟩
    f_is_integer := f_is_integer
    fd_is_integer := _
    F_is_integer := fun_mk (st := s_is_integer) l_is_integer c_is_integer k_is_integer
    m_is_integer := PySem.W.mg_of X G a_is_integer
    b_is_integer := (fun_mk (st := s_is_integer) l_is_integer c_is_integer k_is_integer).binds (ps := ["value"]) fun _ _ _ _ _ _ us hl => match us, hl with | [_], _ => rfl
    f_is_between := f_is_between
    fd_is_between := _
    F_is_between := fun_mk (st := s_is_between) l_is_between c_is_between k_is_between
    m_is_between := PySem.W.mg_of X G a_is_between
    kb_is_between := ⟨fun s us ws _ h1 h2 => match us, ws, h1, h2 with | [_], [_, _], _, _ => .of_eq rfl, fun r1 r2 => r1.append r2⟩
    f_is_rule := f_is_rule
    fd_is_rule := _
    F_is_rule := fun_mk (st := s_is_rule) l_is_rule c_is_rule k_is_rule
    m_is_rule := PySem.W.mg_of X G a_is_rule
    b_is_rule := (fun_mk (st := s_is_rule) l_is_rule c_is_rule k_is_rule).binds (ps := ["value"]) fun _ _ _ _ _ _ us hl => match us, hl with | [_], _ => rfl
    f_check_map := f_check_map
    fd_check_map := _
    F_check_map := fun_mk (st := s_check_map) l_check_map c_check_map k_check_map
    m_check_map := PySem.W.mg_of X G a_check_map
    b_check_map := (fun_mk (st := s_check_map) l_check_map c_check_map k_check_map).binds (ps := ["n", "limit", "generations", "rule"]) fun _ _ _ _ _ _ us hl => match us, hl with | [_, _, _, _], _ => rfl
    f__law_source_of := f__law_source_of
    fd__law_source_of := _
    F__law_source_of := fun_mk (st := s__law_source_of) l__law_source_of c__law_source_of k__law_source_of
    m__law_source_of := PySem.W.mg_of X G a__law_source_of
    b__law_source_of := (fun_mk (st := s__law_source_of) l__law_source_of c__law_source_of k__law_source_of).binds (ps := ["_law_cell"]) fun _ _ _ _ _ _ us hl => match us, hl with | [_], _ => rfl
    f__law_next := f__law_next
    fd__law_next := _
    F__law_next := fun_mk (st := s__law_next) l__law_next c__law_next k__law_next
    m__law_next := PySem.W.mg_of X G a__law_next
    b__law_next := (fun_mk (st := s__law_next) l__law_next c__law_next k__law_next).binds (ps := ["_law_source", "_law_many"]) fun _ _ _ _ _ _ us hl => match us, hl with | [_, _], _ => rfl
    f__law_one := f__law_one
    fd__law_one := _
    F__law_one := fun_mk (st := s__law_one) l__law_one c__law_one k__law_one
    m__law_one := PySem.W.mg_of X G a__law_one
    b__law_one := (fun_mk (st := s__law_one) l__law_one c__law_one k__law_one).binds (ps := ["_law_source", "_law_some"]) fun _ _ _ _ _ _ us hl => match us, hl with | [_, _], _ => rfl
    f_full_horizon := f_full_horizon
    fd_full_horizon := _
    F_full_horizon := fun_mk (st := s_full_horizon) l_full_horizon c_full_horizon k_full_horizon
    m_full_horizon := PySem.W.mg_of X G a_full_horizon
    b_full_horizon := (fun_mk (st := s_full_horizon) l_full_horizon c_full_horizon k_full_horizon).binds (ps := ["n", "limit", "generations"]) fun _ _ _ _ _ _ us hl => match us, hl with | [_, _, _], _ => rfl
    f_horizon := f_horizon
    fd_horizon := _
    F_horizon := fun_mk (st := s_horizon) l_horizon c_horizon k_horizon
    m_horizon := PySem.W.mg_of X G a_horizon
    b_horizon := (fun_mk (st := s_horizon) l_horizon c_horizon k_horizon).binds (ps := ["n", "limit", "generations", "rule"]) fun _ _ _ _ _ _ us hl => match us, hl with | [_, _, _, _], _ => rfl
    f_retired := f_retired
    fd_retired := _
    F_retired := fun_mk (st := s_retired) l_retired c_retired k_retired
    m_retired := PySem.W.mg_of X G a_retired
    b_retired := (fun_mk (st := s_retired) l_retired c_retired k_retired).binds (ps := ["n", "limit", "generations"]) fun _ _ _ _ _ _ us hl => match us, hl with | [_, _, _], _ => rfl
    f__law_chosen := f__law_chosen
    fd__law_chosen := _
    c__law_chosen := c__law_chosen
    P__law_chosen := P__law_chosen
    FC__law_chosen := func_mk (st := s__law_chosen) l__law_chosen cc__law_chosen
    F__law_chosen := fun_mk (st := s__law_chosen) l__law_chosen cc__law_chosen k__law_chosen
    m__law_chosen := PySem.W.mg_of X G a__law_chosen
    b__law_chosen := (fun_mk (st := s__law_chosen) l__law_chosen cc__law_chosen k__law_chosen).binds (ps := ["_law_source", "_law_rule", "_law_free", "_law_counts", "_law_generations"]) fun _ _ _ _ _ _ us hl => match us, hl with | [_, _, _, _, _], _ => rfl
    f__law_played := f__law_played
    fd__law_played := _
    F__law_played := fun_mk (st := s__law_played) l__law_played c__law_played k__law_played
    m__law_played := PySem.W.mg_of X G a__law_played
    b__law_played := (fun_mk (st := s__law_played) l__law_played c__law_played k__law_played).binds (ps := ["_law_source", "_law_rule", "_law_n", "_law_limit", "_law_generations", "_law_is_retiring"]) fun _ _ _ _ _ _ us hl => match us, hl with | [_, _, _, _, _, _], _ => rfl
    f_law := f_law
    fd_law := _
    F_law := fun_mk (st := s_law) l_law c_law k_law
    m_law := PySem.W.mg_of X G a_law
    b_law := (fun_mk (st := s_law) l_law c_law k_law).binds (ps := ["_law_script"]) fun _ _ _ _ _ _ us hl => match us, hl with | [_], _ => rfl
    nP := nP
  }
  refine ⟨T.fd_law, T.codes, spLaw T.tabs K, ?_, ?_, ?_, fun s v => .of_eq rfl, fun H a ns hl _ ht hS => ⟨a, ns, rfl, hS, hl, ?_, fun _ => rfl⟩, fun base _ _ hB => ok_law T hB⟩
  · intro p hp; simp only [Txt.codes, List.mem_cons, List.not_mem_nil, or_false] at hp; rcases hp with rfl
    · exact tb__law_chosen.2
  · intro p hp; simp only [Txt.codes, List.mem_cons, List.not_mem_nil, or_false] at hp; rcases hp with rfl
    · exact np__law_chosen
  · intro p hp; simp only [Txt.codes, List.mem_cons, List.not_mem_nil, or_false] at hp; rcases hp with rfl
    · exact tb__law_chosen.1
  · intro p hp; simp only [Txt.tabs, List.mem_cons, List.not_mem_nil, or_false] at hp; rcases hp with rfl
    · exact LamX.TabS.nil (ht (c__law_chosen, P__law_chosen) (by simp [Txt.codes, T]))
end Sw
open PySem PySem.W PyProof.Rows in
set_option maxRecDepth 100000 in
set_option maxHeartbeats 0 in
theorem PySem.Challenge.cw_slotwraps_k65_whole_any_rule_of_reuse_holds : PySem.Challenge.rw_slotwraps_k65_whole_any_rule_of_reuse.Holds := by
  w_on; o_law; k_head; (case hw => w_witness2)
  k_fill
  refine Sw.walkT (l := PySem.Challenge.rw_slotwraps_k65_whole_any_rule_of_reuse) (n := 63) (k := 7) (x := "_law_script") (LN := ["_law_chosen"]) rfl (by decide) rfl ⟨rfl, by decide, by decide⟩ (by decide +kernel) (fun w h Y => by first | exact PySem.W.km_in_of Y | exact PySem.W.kIn_of Y) ?F
  case F =>
    intro w mg fa h Y KX G hmg HT
    refine' Sw.all_mk KX G hmg HT ?hz_bool ?hz_int ?hz_isinstance ?hz_len ?hz_list ?hz_range ?hz_sorted ?hz_str ?hg_MOST_SLOTS ?hg_MOST_GENERATIONS ?hg_RULES ?hl_RULES ?a_is_integer ?l_is_integer ?c_is_integer ?k_is_integer ?a_is_between ?l_is_between ?c_is_between ?k_is_between ?a_is_rule ?l_is_rule ?c_is_rule ?k_is_rule ?a_check_map ?l_check_map ?c_check_map ?k_check_map ?a__law_source_of ?l__law_source_of ?c__law_source_of ?k__law_source_of ?a__law_next ?l__law_next ?c__law_next ?k__law_next ?a__law_one ?l__law_one ?c__law_one ?k__law_one ?a_full_horizon ?l_full_horizon ?c_full_horizon ?k_full_horizon ?a_horizon ?l_horizon ?c_horizon ?k_horizon ?a_retired ?l_retired ?c_retired ?k_retired ?a__law_chosen ?l__law_chosen ?cc__law_chosen ?k__law_chosen ?lc__law_chosen ?v__law_chosen ?np__law_chosen ?a__law_played ?l__law_played ?c__law_played ?k__law_played ?a_law ?l_law ?c_law ?k_law ?nP
    (case hz_bool => k_is)
    (case hz_int => k_is)
    (case hz_isinstance => k_is)
    (case hz_len => k_is)
    (case hz_list => k_is)
    (case hz_range => k_is)
    (case hz_sorted => k_is)
    (case hz_str => k_is)
    (case hg_MOST_SLOTS => k_is)
    (case hg_MOST_GENERATIONS => k_is)
    (case hg_RULES => k_is)
    (case hl_RULES => k_is)
    (case a_is_integer => k_is)
    (case l_is_integer => k_is)
    (case c_is_integer => k_is)
    (case k_is_integer => k_is)
    (case a_is_between => k_is)
    (case l_is_between => k_is)
    (case c_is_between => k_is)
    (case k_is_between => k_is)
    (case a_is_rule => k_is)
    (case l_is_rule => k_is)
    (case c_is_rule => k_is)
    (case k_is_rule => k_is)
    (case a_check_map => k_is)
    (case l_check_map => k_is)
    (case c_check_map => k_is)
    (case k_check_map => k_is)
    (case a__law_source_of => k_is)
    (case l__law_source_of => k_is)
    (case c__law_source_of => k_is)
    (case k__law_source_of => k_is)
    (case a__law_next => k_is)
    (case l__law_next => k_is)
    (case c__law_next => k_is)
    (case k__law_next => k_is)
    (case a__law_one => k_is)
    (case l__law_one => k_is)
    (case c__law_one => k_is)
    (case k__law_one => k_is)
    (case a_full_horizon => k_is)
    (case l_full_horizon => k_is)
    (case c_full_horizon => k_is)
    (case k_full_horizon => k_is)
    (case a_horizon => k_is)
    (case l_horizon => k_is)
    (case c_horizon => k_is)
    (case k_horizon => k_is)
    (case a_retired => k_is)
    (case l_retired => k_is)
    (case c_retired => k_is)
    (case k_retired => k_is)
    (case a__law_chosen => k_is)
    (case l__law_chosen => k_is)
    (case cc__law_chosen => k_is)
    (case k__law_chosen => k_is)
    (case lc__law_chosen => k_is)
    (case v__law_chosen => rfl)
    (case np__law_chosen => first | kernel_rfl | rfl | decide)
    (case a__law_played => k_is)
    (case l__law_played => k_is)
    (case c__law_played => k_is)
    (case k__law_played => k_is)
    (case a_law => k_is)
    (case l_law => k_is)
    (case c_law => k_is)
    (case k_law => k_is)
    (case nP => decide)
#print axioms PySem.Challenge.cw_slotwraps_k65_whole_any_rule_of_reuse_holds
