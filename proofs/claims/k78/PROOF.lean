import PyProof.Rows.All
import Wide.All
import OpenK.AllK
import Wide.FinOn
import HandS.ForMost
import HandS.Style
import HandS.ExcOwn
import HandS.Exc
import HandS.TryMany
import HandS.ExcInit
import HandS.ExcField
import HandS.WordsExc
import HandS.Conv
import HandS.Codes
import HandS.FStr
import HandS.TryOnly
import HandS.Walk
import HandS.Iter
import HandS.Strs
import HandS.Text
import HandS.SetFor
import HandS.Deep
import HandS.OwnEq
import HandS.IsInst
import PySem.Challenge.RW_everdays_k78_patterns_written
set_option Elab.async false
set_option linter.all false
set_option maxRecDepth 100000
set_option maxHeartbeats 4000000
namespace Q
open PySem PySem.Spec PyProof.Rows L2
theorem op_fdivE {X : Cx} : OpR X (binaryOp .FloorDiv) (rI CDiv fun i j => .int (i / j)) := op_fdiv
theorem op_modE {X : Cx} : OpR X (binaryOp .Mod) (rI (fun _ j => 0 < j) fun i j => .int (i % j)) := op_mod
theorem cmul_r {i j : Int} (h1 : -(2 ^ 64) < j) (h2 : j < 2 ^ 64) : CMul i j := .inr ⟨h1, h2⟩
theorem cmul_l {i j : Int} (h1 : -(2 ^ 64) < i) (h2 : i < 2 ^ 64) : CMul i j := .inl ⟨h1, h2⟩
theorem iteK {c A B : Prop} {inst : Decidable c} (h1 : c → A) (h2 : ¬ c → B) : if decide c = true then A else B := by
  by_cases h : c
  · rw [if_pos (decide_eq_true h)]; exact h1 h
  · rw [if_neg (by simpa using h)]; exact h2 h
theorem ite_y {c : Bool} {A B : Prop} (hc : c = true) (h : A) : if c = true then A else B := by
  rw [if_pos hc]; exact h
theorem ite_n {c : Bool} {A B : Prop} (hc : c = false) (h : B) : if c = true then A else B := by
  rw [if_neg (by rw [hc]; decide)]; exact h
end Q
namespace Q
open PySem PySem.Spec PyProof.Rows L2
section
variable {K : PySem.W.Frag} {σ : L2.St} {H H' : Hp} {i j : Nat} {v x y z : V} {Q : VK} {R : Bool → Hp → Prop} {ta tb te : TE} {D : Ends} {t u : TS} {p : Addr} {xs : List V}
theorem red {σ' : L2.St} (e : σ = σ') (h : t D σ' H) : t D σ H := e ▸ h
theorem g_var (h : σ[i]? = some (some v)) (q : Q v H) : tVar i σ H Q := ⟨v, h, q⟩
theorem g_c (q : Q v H) : tC v σ H Q := q
theorem g_op {r : R2} (q : ta σ H fun x H1 => tb σ H1 fun y H2 => r x y H2 Q) : tOp r ta tb σ H Q := q
theorem g_un {r : V → Hp → VK → Prop} (q : ta σ H fun x H1 => r x H1 Q) : tUn r ta σ H Q := q
theorem g_tt (q : te σ H fun x H' => ∃ k, x = .bl k ∧ R k H') : tTest te σ H R := q
theorem g_tB (q : te σ H fun x H' => ∃ k, x = .bl k ∧ R k H') : tB te σ H R := q
theorem g_ifs {c : TT} (q : c σ H fun b H1 => if b = true then t D σ H1 else u D σ H1) : tIfS c t u D σ H := q
theorem g_seq (q : t { D with nx := u D } σ H) : tSeq t u D σ H := q
theorem g_next (q : D.nx σ H) : tNext D σ H := q
theorem g_asg {g : TG} (q : te σ H fun x H1 => g x σ H1 D.nx) : tAsg te g D σ H := q
theorem g_name {R : L2.St → Hp → Prop} (q : R (σ.set i (some v)) H) : gName i v σ H R := q
theorem g_ret (q : te σ H D.rt) : tRet te D σ H := q
theorem g_drop (q : te σ H fun _ H1 => D.nx σ H1) : tDrop te D σ H := q
theorem g_nil {R : List V → Hp → Prop} (q : R [] H) : tNil σ H R := q
theorem g_cons {tr : TA} {R : List V → Hp → Prop} (q : te σ H fun x H1 => tr σ H1 fun xs H2 => R (x :: xs) H2) : tCons te tr σ H R := q
theorem g_cb {r : List V → Hp → VK → Prop} {ta : TA} (q : ta σ H fun vs H1 => r vs H1 Q) : tCB r ta σ H Q := q
theorem g_sub {to ti : TE} {ts : TSet} {R : L2.St → Hp → Prop} (q : to σ H fun o H1 => ti σ H1 fun i H2 => ts o i v H2 fun H3 => R σ H3) : gSub to ti ts v σ H R := q
theorem g_call {sp : Sp} {dvs : List V} {E : XK} {ta : TA} (q : ta σ H fun vs H1 => sp (vs ++ dvs) H1 Q E) : tCall sp dvs E ta σ H Q := q
theorem g_if {c : TT} (q : c σ H fun b H1 => if b = true then ta σ H1 Q else tb σ H1 Q) : tIf c ta tb σ H Q := q
theorem g_and {c d : TT} (q : c σ H fun b H1 => if b = true then d σ H1 R else R false H1) : tAnd c d σ H R := q
theorem g_or {c d : TT} (q : c σ H fun b H1 => if b = true then R true H1 else d σ H1 R) : tOr c d σ H R := q
theorem g_not {c : TT} (q : c σ H fun b H1 => R (!b) H1) : tNot c σ H R := q
theorem g_tup {ta : TA} (q : ta σ H fun xs H1 => xs.length ≤ sizeLine ∧ ∀ p, H1 p = none → Q (.ref p) (upd H1 p (.tup xs))) : tTup ta σ H Q := q
theorem g_lst {ta : TA} (q : ta σ H fun xs H1 => xs.length ≤ sizeLine ∧ ∀ p, H1 p = none → Q (.ref p) (upd H1 p (.lst xs))) : tLst ta σ H Q := q
theorem g_vei {ta : TA} (q : ta σ H fun vs H1 => ∃ (a C : Addr) (ws : List V), vs = .ref a :: ws ∧ ws.length ≤ 1000 ∧ OexC K C ∧ H1 a = some (exo a C none) ∧ Q .non H1) : tVeI K ta σ H Q := q
theorem g_jc {t : TE} {ts : List TE} {acc : Str} {R : Str → Hp → Prop} (q : t σ H fun x H1 => ∃ y : Str, x = .str y ∧ (acc ++ y).length ≤ sizeLine ∧ tJs ts (acc ++ y) σ H1 R) : tJs (t :: ts) acc σ H R := q
theorem g_jn {acc : Str} {R : Str → Hp → Prop} (q : R acc H) : tJs [] acc σ H R := q
theorem g_fmt (q : te σ H fun x H1 => (∃ y : Str, x = .str y ∧ y.length ≤ sizeLine ∧ Q (.str y) H1) ∨ ∃ i : Int, x = .int i ∧ i.natAbs.log2 < 1920 ∧ Q (.str (toString i)) H1) : tFmt te σ H Q := q
theorem g_ost {f : Str} {to : TE} (q : te σ H fun y H1 => to σ H1 fun x H2 => ∃ a C : Addr, x = .ref a ∧ OexC K C ∧ PySem.W.findIn K (.ref C) f = some none ∧
  ((H2 a = some (exo a C none) ∧ ∀ dx, H2 dx = none → dx ≠ a → D.nx σ (upd (upd H2 dx (exd dx [(f, y)])) a (exo a C (some dx)))) ∨
    ∃ (dx : Addr) (fs : List (Str × V)), H2 a = some (exo a C (some dx)) ∧ H2 dx = some (exd dx fs) ∧ fs.length ≤ 900 ∧ D.nx σ (upd H2 dx (exd dx ((f, y) :: fs))))) : tOst K f to te D σ H := q
theorem g_mko {C : Addr} {sp : Sp} {dvs : List V} {ta : TA} {R : XK} (q : ta σ H fun vs H1 => vs.length ≤ 1000 ∧ ∀ a, H1 a = none → sp (.ref a :: (vs ++ dvs)) (upd H1 a (exo a C none))
  (fun v H2 => v = .non ∧ ∃ (d : Addr) (fs : List (Str × V)), H2 a = some (exo a C (some d)) ∧ H2 d = some (exd d fs) ∧ H1 d = none ∧ R (.ref C) (some d) (upd (del H2 a) d (.xd fs))) (fun _ _ _ => False)) : tMkO C sp dvs ta σ H R := q
theorem g_fld {f : Str} (q : ta σ H fun x H1 => ∃ a C dx fs v, x = .ref a ∧ H1 a = some (.ins C dx fs) ∧ Cls K C ∧ NoAttr K C f ∧ fs.lookup f = some v ∧ Q v H1) : tFld K ta f σ H Q := q
theorem g_sfld {f : Str} {tv : TE} (q : tv σ H fun y H1 => ta σ H1 fun x H2 => ∃ a C dx fs, x = .ref a ∧ H2 a = some (.ins C dx fs) ∧ Cls K C ∧ NoAttr K C f ∧ fs.length < 1000 ∧ D.nx σ (upd H2 a (.ins C dx (putF f y fs)))) : sFld K ta tv f D σ H := q
theorem g_meth {C : Addr} {m : Str} {sp : Sp} {dvs : List V} {E : XK} {tr : TA} (q : ta σ H fun x H1 => ∃ a dx fs, x = .ref a ∧ H1 a = some (.ins C dx fs) ∧ fs.lookup m = none ∧ tr σ H1 fun vs H2 => sp (x :: (vs ++ dvs)) H2 Q E) : tMeth C m sp dvs E ta tr σ H Q := q
theorem g_make {C : Addr} {sp : Sp} {dvs : List V} {E : XK} {tr : TA} (q : tr σ H fun vs H1 => ∀ x dx, H1 x = none → H1 dx = none → dx ≠ x → sp (.ref x :: (vs ++ dvs)) (upd (upd H1 dx (.own x)) x (.ins C dx [])) (fun v H2 => v = .non ∧ Q (.ref x) H2) E) : tMake C sp dvs E tr σ H Q := q
theorem g_ofld {f : Str} {C dx : Addr} {fs : List (Str × V)} (h : H p = some (.ins C dx fs)) (c : Cls K C) (n : NoAttr K C f) (l : fs.lookup f = some v) {R : V → Prop} (q : R v) : ∃ a C dx fs v, V.ref p = .ref a ∧ H a = some (.ins C dx fs) ∧ Cls K C ∧ NoAttr K C f ∧ fs.lookup f = some v ∧ R v := ⟨p, C, dx, fs, v, rfl, h, c, n, l, q⟩
theorem g_omet {m : Str} {C dx : Addr} {fs : List (Str × V)} (h : H p = some (.ins C dx fs)) (l : fs.lookup m = none) {R : Prop} (q : R) : ∃ a dx fs, V.ref p = .ref a ∧ H a = some (.ins C dx fs) ∧ fs.lookup m = none ∧ R := ⟨p, dx, fs, rfl, h, l, q⟩
theorem g_dget {td ty : TE} (q : td σ H fun x H1 => ty σ H1 fun y H2 => ∃ a v, x = .ref a ∧ DGet H2 a y (some v) ∧ Q v H2) : tDGet td ty σ H Q := q
theorem g_din {td ty : TE} (q : ty σ H fun y H1 => td σ H1 fun x H2 => ∃ a o, x = .ref a ∧ DGet H2 a y o ∧ Q (.bl o.isSome) H2) : tDIn ty td σ H Q := q
theorem g_dni {td ty : TE} (q : ty σ H fun y H1 => td σ H1 fun x H2 => ∃ a o, x = .ref a ∧ DGet H2 a y o ∧ Q (.bl (!o.isSome)) H2) : tDNotIn ty td σ H Q := q
theorem g_dput {td ty tv : TE} (q : tv σ H fun v H1 => td σ H1 fun x H2 => ty σ H2 fun y H3 => ∃ a H4, x = .ref a ∧ DPut H3 a y v H4 ∧ D.nx σ H4) : sDPut td ty tv D σ H := q
theorem g_dg1 {td ty : TE} (q : td σ H fun x H1 => ∃ a, x = .ref a ∧ IsD H1 a ∧ ty σ H1 fun y H2 => ∃ o, DGet H2 a y o ∧ Q (o.getD .non) H2) : tDGet1 td ty σ H Q := q
theorem g_dg2 {td ty tx : TE} (q : td σ H fun x H1 => ∃ a, x = .ref a ∧ IsD H1 a ∧ ty σ H1 fun y H2 => tx σ H2 fun z H3 => ∃ o, DGet H3 a y o ∧ Q (o.getD z) H3) : tDGet2 td ty tx σ H Q := q
theorem g_or2 {c d : TE} (q : c σ H fun x H1 => ∃ k, x = .bl k ∧ if k = true then Q (.bl true) H1 else d σ H1 Q) : tOrV c d σ H Q := q
theorem g_an2 {c d : TE} (q : c σ H fun x H1 => ∃ k, x = .bl k ∧ if k = true then d σ H1 Q else Q (.bl false) H1) : tAndV c d σ H Q := q
theorem g_no2 {c : TE} (q : c σ H fun x H1 => ∃ k, x = .bl k ∧ Q (.bl (!k)) H1) : tNotV c σ H Q := q
theorem g_I0 {g : Int → Int → V} {m n : Int} (q : Q (g m n) H) : rI0 g (.int m) (.int n) H Q := ⟨m, n, rfl, rfl, q⟩
theorem g_I {C : Int → Int → Prop} {g : Int → Int → V} {m n : Int} (c : C m n) (q : Q (g m n) H) : rI C g (.int m) (.int n) H Q := ⟨m, n, rfl, rfl, c, q⟩
theorem g_U {g : Int → V} {m : Int} (q : Q (g m) H) : rU g (.int m) H Q := ⟨m, rfl, q⟩
theorem g_eq (c : scal x y = true) (q : Q (.bl (decide (x = y))) H) : rEq x y H Q := ⟨c, q⟩
theorem g_ne (c : scal x y = true) (q : Q (.bl (!decide (x = y))) H) : rNe x y H Q := ⟨c, q⟩
theorem g_ixL {n : Int} (h : SqL K H p xs) (a : atI xs n = some v) (q : Q v H) : rIxL K (.ref p) (.int n) H Q := ⟨p, xs, n, v, rfl, rfl, h, a, q⟩
theorem g_ixT {n : Int} (h : SqT K H p xs) (a : atI xs n = some v) (q : Q v H) : rIxT K (.ref p) (.int n) H Q := ⟨p, xs, n, v, rfl, rfl, h, a, q⟩
theorem g_setL {n : Int} (h : H p = some (.lst xs)) (a : ixN xs.length n = some j) {Q : Hp → Prop} (q : Q (upd H p (.lst (xs.set j v)))) : rSetL (.ref p) (.int n) v H Q := ⟨p, xs, n, j, rfl, rfl, h, a, q⟩
theorem g_test {b : Bool} {R : Bool → Prop} (q : R b) : (∃ k, V.bl b = .bl k ∧ R k) := ⟨b, rfl, q⟩
theorem g_int1 {n : Int} {R : Int → Prop} {S : Bool → Prop} (q : R n) : (∃ i, [V.int n] = [V.int i] ∧ R i) ∨ (∃ k, [V.int n] = [V.bl k] ∧ S k) := .inl ⟨n, rfl, q⟩
theorem g_bl1 {b : Bool} {R : Int → Prop} {S : Bool → Prop} (q : S b) : (∃ i, [V.bl b] = [V.int i] ∧ R i) ∨ (∃ k, [V.bl b] = [V.bl k] ∧ S k) := .inr ⟨b, rfl, q⟩
theorem g_lenL {R : List V → Prop} (h : SqL K H p xs) (q : R xs) : ∃ p' ys, [V.ref p] = [V.ref p'] ∧ (SqL K H p' ys ∨ SqT K H p' ys) ∧ R ys := ⟨p, xs, rfl, .inl h, q⟩
theorem g_lenT {R : List V → Prop} (h : SqT K H p xs) (q : R xs) : ∃ p' ys, [V.ref p] = [V.ref p'] ∧ (SqL K H p' ys ∨ SqT K H p' ys) ∧ R ys := ⟨p, xs, rfl, .inr h, q⟩
end
section
variable {K : PySem.W.Frag} {σ : L2.St} {H : Hp} {te : TE} {ta : TA} {wi : TI} {g : TG} {gs : TGs} {tt : TT} {tb t : TS} {D : Ends} {Q : VK} {R : It → Hp → Prop} {v : V}
theorem g_itup (q : te σ H fun x H1 => ∃ a, x = .ref a ∧ (∃ xs, SqT K H1 a xs) ∧ R (Itt K a) H1) : iTup K te σ H R := q
theorem g_ilist (q : te σ H fun x H1 => ∃ a, x = .ref a ∧ (∃ xs, SqL K H1 a xs) ∧ R (Itl K a) H1) : iList K te σ H R := q
theorem g_ikeys (q : te σ H fun x H1 => ∃ d o, x = .ref d ∧ ((∃ kvs, H1 d = some (.frz o (.dK kvs)) ∧ R (Itk d o kvs) H1) ∨ ∃ kvs, H1 d = some (.frz o (.dT kvs)) ∧ R (Itkt d o kvs) H1)) : iKeys te σ H R := q
theorem g_irng1 (q : ta σ H fun vs H1 => ∃ j : Int, vs = [.int j] ∧ -(2 ^ 62) ≤ j ∧ j < 2 ^ 62 ∧ R (Itr 0 j.toNat) H1) : iRng1 ta σ H R := q
theorem g_irng2 (q : ta σ H fun vs H1 => ∃ i j : Int, vs = [.int i, .int j] ∧ (-(2 ^ 62) ≤ i ∧ i < 2 ^ 62 ∧ -(2 ^ 62) ≤ j ∧ j < 2 ^ 62) ∧ R (Itr i (j - i).toNat) H1) : iRng2 ta σ H R := q
theorem g_for (q : wi σ H fun J H1 => ∃ W : Nat → Nat → L2.St → Hp → Prop, (∃ m, W 0 m σ H1) ∧ ∀ i m σ H, W i m σ H →
  (J.stop i H ∧ D.nx σ H) ∨ (J.go i H ∧ ∃ N : L2.St → Hp → Prop, (∀ σ' H', N σ' H' → ∃ m', m' < m ∧ W (i + 1) m' σ' H') ∧ ∀ x H', J.yld i H x H' → g x σ H' fun σ2 H2 => tb { D with nx := N, ct := N, bk := D.nx } σ2 H2)) : tFor wi g tb D σ H := q
theorem g_lc {vs : List Nat} (q : wi σ H fun J H1 => ∀ D, H1 D = none → ∃ W : Nat → Nat → Hp → Prop, (∃ m, W 0 m (upd H1 D (.lst []))) ∧ ∀ i m H, W i m H →
  (J.stop i H ∧ Q (.ref D) H) ∨ (J.go i H ∧ ∃ Nx : Hp → Prop, (∀ H', Nx H' → ∃ m', m' < m ∧ W (i + 1) m' H') ∧ ∀ x H', J.yld i H x H' → g x (wipe σ vs) H' fun σ2 H2 => wipe σ2 vs = wipe σ vs ∧ tt σ2 H2 fun b H3 =>
    if b = true then te σ2 H3 fun y H4 => ∃ acc, H4 D = some (.lst acc) ∧ acc.length < sizeLine ∧ Nx (upd H4 D (.lst (acc ++ [y]))) else Nx H3)) : tLc wi g tt te vs σ H Q := q
theorem g_lock (q : ∃ d u, H d = some u ∧ Mut (some u) ∧ ∀ od, t ⟨fun σ' H' => H' d = some (.frz od u) ∧ D.nx σ' (upd H' d u), fun v H' => H' d = some (.frz od u) ∧ D.rt v (upd H' d u), fun σ' H' => H' d = some (.frz od u) ∧ D.bk σ' (upd H' d u), fun σ' H' => H' d = some (.frz od u) ∧ D.ct σ' (upd H' d u)⟩ σ (upd H d (.frz od u))) : tLock t D σ H := q
theorem g_gtup {n : Nat} {R : L2.St → Hp → Prop} (q : ∃ a xs, v = .ref a ∧ SqT K H a xs ∧ xs.length = n ∧ gs xs σ H R) : gTup K n gs v σ H R := q
theorem g_gcons {vs : List V} {R : L2.St → Hp → Prop} (q : g v σ H fun σ' H' => gs vs σ' H' R) : gCons g gs (v :: vs) σ H R := ⟨v, vs, rfl, q⟩
theorem g_gnil {R : L2.St → Hp → Prop} (q : R σ H) : gNil [] σ H R := ⟨rfl, q⟩
theorem g_sl {r : V → Option Int → Option Int → Hp → VK → Prop} {tl th : TO} (q : te σ H fun x H1 => tl σ H1 fun l H2 => th σ H2 fun u H3 => r x l u H3 Q) : tSl r te tl th σ H Q := q
theorem g_npart {R : Option Int → Hp → Prop} (q : R none H) : tNoPart σ H R := q
theorem g_part {R : Option Int → Hp → Prop} (q : te σ H fun x H1 => ∃ i, x = .int i ∧ R (some i) H1) : tPart te σ H R := q
theorem g_dnt (q : ∀ p, H p = none → Q (.ref p) (upd H p (.dT []))) : tDNewT σ H Q := q
theorem g_dnk (q : ∀ p, H p = none → Q (.ref p) (upd H p (.dK []))) : tDNewK σ H Q := q
theorem g_yes {R : Bool → Hp → Prop} (q : R true H) : tYes σ H R := q
theorem g_par {i j : Nat} (q : ta σ H fun vs H1 => ∃ v w, vs = [v, w] ∧ D.nx ((σ.set i (some v)).set j (some w)) H1) : tPar i j ta D σ H := q
theorem g_par3 {i j l : Nat} (q : ta σ H fun vs H1 => ∃ u v w, vs = [u, v, w] ∧ D.nx (((σ.set i (some u)).set j (some v)).set l (some w)) H1) : tPar3 i j l ta D σ H := q
theorem g_calls {sp : Sp} {E : L2.St → XK} (q : ta σ H fun vs H1 => sp vs H1 Q (E σ)) : tCallS sp E ta σ H Q := q
end
end Q
namespace Q
open PySem PySem.Spec PyProof.Rows L2
/-- what the written part says of a class of the program whose __init__ is ValueError's own, read off the class: D.__init__ -/
structure BaseInit (K : PySem.W.Frag) (D : Addr) (mc : Value) : Prop where
  rd : PySem.W.readsIn K D mc = true
  ga : PySem.W.specialIn K (.ref D) "__getattribute__" = some (some (.builtin "type.__getattribute__"))
  at_ : PySem.W.findCls K (.ref D) mc "__init__" = some (.val (.builtin "ValueError.__init__"))
/-- D.__init__(self, ..), D a class of the program: the same as ValueError.__init__ -/
theorem pe_deinit {X : Cx} {e : Expr} {es : List Expr} {ta : TA} {x : Str} {D : Addr} {mc : Value} {p1 p2 pos : PySem.Pos} {pl : Sem Bool} (hg : Gl X x) (hm : X.mg x = some (.ref D)) (B : BaseInit X.K D mc) (ha : PA X (e :: es) ta)
    (hdb : (x == ("__debug__" : Str)) = false := by decide)
    (hc : eval (.Call (.Attribute (.Name x p1) "__init__" p2) (e :: es) [] pos) X.env = (do
      let ov ← eval (.Name x p1) X.env
      standAt p2.atName
      let (f, first) ← holding [ov] (getMethod ov "__init__" pl)
      callWith pos f first (backTo pos (starEach (e :: es) X.env)) (backToKw pos (keywordEach [] X.env))) := by rfl)
    (he : starEach (e :: es) X.env = (false, eval e X.env) :: starEach es X.env := by rfl) (hpl : (backTo pos (starEach es X.env)).any (·.1) = false := by rfl) :
    PE X (.Call (.Attribute (.Name x p1) "__init__" p2) (e :: es) [] pos) (tVeI X.K ta) := by
  refine ⟨fun pins s σ H Q I h => ?_⟩
  refine PySem.W.methodCall_KW (ld_glob I hg hm ?_ hdb) hc
  refine PySem.W.method_cls I.kIn B.ga (PySem.W.cls_value I.kIn B.rd B.at_ (by decide +kernel) ?_)
  show wpAny _ _ (callWith pos (Value.builtin "ValueError.__init__") [] (backTo pos (starEach (e :: es) X.env)) []) _ _ _
  have I0 : Inv X pins σ H { s with toks := s.toks + 1 } := I.tok _
  refine PyProof.Rows.callWith_method1 (thn (ha.run pos pins _ σ H _ I0 h) fun us s1 hv => ?_) he hpl
  obtain ⟨vs, H1, I1, r1, a, C, ws, ev, hl, T, ea, q⟩ := hv
  subst ev
  cases r1 with
  | @cons _ u0 _ ur ra rw' =>
    obtain rfl : u0 = Value.ref a := ra
    have hlen : ur.length ≤ sizeLine := by
      rw [← Paired.length rw', sizeLine_eq]; omega
    exact oinit_ok T I1 ea hlen fun s' J => ⟨.non, H1, J, rfl, q⟩
end Q
namespace Q
open PySem PySem.Spec PyProof.Rows L2
/-- X(), an own exception class without own __init__ -/
theorem pmk_own0 {X : Cx} {C : Addr} {bmB : List Value} {B newId initId : String} {x : Str} {p pos : PySem.Pos} (F : ExcBaseFacts B newId initId bmB) (q : PySem.W.excIn X.K C bmB newId = true) (gC : X.mg x = some (.ref C))
    (kC : PySem.W.keepIn X.K (.ref C) = true) (r : Raises X (.ref C)) (hg : Gl X x) (hdb : (x == ("__debug__" : Str)) = false := by decide) : PMk X (.Call (.Name x p) [] [] pos) (fun _ H Q => Q (.ref C) none H) := by
  intro pins s σ H Q I h
  refine wpAny_Call_Name_kw (ld_glob I hg gC ?_ hdb)
  refine PySem.W.callWith_K0 I.kIn kC ?_
  obtain ⟨bm, N, nm, qn, bs, hdct, sn, sub, ab, col, dd, k0, k1, k2, k3, k5, mN, hC, hN, hni, T⟩ := exc_obj I.kIn q
  exact wpAny_call_exc_subT F T hC hN hni (fun h' e hm => mk_of I hm r h (I.hok.gone hm.new)) (Nat.zero_le _)
end Q
namespace Q
/-- does «except D» take an error of the class C -/
theorem exm_sub {K : PySem.W.Frag} {C D : PySem.Addr} {b : Bool} (h1 : PySem.W.subIn K (.ref D) (.type "BaseException") = some true) (h2 : PySem.W.isClsIn K D = true) (h3 : PySem.W.typeIn K (.ref D) = some (.type "type")) (h4 : PySem.W.subIn K (.ref C) (.ref D) = some b) :
    PySem.W.exmOne K (.ref C) (.ref D) = some b := by
  have e1 : (PySem.W.subIn K (.ref D) (.type "BaseException") == some true) = true := by rw [h1]; rfl
  have e2 : ((PySem.W.clsIn K D).isSome && PySem.W.typeIn K (.ref D) == some (.type "type")) = true := by
    have h2' : (PySem.W.clsIn K D).isSome = true := h2
    rw [h2', h3]; rfl
  show (if (PySem.W.subIn K (.ref D) (.type "BaseException") == some true) = true then (if ((PySem.W.clsIn K D).isSome && PySem.W.typeIn K (.ref D) == some (.type "type")) = true then PySem.W.subIn K (.ref C) (.ref D) else none) else none) = some b
  rw [if_pos e1, if_pos e2]
  exact h4
end Q
namespace Q
open PySem PySem.Spec PyProof.Rows L2
/-- o.m(e, ..) where what is raised is wished for at the caller's slots -/
def tMethX (C : Addr) (m : Str) (sp : Sp) (E : L2.St → XK) (ta : TE) (t : TA) : TE := fun σ H Q => ta σ H fun x H1 => ∃ a dx fs, x = .ref a ∧ H1 a = some (.ins C dx fs) ∧ fs.lookup m = none ∧ t σ H1 fun vs H2 => sp (x :: vs) H2 Q (E σ)
theorem g_methx {C : Addr} {m : Str} {sp : Sp} {E : L2.St → XK} {ta : TE} {t : TA} {σ : L2.St} {H : Hp} {Q : VK} (q : ta σ H fun x H1 => ∃ a dx fs, x = .ref a ∧ H1 a = some (.ins C dx fs) ∧ fs.lookup m = none ∧ t σ H1 fun vs H2 => sp (x :: vs) H2 Q (E σ)) : tMethX C m sp E ta t σ H Q := q
theorem pe_methX {X : Cx} {CX : CXT} {k : Nat} {f C : Addr} {fd : FuncData} {ps : List Str} {sp : Sp} {E : L2.St → XK} {m : Str} {apos pos : PySem.Pos} {e o : Expr} {es : List Expr} {ta : TE} {t : TA} {pl : Sem Bool} (he : PE X o ta) (c : Cls X.K C) (hm : Meth X.K C m f)
    (F : FnOk X.prog X.w X.K X.mg X.base CX k f fd ps sp) (hr : Room k X.A) (hb : Binds X.K fd ps []) (hx : ∀ σ, PassesAt CX X σ (E σ)) (ha : PA X (e :: es) t)
    (hst : starEach (e :: es) X.env = (false, eval e X.env) :: starEach es X.env := by rfl) (hpl : (backTo pos (starEach es X.env)).any (·.1) = false := by rfl)
    (ht : eval (.Call (.Attribute o m apos) (e :: es) [] pos) X.env = (do
      let ov ← eval o X.env
      standAt apos.atName
      let (f, first) ← holding [ov] (getMethod ov m pl)
      callWith pos f first (backTo pos (starEach (e :: es) X.env)) (backToKw pos (keywordEach [] X.env))) := by rfl) :
    PE X (.Call (.Attribute o m apos) (e :: es) [] pos) (tMethX C m sp E ta t) := by
  refine ⟨fun pins s σ H Q I h => PySem.W.methodCall_KW (pl := pl) (thn (he.run pins s σ H _ I h) fun u s1 hv => ?_) ht⟩
  obtain ⟨x, H1, I1, rx, a, dx, fs, rfl, ea, l, q⟩ := hv
  obtain rfl : u = Value.ref a := rx
  refine getmeth_ok I1 ea c hm l (PySem.W.callWith_K (first := [.ref a]) (h₀ := X.base) I.ok.mod.kin hm.kp (thn (ha.run pos pins s1 σ H1 _ I1 q) fun us s2 hv => ?_) hst hpl)
  obtain ⟨vs, H2, I2, r, q2⟩ := hv
  exact ⟨I2.kIn, run_fnS (us := .ref a :: us) (vs := .ref a :: vs) F hr hb (hx σ) I2 (.cons rfl r) q2⟩
theorem pe_meth0X {X : Cx} {CX : CXT} {k : Nat} {f C : Addr} {fd : FuncData} {ps : List Str} {sp : Sp} {E : L2.St → XK} {m : Str} {apos pos : PySem.Pos} {o : Expr} {ta : TE} {pl : Sem Bool} (he : PE X o ta) (c : Cls X.K C) (hm : Meth X.K C m f)
    (F : FnOk X.prog X.w X.K X.mg X.base CX k f fd ps sp) (hr : Room k X.A) (hb : Binds X.K fd ps []) (hx : ∀ σ, PassesAt CX X σ (E σ))
    (ht : eval (.Call (.Attribute o m apos) [] [] pos) X.env = (do
      let ov ← eval o X.env
      standAt apos.atName
      let (f, first) ← holding [ov] (getMethod ov m pl)
      callWith pos f first (backTo pos (starEach [] X.env)) (backToKw pos (keywordEach [] X.env))) := by rfl) :
    PE X (.Call (.Attribute o m apos) [] [] pos) (tMethX C m sp E ta tNil) := by
  refine ⟨fun pins s σ H Q I h => PySem.W.methodCall_KW (pl := pl) (thn (he.run pins s σ H _ I h) fun u s1 hv => ?_) ht⟩
  obtain ⟨x, H1, I1, rx, a, dx, fs, rfl, ea, l, q⟩ := hv
  obtain rfl : u = Value.ref a := rx
  exact getmeth_ok I1 ea c hm l (PySem.W.callWith_K0 (first := [.ref a]) I1.kIn hm.kp (run_fnS (us := [.ref a]) (vs := [.ref a]) F hr hb (hx σ) I1 (.cons rfl .nil) q))
end Q
/-! several except clauses, some of them with a name -/
namespace Q
open PySem PySem.Spec PyProof.Rows L2
abbrev Suite := Addr → Value → Option Addr → TS
/-- the ends and the slots of a clause: slot i (if any) is the clause's own name -/
def cEnds (D : Ends) : Option Nat → Ends
  | none => D
  | some i => { nx := fun σ' H' => D.nx (σ'.set i none) H', rt := D.rt, bk := fun σ' H' => D.bk (σ'.set i none) H', ct := fun σ' H' => D.ct (σ'.set i none) H' }
def cSlot (σ : L2.St) (a : Addr) : Option Nat → L2.St
  | none => σ
  | some i => σ.set i (some (.ref a))
def wCl (K : PySem.W.Frag) (Wout : WX) (D : Ends) : List (Value × Option Nat × Suite) → WX
  | [] => Wout
  | (c, o, ts) :: r => fun cls d σ H => ∃ b, PySem.W.exmOne K cls c = some b ∧ (b = true → ∀ a, H a = none → ts a cls d (cEnds D o) (cSlot σ a o) H) ∧ (b = false → wCl K Wout D r cls d σ H)
inductive ClOk (X : Cx) : List ExceptHandler → List (Value × Option Nat × Suite) → Prop
  | nil : ClOk X [] []
  | bare {x : Str} {c : Value} {ts : Suite} {b₀ : Stmt} {su : List Stmt} {np p' : PySem.Pos} {hds : List ExceptHandler} {l : List (Value × Option Nat × Suite)} (hc : Names X x c)
      (hsu : ∀ (a : Addr) (oe : Obj) (cls : Value) (d : Option Addr) (pn : List (Addr × Obj)), Zc cls d oe → (∃ vs, oe.data = .fields vs) → PSs (X.suite a ((a, oe) :: pn)) (b₀ :: su) (ts a cls d)) (r : ClOk X hds l) :
      ClOk X (.ExceptHandler (some (.Name x np)) none (b₀ :: su) p' :: hds) ((c, none, ts) :: l)
  | named {x n : Str} {c : Value} {i : Nat} {ts : Suite} {b₀ : Stmt} {su : List Stmt} {np p' : PySem.Pos} {hds : List ExceptHandler} {l : List (Value × Option Nat × Suite)} (hc : Names X x c) (hi : X.N[i]? = some n) (hln : X.env.kindOf n = some .local)
      (hsu : ∀ (a : Addr) (oe : Obj) (cls : Value) (d : Option Addr) (pn : List (Addr × Obj)), Zc cls d oe → (∃ vs, oe.data = .fields vs) → PSs (X.suite a ((a, oe) :: pn)) (b₀ :: su) (ts a cls d)) (r : ClOk X hds l) :
      ClOk X (.ExceptHandler (some (.Name x np)) (some n) (b₀ :: su) p' :: hds) ((c, some i, ts) :: l)
section
variable {X : Cx} {pins : List (Addr × Obj)} {D : Ends} {Wout : WX} {a : Addr} {B : Heap} {sI s' : Shared} {σ' : L2.St} {H' : Hp} {cls : Value} {d : Option Addr} {h3 : Heap}
/-- the exception on the ground of the try: what is known of it -/
structure Grd (X : Cx) (pins : List (Addr × Obj)) (a : Addr) (B : Heap) (sI s' : Shared) (σ' : L2.St) (H' : Hp) (cls : Value) (d : Option Addr) (h3 : Heap) : Prop where
  J : Inv X pins σ' H' sI
  nb : ∀ b o, sI.heap.get? b = some o → b ∉ frs X.stack → B.get? b = some o
  up : sI.heap.UpToSlots h3
  fl : HandSPX.FlyingZ B (X.env :: X.outer) a (Zc cls d) h3
  na : H' a = none
  os : s'.os = sI.os
  ag : AllBare s'.gens
theorem Grd.inv (g : Grd X pins a B sI s' σ' H' cls d h3) : Inv X pins σ' H' { s' with heap := h3 } := g.J.landed (s' := { s' with heap := h3 }) g.nb g.fl.1 g.up g.os g.ag
theorem Grd.away (g : Grd X pins a B sI s' σ' H' cls d h3) (hf : X.env.frame = some X.env.locals) : a ≠ X.env.locals ∧ a ∉ X.fs := by
  obtain ⟨oe, vs, he, _, hd⟩ := g.fl.there
  have key : a ∉ frs (X.env :: X.outer) := fun hm => by
    obtain ⟨_, o', e', hnf⟩ := g.fl.2.2.1.mem hm
    rw [he] at e'; cases e'
    exact hnf _ hd
  refine ⟨fun z => key (List.mem_filterMap.mpr ⟨X.env, List.mem_cons_self, by rw [hf, z]⟩), fun hm => ?_⟩
  obtain ⟨e, he, q⟩ := List.mem_filterMap.mp hm
  exact key (List.mem_filterMap.mpr ⟨e, List.mem_cons_of_mem _ he, q⟩)
/-- the clauses, one after the other, over an exception on the ground -/
theorem clauses {hds : List ExceptHandler} {l : List (Value × Option Nat × Suite)} (hs : X.stack = X.env :: X.outer) (hf : X.env.frame = some X.env.locals) (hN : X.N.Nodup) (tk : Takes X Wout) (ok : ClOk X hds l) :
    Grd X pins a B sI s' σ' H' cls d h3 → wCl X.K Wout D l cls d σ' H' → wpAny (model X.prog X.w) X.A (handleBy (.ref a) X.env hds) (SP X pins D) X.xe { s' with heap := h3 } := by
  induction ok with
  | nil =>
    intro g w
    refine wpAny_handleBy_nil ?_
    obtain ⟨_, _, _, oe, vs, T, _, _, he, _, hd, h1, _⟩ := id g.fl
    unfold PySem.passOn
    refine wpAny_bind (wpAny_field he hd h1 ?_)
    have no : ¬ ((Value.ref T == Value.none) = true) := by simp
    rw [if_neg no]
    have out : wpAny (model X.prog X.w) X.A (setFlight (.ref a) X.env.frame) (fun _ s4 => wpAny (model X.prog X.w) X.A (throw (.ref a) : Sem Flow) (SP X pins D) X.xe s4) X.xe { s' with heap := h3 } := by
      rw [hf]
      refine HandSPX.setFlight_upZ g.fl fun h4 held up4 => wpAny_throw (tk _ _ ?_)
      refine ⟨a, B, sI, pins, σ', H', cls, d, rfl, g.J, g.nb, g.up.trans up4, .inr (.inr ?_), g.na, g.os, g.ag, w⟩
      rw [hs]; exact held
    first
      | exact wpAny_bind (wpAny_pure (wpAny_bind out))
      | exact wpAny_bind out
  | @bare x c ts b₀ su np p' hds l hc hsu r ih =>
    intro g w
    obtain ⟨b, hb, hy, hn⟩ := w
    obtain ⟨nL, nF⟩ := g.away hf
    obtain ⟨oe, vs, he, hz, hd⟩ := g.fl.there
    have S := g.inv.suite he hd g.na nL nF
    have LM := PySem.W.exm_one (M := model X.prog X.w) (g.inv.kIn) (fun A Q E s k q => wpAny_typeOf_ref (k _ _ he) (by rw [hz.1]; exact q)) hb
    refine wpAny_handleBy_cons (codeAny_handlers_test ?_) (by intro q; cases q)
    have rd : ∀ {Q : Value → Shared → Prop} {E : Value → Shared → Prop}, Q c { s' with heap := h3 } → wpAny (model X.prog X.w) (X.A.mark (some (.ref a))) (eval (.Name x np) X.env) Q E { s' with heap := h3 } := fun {Q E} q => by
      obtain ⟨hg, hdb, hm | ⟨hm, hv, hnn⟩⟩ := hc
      · exact ld_glob (X := X.suite a ((a, oe) :: (X.pn ++ pins))) S hg hm q hdb
      · exact ld_blt (X := X.suite a ((a, oe) :: (X.pn ++ pins))) S hg hm hv q hnn hdb
    refine rd (LM.here ?_)
    cases b with
    | false => exact ih g (hn rfl)
    | true =>
      refine codeAny_handlers_suite (HandSPX.lands_againZ g.fl fun h4 fl4 up4 => ?_)
      have J4 : Inv X pins σ' H' { s' with heap := h4 } := g.J.landed (s' := { s' with heap := h4 }) g.nb fl4.1 (g.up.trans up4) g.os g.ag
      obtain ⟨oe4, vs4, he4, hz4, hd4⟩ := fl4.there
      refine wpAny_mono ((hsu a oe4 cls d (X.pn ++ pins) hz4 ⟨_, hd4⟩).run [] _ _ H' _ (J4.suite he4 hd4 g.na nL nF) (hy rfl a g.na)) (fun f s6 hsp => ?_) (fun _ _ z => False.elim z)
      have ok := g.J.ok
      cases f with
      | next => obtain ⟨σ6, H6, S6, q6⟩ := hsp; exact ⟨_, _, S6.unsuite ok, q6⟩
      | brk => obtain ⟨σ6, H6, S6, q6⟩ := hsp; exact ⟨_, _, S6.unsuite ok, q6⟩
      | cont => obtain ⟨σ6, H6, S6, q6⟩ := hsp; exact ⟨_, _, S6.unsuite ok, q6⟩
      | ret u => obtain ⟨v6, σ6, H6, S6, r6, q6⟩ := hsp; exact ⟨_, _, _, S6.unsuite ok, r6, q6⟩
  | @named x n c i ts b₀ su np p' hds l hc hi hln hsu r ih =>
    intro g w
    obtain ⟨b, hb, hy, hn⟩ := w
    obtain ⟨nL, nF⟩ := g.away hf
    obtain ⟨oe, vs, he, hz, hd⟩ := g.fl.there
    have S := g.inv.suite he hd g.na nL nF
    have LM := PySem.W.exm_one (M := model X.prog X.w) (g.inv.kIn) (fun A Q E s k q => wpAny_typeOf_ref (k _ _ he) (by rw [hz.1]; exact q)) hb
    refine wpAny_handleBy_cons (codeAny_handlers_test ?_) (by intro q; cases q)
    have rd : ∀ {Q : Value → Shared → Prop} {E : Value → Shared → Prop}, Q c { s' with heap := h3 } → wpAny (model X.prog X.w) (X.A.mark (some (.ref a))) (eval (.Name x np) X.env) Q E { s' with heap := h3 } := fun {Q E} q => by
      obtain ⟨hg, hdb, hm | ⟨hm, hv, hnn⟩⟩ := hc
      · exact ld_glob (X := X.suite a ((a, oe) :: (X.pn ++ pins))) S hg hm q hdb
      · exact ld_blt (X := X.suite a ((a, oe) :: (X.pn ++ pins))) S hg hm hv q hnn hdb
    refine rd (LM.here ?_)
    cases b with
    | false => exact ih g (hn rfl)
    | true =>
      refine codeAny_handlers_suite_as (HandSPX.lands_againZ g.fl fun h4 fl4 up4 => ?_)
      have J4 : Inv X pins σ' H' { s' with heap := h4 } := g.J.landed (s' := { s' with heap := h4 }) g.nb fl4.1 (g.up.trans up4) g.os g.ag
      obtain ⟨oe4, vs4, he4, hz4, hd4⟩ := fl4.there
      have S4 := J4.suite he4 hd4 g.na nL nF
      refine store_ok (X := X.suite a ((a, oe4) :: (X.pn ++ pins))) (v := .ref a) S4 hN hi (.inl hln) rfl (fun s5 S5 => ?_) (.inr hln)
      refine wpAny_mono ((hsu a oe4 cls d (X.pn ++ pins) hz4 ⟨_, hd4⟩).run [] s5 _ H' _ S5 (hy rfl a g.na)) (fun f s6 hsp => ?_) (fun _ _ z => False.elim z)
      have ok := g.J.ok
      have out : ∀ {σ6 : L2.St} {H6 : Hp} {Q : Shared → Prop}, Inv (X.suite a ((a, oe4) :: (X.pn ++ pins))) [] σ6 H6 s6 → (∀ s7, Inv X pins (σ6.set i none) H6 s7 → Q s7) →
          wpAny (model X.prog X.w) X.A (do bindName X.env n .none; unbindBehindTheSuite X.env n p') (fun _ s7 => Q s7) X.xe s6 := fun {σ6 H6 Q} S6 hq => gone_ok (S6.unsuite ok) hN hi hln hq
      cases f with
      | next => obtain ⟨σ6, H6, S6, q6⟩ := hsp; exact out S6 fun s7 J7 => ⟨_, _, J7, q6⟩
      | brk => obtain ⟨σ6, H6, S6, q6⟩ := hsp; exact out S6 fun s7 J7 => ⟨_, _, J7, q6⟩
      | cont => obtain ⟨σ6, H6, S6, q6⟩ := hsp; exact out S6 fun s7 J7 => ⟨_, _, J7, q6⟩
      | ret u => obtain ⟨v6, σ6, H6, S6, r6, q6⟩ := hsp; exact out S6 fun s7 J7 => ⟨_, _, _, J7, r6, q6⟩
/-- try: body, any clauses -/
theorem ps_try_cl {body : List Stmt} {h₀ : ExceptHandler} {hds : List ExceptHandler} {l : List (Value × Option Nat × Suite)} {pos : PySem.Pos} {tb : WX → TS} (hs : X.stack = X.env :: X.outer) (hf : X.env.frame = some X.env.locals) (hN : X.N.Nodup) (tk : Takes X Wout)
    (hb : ∀ (W : WX) (pn : List (Addr × Obj)) (xe : Value → Shared → Prop), Takes (X.tr pn xe) W → PassesOwn (model X.prog X.w) X.A X.env xe → PSs (X.tr pn xe) body (tb W))
    (hh : ClOk X (h₀ :: hds) l) : PS X (.Try body (h₀ :: hds) [] [] pos) (fun D σ H => tb (wCl X.K Wout D l) D σ H) := by
  refine ⟨fun pins s σ H D I h => ?_⟩
  have ok := I.ok
  have hfr : X.A.frames = some (X.env :: X.outer) := by rw [ok.frames, hs]
  refine wpAny_Try_except (wpAny_mono ((hb (wCl X.K Wout D l) (X.pn ++ pins) (fun e s₁ => wpAny (model X.prog X.w) X.A (noteFrame e X.env) (fun _ s₂ => wpAny (model X.prog X.w) X.A (setFlight e none) (fun _ s₃ =>
    wpAny (model X.prog X.w) X.A (handleBy e X.env (h₀ :: hds)) (SP X pins D) X.xe s₃) X.xe s₂) X.xe s₁) (fun u s' xx => ?_) PassesOwn.looking).run [] s σ H D (I.toTry _) h) (fun f s1 hsp => ?_) (fun e s1 he => he))
  · obtain ⟨a, B, sI, pins', σ', H', cls, d, rfl, J', nb, up, sky, na, os, ag, w⟩ := xx
    have sky' : Sky B (X.env :: X.outer) a (Zc cls d) X.env.locals s'.heap := by rw [← hs]; exact sky
    show wpAny (model X.prog X.w) X.A (noteFrame (.ref a) X.env) _ _ _
    exact Sky.land Zc.steady hfr hf sky' fun h3 fl3 up3 => clauses hs hf hN tk hh ⟨J'.ofTry ok, nb, up.trans up3, fl3, na, os, ag⟩ w
  · cases f with
    | next => obtain ⟨σ', H', J', q⟩ := hsp; exact wpAny_execs_nil ⟨σ', H', J'.ofTry ok, q⟩
    | brk => obtain ⟨σ', H', J', q⟩ := hsp; exact ⟨σ', H', J'.ofTry ok, q⟩
    | cont => obtain ⟨σ', H', J', q⟩ := hsp; exact ⟨σ', H', J'.ofTry ok, q⟩
    | ret u => obtain ⟨v, σ', H', J', r, q⟩ := hsp; exact ⟨v, σ', H', J'.ofTry ok, r, q⟩
end
end Q
/-! texts as lists of code points; more stepping lemmas -/
namespace Q
open PySem PySem.Spec PyProof.Rows L2 SX
theorem sizeBig : 1000000 ≤ sizeLine := by decide
theorem rep_flat (z : List Nat) : ∀ n : Nat, (List.replicate n z.toArray).foldl (· ++ ·) #[] = ((List.replicate n z).flatten).toArray := by
  have key : ∀ (n : Nat) (acc : List Nat), (List.replicate n z.toArray).foldl (· ++ ·) acc.toArray = (acc ++ (List.replicate n z).flatten).toArray := by
    intro n
    induction n with
    | zero => intro acc; simp
    | succ n ih =>
      intro acc
      rw [List.replicate_succ, List.foldl_cons, show acc.toArray ++ z.toArray = (acc ++ z).toArray by simp, ih, List.replicate_succ, List.flatten_cons, List.append_assoc]
  intro n
  have := key n []
  rw [List.nil_append] at this
  exact this
def rMulS : R2 := fun x y H Q => ∃ (z : List Nat) (n : Int), x = .str (S z) ∧ y = .int n ∧ -1000 ≤ n ∧ n ≤ 1000 ∧ z.length ≤ 1000 ∧ Q (.str (S (List.replicate n.toNat z).flatten)) H
theorem mul_S {z : List Nat} {n : Int} : Txt.mul (S z) n = S (List.replicate n.toNat z).flatten := by
  unfold Txt.mul
  by_cases h : n < 1
  · rw [if_pos h]
    have e : n.toNat = 0 := by omega
    rw [e]; rfl
  · rw [if_neg h]
    by_cases h2 : (n == 1 || (S z).length == 0) = true
    · rw [if_pos h2]
      rw [Bool.or_eq_true, beq_iff_eq, beq_iff_eq] at h2
      rcases h2 with h2 | h2
      · subst h2; show S z = S (List.replicate 1 z).flatten; simp
      · rw [S_len] at h2
        have e : z = [] := List.length_eq_zero_iff.mp h2
        subst e
        congr 1
        have : (List.replicate n.toNat ([] : List Nat)).flatten = [] := by simp
        rw [this]
    · rw [if_neg h2]
      show (⟨(List.replicate n.toNat z.toArray).foldl (· ++ ·) #[]⟩ : Str) = _
      rw [rep_flat]
theorem op_mul_str {X : Cx} : OpR X (binaryOp .Mult) rMulS := by
  intro pins s σ H x y v u Q I rx ry h
  obtain ⟨z, n, rfl, rfl, h1, h2, h3, q⟩ := h
  obtain ⟨t, rfl⟩ := rx
  obtain ⟨t', rfl⟩ := ry
  refine PySem.SB.mul ⟨?_, fun g1 _ => ?_, fun g1 _ => ?_⟩ fun t2 k => ?_
  · have e1 : decide (n < -(2 ^ 63 : Int)) = false := decide_eq_false (by omega)
    have e2 : decide (n ≥ 2 ^ 63) = false := decide_eq_false (by omega)
    rw [e1, e2]; rfl
  · rw [S_len]
    have : (2 ^ 63 - 1 : Int) / 1000 ≤ (2 ^ 63 - 1) / n := by
      apply Int.le_ediv_of_mul_le (by omega)
      calc (2 ^ 63 - 1 : Int) / 1000 * n ≤ (2 ^ 63 - 1 : Int) / 1000 * 1000 := Int.mul_le_mul_of_nonneg_left h2 (by decide)
        _ ≤ 2 ^ 63 - 1 := by decide
    omega
  · rw [S_len]
    have : z.length * n.toNat ≤ 1000 * 1000 := Nat.mul_le_mul h3 (by omega)
    generalize z.length * n.toNat = w at this
    have := sizeBig
    exact decide_eq_false (show ¬ w > sizeLine by omega)
  · rw [mul_S]
    exact ⟨.str _, H, I.tok _, ⟨_, rfl⟩, q⟩
/-- a written tuple's values -/
def absL : List Value → Option (List V)
  | [] => some []
  | v :: r => (absV v).bind fun x => (absL r).map (x :: ·)
theorem relV_of {u : Value} {x : V} (h : absV u = some x) : RelV x u := by
  cases u <;> first
    | (cases h; rfl)
    | (cases h; exact ⟨_, rfl⟩)
    | (cases h; done)
theorem absL_ok : ∀ {us : List Value} {xs : List V}, absL us = some xs → Vals xs us
  | [], xs, h => by cases h; exact .nil
  | v :: r, xs, h => by
    unfold absL at h
    cases e : absV v with
    | none => rw [e] at h; cases h
    | some x =>
      rw [e] at h
      cases e2 : absL r with
      | none => rw [e2] at h; cases h
      | some ys => rw [e2] at h; cases h; exact .cons (relV_of e) (absL_ok e2)
def absT (o : Obj) : Option (List V) := match o.cls, o.data with
  | .type n, .seq its _ => if n = "tuple" ∧ its.size ≤ sizeLine then absL its.toList else none
  | _, _ => none
theorem sqT_of {K : PySem.W.Frag} {A : Addr} {o : Obj} {xs : List V} {H : Hp} (h : K.lookup A = some o) (hs : absT o = some xs) : SqT K H A xs := by
  unfold absT at hs
  split at hs
  · next n its k e1 e2 =>
    split at hs
    · next c => exact .inr ⟨o, its, k, h, by rw [e1, c.1], e2, c.2, absL_ok hs⟩
    · cases hs
  · cases hs
/-- a statement that is never run -/
theorem ps_never {X : Cx} {st : Stmt} : PS X st (fun _ _ _ => False) := ⟨fun _ _ _ _ _ _ h => h.elim⟩
/-- a cut of a list, as a slice does it -/
def cutL (l : List Nat) (lo hi : Option Int) : List Nat := (l.drop (HT.sIx l.length 0 lo)).take (HT.sIx l.length l.length hi - HT.sIx l.length 0 lo)
theorem cutS_S (l : List Nat) (lo hi : Option Int) : cutS (S l) lo hi = S (cutL l lo hi) := by
  unfold cutS cutL
  rw [S_len]
theorem cutL_len (l : List Nat) (lo hi : Option Int) : (cutL l lo hi).length ≤ l.length := by
  unfold cutL
  rw [List.length_take, List.length_drop]
  omega
theorem cutL_to {l : List Nat} {n : Nat} (h : n ≤ l.length) : cutL l none (some (n : Int)) = l.take n := by
  unfold cutL
  rw [HT.sIx_none, HT.sIx_nat, List.drop_zero, Nat.sub_zero, Nat.min_eq_left h]
theorem cutL_from {l : List Nat} {n : Nat} (h : n ≤ l.length) : cutL l (some (n : Int)) none = l.drop n := by
  unfold cutL
  rw [HT.sIx_none, HT.sIx_nat, Nat.min_eq_left h]
  exact List.take_of_length_le (by rw [List.length_drop]; exact Nat.le_refl _)
theorem cutL_mid {l : List Nat} {i j : Nat} (h1 : i ≤ j) (h : j ≤ l.length) : cutL l (some (i : Int)) (some (j : Int)) = (l.drop i).take (j - i) := by
  unfold cutL
  rw [HT.sIx_nat, HT.sIx_nat, Nat.min_eq_left h, Nat.min_eq_left (by omega)]
section
variable {K : PySem.W.Frag} {σ : L2.St} {H : Hp} {te : TE} {ta tb tc : TE} {tas : TA} {g : TG} {gs : TGs} {D : Ends} {Q : VK} {R : It → Hp → Prop} {v x : V} {i : Nat}
theorem g_mulS {z : List Nat} {n : Int} (c : -1000 ≤ n ∧ n ≤ 1000 ∧ z.length ≤ 1000) (q : Q (.str (S (List.replicate n.toNat z).flatten)) H) : rMulS (.str (S z)) (.int n) H Q := ⟨z, n, rfl, rfl, c.1, c.2.1, c.2.2, q⟩
theorem g_catS {a b : List Nat} {R : Str → Str → Prop} (c : a.length + b.length ≤ 1000000) (q : R (S a) (S b)) : ∃ i j, V.str (S a) = .str i ∧ V.str (S b) = .str j ∧ i.length + j.length ≤ sizeLine ∧ R i j :=
  ⟨S a, S b, rfl, rfl, by rw [S_len, S_len]; exact Nat.le_trans c sizeBig, q⟩
theorem g_ixS {l : List Nat} {n : Int} {c : Nat} (hl : l.length ≤ 1000000) (a : atI l n = some c) (q : Q (.str (S [c])) H) : rIxS (.str (S l)) (.int n) H Q := ⟨S l, n, c, rfl, rfl, by rw [S_len]; exact Nat.le_trans hl sizeBig, a, q⟩
theorem g_slS {l : List Nat} {lo hi : Option Int} (hl : l.length ≤ 1000000) (q : Q (.str (S (cutL l lo hi))) H) : rSlS (.str (S l)) lo hi H Q := ⟨S l, rfl, by rw [S_len]; exact Nat.le_trans hl sizeBig, by rw [cutS_S]; exact q⟩
theorem g_lenS {l : List Nat} {R : Str → Prop} (hl : l.length ≤ 1000000) (q : R (S l)) : ∃ z, [V.str (S l)] = [V.str z] ∧ z.length ≤ sizeLine ∧ R z := ⟨S l, rfl, by rw [S_len]; exact Nat.le_trans hl sizeBig, q⟩
theorem g_exi {n : Int} {R : Int → Prop} (q : R n) : ∃ i, V.int n = .int i ∧ R i := ⟨n, rfl, q⟩
theorem g_istr (q : te σ H fun v H1 => ∃ x, v = .str x ∧ R (Its x) H1) : iStr te σ H R := q
theorem g_glst {n : Nat} {R : L2.St → Hp → Prop} (q : ∃ a xs, v = .ref a ∧ SqL K H a xs ∧ xs.length = n ∧ gs xs σ H R) : gLst K n gs v σ H R := q
theorem g_aug {ti : TIp} (h : σ[i]? = some (some x)) (q : te σ H fun y H1 => ti x y H1 fun z H2 => D.nx (σ.set i (some z)) H2) : tAug i te ti D σ H := ⟨x, h, q⟩
theorem g_chain {r r' : R2} (q : ta σ H fun x H1 => tb σ H1 fun y H2 => r x y H2 fun z H3 => ∃ k, z = .bl k ∧ (if k = true then tc σ H3 fun w' H4 => r' y w' H4 Q else Q (.bl false) H3)) : tChain r r' ta tb tc σ H Q := q
theorem g_isN {P : Prop} (q : P) : V.non = .non ∧ P := ⟨rfl, q⟩
theorem log_ok {n : Int} (c : n.natAbs < 10 ^ 60) : n.natAbs.log2 < 1920 := by
  by_cases h : n.natAbs = 0
  · rw [h]; decide
  · exact Nat.lt_trans ((Nat.log2_lt h).mpr (Nat.lt_trans c (by decide : 10 ^ 60 < 2 ^ 200))) (by decide)
theorem g_strI {n : Int} {R : Int → Prop} (c : n.natAbs < 10 ^ 60) (q : R n) : ∃ i : Int, [V.int n] = [V.int i] ∧ i.natAbs.log2 < 1920 ∧ R i := ⟨n, rfl, log_ok c, q⟩
theorem iteNK {c A B : Prop} {inst : Decidable c} (h1 : ¬ c → A) (h2 : c → B) : if (!decide c) = true then A else B := by
  by_cases h : c
  · rw [decide_eq_true h, if_neg (by decide)]; exact h2 h
  · rw [decide_eq_false h, if_pos (by decide)]; exact h1 h
theorem g_inS {c : Nat} {z : Str} {R : Nat → Str → Prop} (q : R c z) : ∃ (c' : Nat) (z' : Str), V.str (S [c]) = .str ⟨#[c']⟩ ∧ V.str z = .str z' ∧ R c' z' := ⟨c, z, rfl, rfl, q⟩
theorem g_ipI {f : Int → Int → Int} {m n : Int} (q : Q (.int (f m n)) H) : ipI f (.int m) (.int n) H Q := ⟨m, n, rfl, rfl, q⟩
end
end Q

namespace Q
open PySem PySem.Spec PyProof.Rows L2
section
variable {K : PySem.W.Frag} {σ : L2.St} {H : Hp} {te to : TE} {t : TA} {Q : VK}
theorem g_bm {T : String} {r : V → List V → Hp → VK → Prop} (q : to σ H fun x H1 => tyV K T x H1 ∧ t σ H1 fun xs H2 => r x xs H2 Q) : tBM K T r to t σ H Q := q
theorem g_bm0 {T : String} {r : V → List V → Hp → VK → Prop} (q : to σ H fun x H1 => tyV K T x H1 ∧ r x [] H1 Q) : tBM0 K T r to σ H Q := q
end
end Q
/-! a method of a tuple that is written where it is asked -/
namespace Q
open PySem PySem.Spec PyProof.Rows L2 SX
section
variable {X : Cx} {e : Expr} {es ts : List Expr} {t tt : TA} {name : Str} {apos cpos tpos : PySem.Pos} {id : String} {r : V → List V → Hp → VK → Prop} {k : Nat}
def tTupM (r : V → List V → Hp → VK → Prop) (tt t : TA) : TE := fun σ H Q => tt σ H fun xs H1 => xs.length ≤ sizeLine ∧ ∀ p, H1 p = none → t σ (upd H1 p (.tup xs)) fun ys H2 => r (.ref p) ys H2 Q
theorem g_tupm {σ : L2.St} {H : Hp} {Q : VK} (q : tt σ H fun xs H1 => xs.length ≤ sizeLine ∧ ∀ p, H1 p = none → t σ (upd H1 p (.tup xs)) fun ys H2 => r (.ref p) ys H2 Q) : tTupM r tt t σ H Q := q
theorem pe_tupM (pa : PlainAttrs "tuple") (slot : Slot "tuple" name id) (hty : typeOf (.builtin id) = pure (.type "method_descriptor")) (hm : MtR X id r) (ho : PA X ts tt) (ha : PA X (e :: es) t)
    (hbase : attributeBase (.Tuple ts k tpos) name X.env (eval (.Tuple ts k tpos) X.env) = eval (.Tuple ts k tpos) X.env := by rfl)
    (hfew : ((backTo cpos (starEach (e :: es) X.env)).all (fun x => !x.1) && (backToKw cpos (keywordEach [] X.env)).all (fun x => x.1.isSome)
      && decide ((e :: es).length + ([] : List Keyword).length + (if ([] : List Keyword).isEmpty then 0 else 1) < 30)) = true := by rfl)
    (hline : (apos.endLine == cpos.line) = true := by rfl) (hs : starEach (e :: es) X.env = (false, eval e X.env) :: starEach es X.env := by rfl) (hplain : (backTo cpos (starEach es X.env)).any (·.1) = false := by rfl) :
    PE X (.Call (.Attribute (.Tuple ts k tpos) name apos) (e :: es) [] cpos) (tTupM r tt t) := by
  refine ⟨fun pins s σ H Q I h => ?_⟩
  refine wpAny_Call_method_late hbase hfew hline rfl ?_
  refine wpAny_Tuple_spliced (thn (ho.run tpos pins s σ H _ I h) fun us s1 ⟨xs, H1, I1, rv, z, q⟩ => ⟨by rw [← rv.length]; exact z, ?_⟩)
  have hf : H1 s1.heap.objs.size = none := I1.hok.fresh (Nat.le_refl _)
  have I2 := I1.laid (t' := s1.toks) (o := .tup xs) (h' := s1.heap.push { cls := .type "tuple", data := .seq us.toArray }) (fun b u e => Heap.get?_push_of_some _ e) (Nat.le_refl _) (by
    exact ⟨z, us, rv, ⟨_, Heap.get?_push_size _ rfl, rfl, _, rfl⟩⟩)
  have hg := Heap.get?_push_size s1.heap (o := { cls := .type "tuple", data := .seq us.toArray }) rfl
  refine ⟨"tuple", id, pa, slot, hty, ⟨_, hg, rfl⟩, fun a ea => ?_, ?_⟩
  · cases ea; exact ⟨_, hg, rfl⟩
  have hA := ha.run cpos pins _ σ _ _ I2 (q _ hf)
  rw [hs] at hA ⊢
  refine Calls.callWith_builtin (by show (false || (backTo cpos (starEach es X.env)).any (·.1)) = false; rw [hplain] <;> rfl) (Calls.evalArgs_plain ?_)
  exact thn hA fun us s2 ⟨vs, H2, I2, r2, q2⟩ => hm pins s2 σ H2 (.ref s1.heap.objs.size) vs _ us Q I2 rfl r2 q2
end
end Q

namespace Q
open PySem PySem.Spec PyProof.Rows L2 SX
section
variable {K : PySem.W.Frag} {σ : L2.St} {H : Hp} {te to ta tv : TE} {D : Ends} {Q : VK}
theorem g_m1 {r : V → List V → Hp → VK → Prop} (q : to σ H fun x H1 => (∃ a, x = .str a) ∧ te σ H1 fun y H2 => r x [y] H2 Q) : tM1 r to te σ H Q := q
theorem g_fldaug {rd : V → V → Hp → VK → Prop} {f : Str} (q : ta σ H fun x H1 => ∃ a C dx fs v, x = .ref a ∧ H1 a = some (.ins C dx fs) ∧ Cls K C ∧ NoAttr K C f ∧ fs.lookup f = some v ∧
  tv σ H1 fun y H2 => rd v y H2 fun z H3 => ∃ dx' fs', H3 a = some (.ins C dx' fs') ∧ fs'.length < 1000 ∧ D.nx σ (upd H3 a (.ins C dx' (putF f z fs')))) : sFldAug K ta tv rd f D σ H := q
end
end Q
/-! the civil calendar, in plain -/
namespace Civ
def isLeap (y : Int) : Bool := decide (y % 4 = 0) && (!decide (y % 100 = 0) || decide (y % 400 = 0))
def LEN : List Int := [31, 28, 31, 30, 31, 30, 31, 31, 30, 31, 30, 31]
def BEF : List Int := [0, 31, 59, 90, 120, 151, 181, 212, 243, 273, 304, 334]
def lenT (k : Int) : Int := LEN.getD k.toNat 0
def bef (k : Int) : Int := BEF.getD k.toNat 0
def lp (y : Int) : Int := if isLeap y = true then 1 else 0
def len (m : Int) : Int := lenT (m % 12) + if m % 12 = 1 then lp (m / 12 + 1) else 0
def yd (p : Int) : Int := 365 * p + p / 4 - p / 100 + p / 400
def fd (m : Int) : Int := yd (m / 12) + bef (m % 12) + if 1 < m % 12 then lp (m / 12 + 1) else 0
theorem lp_eq (y : Int) : (y % 4 = 0 ∧ (y % 100 ≠ 0 ∨ y % 400 = 0) ∧ lp y = 1) ∨ (¬ (y % 4 = 0 ∧ (y % 100 ≠ 0 ∨ y % 400 = 0)) ∧ lp y = 0) := by
  by_cases h : isLeap y = true
  · left
    have e : lp y = 1 := if_pos h
    unfold isLeap at h
    rw [Bool.and_eq_true, decide_eq_true_eq, Bool.or_eq_true, Bool.not_eq_true', decide_eq_false_iff_not, decide_eq_true_eq] at h
    exact ⟨h.1, h.2, e⟩
  · right
    have e : lp y = 0 := if_neg h
    refine ⟨fun k => h ?_, e⟩
    unfold isLeap
    rw [Bool.and_eq_true, decide_eq_true_eq, Bool.or_eq_true, Bool.not_eq_true', decide_eq_false_iff_not, decide_eq_true_eq]
    exact k
theorem yd_succ (p : Int) : yd (p + 1) = yd p + 365 + lp (p + 1) := by
  unfold yd
  rcases lp_eq (p + 1) with ⟨h1, h2, e⟩ | ⟨h, e⟩ <;> rw [e] <;> omega
theorem mod12 (m : Int) : m % 12 = 0 ∨ m % 12 = 1 ∨ m % 12 = 2 ∨ m % 12 = 3 ∨ m % 12 = 4 ∨ m % 12 = 5 ∨ m % 12 = 6 ∨ m % 12 = 7 ∨ m % 12 = 8 ∨ m % 12 = 9 ∨ m % 12 = 10 ∨ m % 12 = 11 := by omega
theorem lp01 (y : Int) : 0 ≤ lp y ∧ lp y ≤ 1 := by
  unfold lp; split <;> omega
theorem fd_succ (m : Int) : fd (m + 1) = fd m + len m := by
  have q := mod12 m
  have ys := yd_succ (m / 12)
  unfold fd len
  rcases q with h | h | h | h | h | h | h | h | h | h | h | h
  all_goals first
    | (have e1 : (m + 1) / 12 = m / 12 := by omega
       have e2 : (m + 1) % 12 = m % 12 + 1 := by omega
       rw [e1, e2, h]
       simp only [bef, lenT, BEF, LEN]
       simp
       try omega)
    | (have e1 : (m + 1) / 12 = m / 12 + 1 := by omega
       have e2 : (m + 1) % 12 = 0 := by omega
       rw [e1, e2, h, ys]
       simp only [bef, lenT, BEF, LEN]
       simp
       try omega)
theorem len_le (m : Int) : 28 ≤ len m ∧ len m ≤ 31 := by
  have q := mod12 m
  have l := lp01 (m / 12 + 1)
  unfold len
  rcases q with h | h | h | h | h | h | h | h | h | h | h | h <;> rw [h] <;> simp only [lenT, LEN] <;> simp <;> omega
theorem fd_add (m : Int) : ∀ n : Nat, fd m + 28 * n ≤ fd (m + n)
  | 0 => by simp
  | n + 1 => by
    have h1 := fd_add m n
    have h2 := fd_succ (m + n)
    have h3 := len_le (m + n)
    have e : m + ((n + 1 : Nat) : Int) = m + n + 1 := by omega
    rw [e, h2]
    omega
theorem fd_lt {m k : Int} (h : m < k) : fd m + 28 ≤ fd k := by
  have := fd_add m (k - m).toNat
  have e : m + ((k - m).toNat : Int) = k := by omega
  rw [e] at this
  omega
theorem fd_le {m k : Int} (h : m ≤ k) : fd m ≤ fd k := by
  rcases Int.lt_or_eq_of_le h with h | h
  · have := fd_lt h; omega
  · rw [h]; omega
/-- the month of a day -/
def IsM (d m : Int) : Prop := fd m ≤ d ∧ d < fd (m + 1)
theorem IsM.uniq {d m k : Int} (h : IsM d m) (g : IsM d k) : m = k := by
  rcases Int.lt_trichotomy m k with l | l | l
  · have := fd_le (show m + 1 ≤ k by omega)
    have h2 := h.2; have g1 := g.1; omega
  · exact l
  · have := fd_le (show k + 1 ≤ m by omega)
    have h2 := g.2; have g1 := h.1; omega
theorem fd_year (p : Int) : fd (12 * p) = yd p := by
  unfold fd
  have e1 : 12 * p / 12 = p := by omega
  have e2 : 12 * p % 12 = 0 := by omega
  rw [e1, e2]
  simp [bef, BEF]
theorem yd_cycle (p c : Int) : yd (p + 400 * c) = yd p + 146097 * c := by
  unfold yd; omega
theorem lp_cycle (y c : Int) : lp (y + 400 * c) = lp y := by
  rcases lp_eq (y + 400 * c) with ⟨h1, h2, e⟩ | ⟨h, e⟩ <;> rcases lp_eq y with ⟨g1, g2, f⟩ | ⟨g, f⟩ <;> rw [e, f] <;> omega
theorem fd_cycle (m c : Int) : fd (m + 4800 * c) = fd m + 146097 * c := by
  unfold fd
  have e1 : (m + 4800 * c) / 12 = m / 12 + 400 * c := by omega
  have e2 : (m + 4800 * c) % 12 = m % 12 := by omega
  have e3 : m / 12 + 400 * c + 1 = m / 12 + 1 + 400 * c := by omega
  rw [e1, e2, yd_cycle, e3, lp_cycle]
  omega
theorem IsM.cycle {d m c : Int} (h : IsM d m) : IsM (d + 146097 * c) (m + 4800 * c) := by
  have e : m + 4800 * c + 1 = m + 1 + 4800 * c := by omega
  unfold IsM
  rw [e, fd_cycle, fd_cycle]
  have h1 := h.1; have h2 := h.2
  omega
/-- a year of the cycle by days, from below -/
theorem yd_mono {p q : Int} (h : p ≤ q) : yd p ≤ yd q := by
  rw [← fd_year, ← fd_year]; exact fd_le (by omega)
/-- day of (year, month, date) -/
def dayOf (y mo d : Int) : Option Int := if (1 ≤ mo ∧ mo ≤ 12) ∧ (1 ≤ d ∧ d ≤ len (12 * (y - 1) + mo - 1)) then some (fd (12 * (y - 1) + mo - 1) + d - 1) else none
theorem dayOf_isM {y mo d k : Int} (h : dayOf y mo d = some k) : IsM k (12 * (y - 1) + mo - 1) ∧ 1 ≤ mo ∧ mo ≤ 12 ∧ d = k - fd (12 * (y - 1) + mo - 1) + 1 := by
  unfold dayOf at h
  split at h
  · next c =>
    cases h
    refine ⟨⟨by omega, ?_⟩, c.1.1, c.1.2, by omega⟩
    rw [fd_succ]
    omega
  · cases h
theorem dayOf_of {d m : Int} (h : IsM d m) : dayOf (m / 12 + 1) (m % 12 + 1) (d - fd m + 1) = some d := by
  have e : 12 * (m / 12 + 1 - 1) + (m % 12 + 1) - 1 = m := by omega
  unfold dayOf
  rw [e]
  have h1 := h.1; have h2 := h.2
  rw [fd_succ] at h2
  rw [if_pos ⟨by omega, by omega⟩]
  congr 1
  omega
end Civ
/-! digits, words of days and of minutes, in plain -/
namespace Dg
open PySem PySem.NumText
theorem val_snoc (l : List Nat) (c : Nat) : digitsVal (l ++ [c]) = digitsVal l * 10 + (c - 48) := by
  unfold digitsVal; rw [List.foldl_append]; rfl
theorem val_cons0 (l : List Nat) : digitsVal (48 :: l) = digitsVal l := rfl
theorem val_rep (l : List Nat) : ∀ j : Nat, digitsVal (List.replicate j 48 ++ l) = digitsVal l
  | 0 => rfl
  | j + 1 => by rw [List.replicate_succ, List.cons_append, val_cons0, val_rep l j]
def dg (n : Nat) : Nat → List Nat
  | 0 => []
  | k + 1 => (48 + n / 10 ^ k % 10) :: dg n k
theorem dg_len (n : Nat) : ∀ k, (dg n k).length = k
  | 0 => rfl
  | k + 1 => by show (dg n k).length + 1 = k + 1; rw [dg_len n k]
theorem dg_dig (n : Nat) : ∀ k, ∀ c ∈ dg n k, 48 ≤ c ∧ c ≤ 57
  | 0, c, h => nomatch h
  | k + 1, c, h => by
    rcases List.mem_cons.mp h with e | h
    · have : n / 10 ^ k % 10 < 10 := Nat.mod_lt _ (by decide)
      omega
    · exact dg_dig n k c h
theorem dg_snoc (n : Nat) : ∀ k, dg n (k + 1) = dg (n / 10) k ++ [48 + n % 10]
  | 0 => by show [48 + n / 10 ^ 0 % 10] = _; rw [Nat.pow_zero, Nat.div_one]; rfl
  | k + 1 => by
    show (48 + n / 10 ^ (k + 1) % 10) :: dg n (k + 1) = (48 + n / 10 / 10 ^ k % 10) :: dg (n / 10) k ++ [48 + n % 10]
    rw [dg_snoc n k, Nat.div_div_eq_div_mul, Nat.pow_succ, Nat.mul_comm (10 ^ k) 10, List.cons_append]
theorem dg_val : ∀ (k n : Nat), digitsVal (dg n k) = n % 10 ^ k
  | 0, n => by rw [Nat.pow_zero, Nat.mod_one]; rfl
  | k + 1, n => by
    rw [dg_snoc, val_snoc, dg_val k (n / 10), Nat.pow_succ, Nat.mul_comm (10 ^ k) 10, Nat.mod_mul]
    have : n % 10 < 10 := Nat.mod_lt _ (by decide)
    omega
theorem snoc_ind {α : Type} {P : List α → Prop} (h0 : P []) (h1 : ∀ l c, P l → P (l ++ [c])) (l : List α) : P l := by
  have : ∀ (n : Nat) (l : List α), l.length = n → P l := by
    intro n
    induction n with
    | zero => intro l h; rw [List.length_eq_zero_iff.mp h]; exact h0
    | succ n ih =>
      intro l h
      have hne : l ≠ [] := fun e => by rw [e] at h; cases h
      rw [← List.dropLast_concat_getLast hne]
      exact h1 _ _ (ih _ (by rw [List.length_dropLast, h]; rfl))
  exact this _ l rfl
theorem dg_of_val (l : List Nat) : (∀ c ∈ l, 48 ≤ c ∧ c ≤ 57) → dg (digitsVal l) l.length = l := by
  refine snoc_ind (P := fun l => (∀ c ∈ l, 48 ≤ c ∧ c ≤ 57) → dg (digitsVal l) l.length = l) (fun _ => rfl) (fun l c ih h => ?_) l
  have hc := h c (List.mem_append_right _ List.mem_cons_self)
  have hl := ih fun d hd => h d (List.mem_append_left _ hd)
  rw [List.length_append, List.length_singleton, val_snoc, dg_snoc]
  have e1 : (digitsVal l * 10 + (c - 48)) / 10 = digitsVal l := by omega
  have e2 : 48 + (digitsVal l * 10 + (c - 48)) % 10 = c := by omega
  rw [e1, e2, hl]
theorem val_lt (l : List Nat) (h : ∀ c ∈ l, 48 ≤ c ∧ c ≤ 57) : digitsVal l < 10 ^ l.length := by
  have e := dg_val l.length (digitsVal l)
  rw [dg_of_val l h] at e
  rw [e]
  exact Nat.mod_lt _ (Nat.pow_pos (by decide))
theorem dg_inj {k m n : Nat} (hm : m < 10 ^ k) (hn : n < 10 ^ k) (h : dg m k = dg n k) : m = n := by
  have := congrArg digitsVal h
  rw [dg_val, dg_val, Nat.mod_eq_of_lt hm, Nat.mod_eq_of_lt hn] at this
  exact this
theorem pad {n k : Nat} (hk : 0 < k) (h : n < 10 ^ k) : List.replicate (k - (TL.numL n).length) 48 ++ TL.numL n = dg n k := by
  have hl := TL.numL_len hk h
  have hd : ∀ c ∈ List.replicate (k - (TL.numL n).length) 48 ++ TL.numL n, 48 ≤ c ∧ c ≤ 57 := fun c hc => by
    rcases List.mem_append.mp hc with q | q
    · rw [List.eq_of_mem_replicate q]; decide
    · exact TL.numL_digits n c q
  have e := dg_of_val _ hd
  rw [val_rep, TL.numL_val, List.length_append, List.length_replicate] at e
  have e2 : k - (TL.numL n).length + (TL.numL n).length = k := by omega
  rw [e2] at e
  exact e.symm
/-! ### words of days -/
def isDig (l : List Nat) : Bool := !l.isEmpty && l.all (fun c => decide (48 ≤ c) && decide (c ≤ 57))
theorem isDig_iff {l : List Nat} : isDig l = true ↔ l ≠ [] ∧ ∀ c ∈ l, 48 ≤ c ∧ c ≤ 57 := by
  unfold isDig
  rw [Bool.and_eq_true, List.all_eq_true]
  constructor
  · rintro ⟨h1, h2⟩
    refine ⟨(fun e => by rw [e] at h1; cases h1), fun c hc => ?_⟩
    have := h2 c hc
    rw [Bool.and_eq_true, decide_eq_true_eq, decide_eq_true_eq] at this
    exact this
  · rintro ⟨h1, h2⟩
    constructor
    · cases l with
      | nil => exact absurd rfl h1
      | cons a l => rfl
    · intro c hc
      rw [Bool.and_eq_true, decide_eq_true_eq, decide_eq_true_eq]
      exact h2 c hc
def dw (d m : Int) : List Nat := dg (m / 12 + 1).toNat 4 ++ 45 :: (dg (m % 12 + 1).toNat 2 ++ 45 :: dg (d - Civ.fd m + 1).toNat 2)
def form (w : List Nat) : Bool := decide (w.length = 10) && (decide (w.getD 4 0 = 45) && decide (w.getD 7 0 = 45)) && (isDig (w.take 4) && (isDig ((w.drop 5).take 2) && isDig (w.drop 8)))
def rday (w : List Nat) : Option Int := Civ.dayOf (digitsVal (w.take 4) : Nat) (digitsVal ((w.drop 5).take 2) : Nat) (digitsVal (w.drop 8) : Nat)
def rdw (w : List Nat) : Option Int := if form w = true then (rday w).bind fun d => if 0 ≤ d then some d else none else none
theorem dw_len (d m : Int) : (dw d m).length = 10 := by
  unfold dw
  rw [List.length_append, List.length_cons, List.length_append, List.length_cons, dg_len, dg_len, dg_len]
theorem fd_top : Civ.fd 119988 = 3652059 := by decide
theorem fd_zero : Civ.fd 0 = 0 := by decide
theorem month_range {d m : Int} (h : Civ.IsM d m) (h0 : 0 ≤ d) (h1 : d < 3652059) : 0 ≤ m ∧ m < 119988 := by
  constructor
  · apply Classical.byContradiction
    intro g
    have := Civ.fd_le (show m + 1 ≤ 0 by omega)
    rw [fd_zero] at this
    have := h.2
    omega
  · apply Classical.byContradiction
    intro g
    have := Civ.fd_le (show 119988 ≤ m by omega)
    rw [fd_top] at this
    have := h.1
    omega
theorem split10 {w : List Nat} (h : w.length = 10) : w = w.take 4 ++ w.getD 4 0 :: ((w.drop 5).take 2 ++ w.getD 7 0 :: w.drop 8) := by
  match w, h with
  | [a, b, c, d, e, f, g, i, j, k], _ => rfl
theorem dw_parts (d m : Int) : (dw d m).take 4 = dg (m / 12 + 1).toNat 4 ∧ (dw d m).getD 4 0 = 45 ∧ ((dw d m).drop 5).take 2 = dg (m % 12 + 1).toNat 2 ∧ (dw d m).getD 7 0 = 45 ∧ (dw d m).drop 8 = dg (d - Civ.fd m + 1).toNat 2 := by
  unfold dw
  have h4 := dg_len (m / 12 + 1).toNat 4
  have h2 := dg_len (m % 12 + 1).toNat 2
  have h3 := dg_len (d - Civ.fd m + 1).toNat 2
  generalize dg (m / 12 + 1).toNat 4 = a at h4
  generalize dg (m % 12 + 1).toNat 2 = b at h2
  generalize dg (d - Civ.fd m + 1).toNat 2 = c at h3
  match a, h4, b, h2, c, h3 with
  | [a, b, c, d], _, [e, f], _, [g, i], _ => exact ⟨rfl, rfl, rfl, rfl, rfl⟩
theorem isDig_dg (n k : Nat) : isDig (dg n (k + 1)) = true := isDig_iff.mpr ⟨(fun h => nomatch h), dg_dig n (k + 1)⟩
theorem day_date {d m : Int} (h : Civ.IsM d m) : 1 ≤ d - Civ.fd m + 1 ∧ d - Civ.fd m + 1 ≤ 31 := by
  have h1 := h.1
  have h2 := h.2
  rw [Civ.fd_succ] at h2
  have := Civ.len_le m
  omega
theorem rdw_dw {d m : Int} (h : Civ.IsM d m) (h0 : 0 ≤ d) (h1 : d < 3652059) : rdw (dw d m) = some d := by
  obtain ⟨p1, p2, p3, p4, p5⟩ := dw_parts d m
  have hm := month_range h h0 h1
  have hd := day_date h
  unfold rdw form rday
  rw [p1, p2, p3, p4, p5, dw_len, isDig_dg, isDig_dg, isDig_dg, dg_val, dg_val, dg_val]
  rw [if_pos (by decide)]
  rw [Nat.mod_eq_of_lt (by omega : (m / 12 + 1).toNat < 10 ^ 4), Nat.mod_eq_of_lt (by omega : (m % 12 + 1).toNat < 10 ^ 2), Nat.mod_eq_of_lt (by omega : (d - Civ.fd m + 1).toNat < 10 ^ 2)]
  rw [Int.toNat_of_nonneg (by omega), Int.toNat_of_nonneg (by omega), Int.toNat_of_nonneg (by omega), Civ.dayOf_of h]
  show (if 0 ≤ d then some d else none) = some d
  rw [if_pos h0]
theorem form_of {w : List Nat} (h : form w = true) : w.length = 10 ∧ w.getD 4 0 = 45 ∧ w.getD 7 0 = 45 ∧ isDig (w.take 4) = true ∧ isDig ((w.drop 5).take 2) = true ∧ isDig (w.drop 8) = true := by
  unfold form at h
  rw [Bool.and_eq_true, Bool.and_eq_true, Bool.and_eq_true, Bool.and_eq_true, Bool.and_eq_true, decide_eq_true_eq, decide_eq_true_eq, decide_eq_true_eq] at h
  exact ⟨h.1.1, h.1.2.1, h.1.2.2, h.2.1, h.2.2.1, h.2.2.2⟩
theorem dw_rdw {w : List Nat} {d : Int} (h : rdw w = some d) : 0 ≤ d ∧ d < 3652059 ∧ ∀ m, Civ.IsM d m → dw d m = w := by
  unfold rdw at h
  split at h
  · next f =>
    obtain ⟨f1, f2, f3, f4, f5, f6⟩ := form_of f
    cases e : rday w with
    | none => rw [e] at h; cases h
    | some k =>
      rw [e] at h
      have h' : (if 0 ≤ k then some k else none) = some d := h
      split at h'
      · next k0 =>
        have hk : k = d := Option.some.inj h'
        subst hk
        unfold rday at e
        obtain ⟨i1, i2, i3, i4⟩ := Civ.dayOf_isM e
        have l4 : (w.take 4).length = 4 := by rw [List.length_take, f1]; rfl
        have l2 : ((w.drop 5).take 2).length = 2 := by rw [List.length_take, List.length_drop, f1]; rfl
        have l3 : (w.drop 8).length = 2 := by rw [List.length_drop, f1]
        have b4 := val_lt _ (isDig_iff.mp f4).2
        have b2 := val_lt _ (isDig_iff.mp f5).2
        have b3 := val_lt _ (isDig_iff.mp f6).2
        have w4 := dg_of_val _ (isDig_iff.mp f4).2
        have w2 := dg_of_val _ (isDig_iff.mp f5).2
        have w3 := dg_of_val _ (isDig_iff.mp f6).2
        rw [l4] at b4 w4
        rw [l2] at b2 w2
        rw [l3] at b3 w3
        have sp := split10 f1
        rw [f2, f3] at sp
        generalize digitsVal (w.take 4) = y at *
        generalize digitsVal ((w.drop 5).take 2) = mo at *
        generalize digitsVal (w.drop 8) = da at *
        refine ⟨k0, ?_, fun m hm => ?_⟩
        · have := Civ.fd_le (show 12 * ((y : Int) - 1) + mo - 1 + 1 ≤ 119988 by omega)
          rw [fd_top] at this
          have := i1.2
          omega
        · have em := Civ.IsM.uniq hm i1
          subst em
          have e1 : ((12 * ((y : Int) - 1) + mo - 1) / 12 + 1).toNat = y := by omega
          have e2 : ((12 * ((y : Int) - 1) + mo - 1) % 12 + 1).toNat = mo := by omega
          have e3 : (k - Civ.fd (12 * ((y : Int) - 1) + mo - 1) + 1).toNat = da := by omega
          unfold dw
          rw [e1, e2, e3, w4, w2, w3]
          exact sp.symm
      · cases h'
  · cases h
/-! ### words of minutes -/
def mw (k : Int) : List Nat := dg (k / 60).toNat 2 ++ 46 :: dg (k % 60).toNat 2
def mform (w : List Nat) : Bool := decide (w.length = 5) && decide (w.getD 2 0 = 46) && (isDig (w.take 2) && isDig (w.drop 3))
def rmw (w : List Nat) : Option Int := if mform w = true then (if (24 < digitsVal (w.take 2) ∨ 59 < digitsVal (w.drop 3)) ∨ (digitsVal (w.take 2) = 24 ∧ 0 < digitsVal (w.drop 3)) then none else some (60 * (digitsVal (w.take 2) : Nat) + (digitsVal (w.drop 3) : Nat))) else none
theorem mw_len (k : Int) : (mw k).length = 5 := by
  unfold mw
  rw [List.length_append, List.length_cons, dg_len, dg_len]
theorem mw_parts (k : Int) : (mw k).take 2 = dg (k / 60).toNat 2 ∧ (mw k).getD 2 0 = 46 ∧ (mw k).drop 3 = dg (k % 60).toNat 2 := by
  unfold mw
  have h4 := dg_len (k / 60).toNat 2
  have h2 := dg_len (k % 60).toNat 2
  generalize dg (k / 60).toNat 2 = a at h4
  generalize dg (k % 60).toNat 2 = b at h2
  match a, h4, b, h2 with
  | [a, b], _, [e, f], _ => exact ⟨rfl, rfl, rfl⟩
theorem rmw_mw {k : Int} (h0 : 0 ≤ k) (h1 : k ≤ 1440) : rmw (mw k) = some k := by
  obtain ⟨p1, p2, p3⟩ := mw_parts k
  unfold rmw mform
  rw [p1, p2, p3, mw_len, isDig_dg, isDig_dg, dg_val, dg_val]
  rw [if_pos (by decide)]
  rw [Nat.mod_eq_of_lt (by omega : (k / 60).toNat < 10 ^ 2), Nat.mod_eq_of_lt (by omega : (k % 60).toNat < 10 ^ 2)]
  rw [if_neg (by omega)]
  congr 1
  omega
theorem split5 {w : List Nat} (h : w.length = 5) : w = w.take 2 ++ w.getD 2 0 :: w.drop 3 := by
  match w, h with
  | [a, b, c, d, e], _ => rfl
theorem mw_rmw {w : List Nat} {k : Int} (h : rmw w = some k) : 0 ≤ k ∧ k ≤ 1440 ∧ mw k = w := by
  unfold rmw at h
  split at h
  · next f =>
    unfold mform at f
    rw [Bool.and_eq_true, Bool.and_eq_true, Bool.and_eq_true, decide_eq_true_eq, decide_eq_true_eq] at f
    obtain ⟨⟨f1, f2⟩, f3, f4⟩ := f
    split at h
    · cases h
    · next c =>
      have l2 : (w.take 2).length = 2 := by rw [List.length_take, f1]; rfl
      have l3 : (w.drop 3).length = 2 := by rw [List.length_drop, f1]
      have w2 := dg_of_val _ (isDig_iff.mp f3).2
      have w3 := dg_of_val _ (isDig_iff.mp f4).2
      rw [l2] at w2
      rw [l3] at w3
      have sp := split5 f1
      rw [f2] at sp
      generalize digitsVal (w.take 2) = y at *
      generalize digitsVal (w.drop 3) = mo at *
      cases h
      refine ⟨by omega, by omega, ?_⟩
      have e1 : ((60 * (y : Int) + mo) / 60).toNat = y := by omega
      have e2 : ((60 * (y : Int) + mo) % 60).toNat = mo := by omega
      unfold mw
      rw [e1, e2, w2, w3]
      exact sp.symm
  · cases h
end Dg
/-! words read one after the other, in plain -/
namespace Wd
open PySem PySem.NumText Dg
abbrev W := List Nat
def WD : List W := [[109, 111, 110], [116, 117, 101], [119, 101, 100], [116, 104, 117], [102, 114, 105], [115, 97, 116], [115, 117, 110]]
def MO : List W := [[106, 97, 110], [102, 101, 98], [109, 97, 114], [97, 112, 114], [109, 97, 121], [106, 117, 110], [106, 117, 108], [97, 117, 103], [115, 101, 112], [111, 99, 116], [110, 111, 118], [100, 101, 99]]
def PL : List W := [[102, 105, 114, 115, 116], [115, 101, 99, 111, 110, 100], [116, 104, 105, 114, 100], [102, 111, 117, 114, 116, 104], [102, 105, 102, 116, 104]]
def UN : List W := [[100, 97, 121, 115], [119, 101, 101, 107, 115], [109, 111, 110, 116, 104, 115], [121, 101, 97, 114, 115]]
def dash (l : W) : W := if l.take 1 = [45] then l.drop 1 else l
def rint (l : W) : Option Int :=
  if dash l = [] ∨ 18 < (dash l).length ∨ isDig (dash l) = false then none
  else if (dash l).getD 0 0 = 48 ∧ l ≠ [48] then none
  else some (if l.take 1 = [45] then -((digitsVal (dash l) : Nat) : Int) else ((digitsVal (dash l) : Nat) : Int))
def one (es : List W) (ws : List W) (p : Nat) : Except Nat (W × Nat) := match ws[p]? with
  | some x => if x ∈ es then .ok (x, p + 1) else .error p
  | none => .error p
def int (lo hi : Int) (ws : List W) (p : Nat) : Except Nat (Int × Nat) := match ws[p]?.bind rint with
  | some n => if lo ≤ n ∧ n ≤ hi then .ok (n, p + 1) else .error p
  | none => .error p
theorem numL_head {n : Nat} (h : n ≠ 0) : ∃ c r, TL.numL n = c :: r ∧ c ≠ 48 := by
  have : ∀ m n : Nat, n ≤ m → n ≠ 0 → ∃ c r, TL.numL n = c :: r ∧ c ≠ 48 := by
    intro m
    induction m with
    | zero => intro n h1 h2; omega
    | succ m ih =>
      intro n h1 h2
      by_cases h : n < 10
      · rw [TL.numL_lt h]
        exact ⟨48 + n, [], rfl, by omega⟩
      · rw [TL.numL_step (by omega)]
        obtain ⟨c, r, e, hc⟩ := ih (n / 10) (by omega) (by omega)
        rw [e]
        exact ⟨c, r ++ [48 + n % 10], rfl, hc⟩
  exact this n n (Nat.le_refl _) h
theorem isDig_num (n : Nat) : isDig (TL.numL n) = true := isDig_iff.mpr ⟨TL.numL_ne n, TL.numL_digits n⟩
theorem dash_dig {l : W} (h : isDig l = true) : dash l = l ∧ ¬ l.take 1 = [45] := by
  have : ¬ l.take 1 = [45] := fun e => by
    cases l with
    | nil => cases e
    | cons c r =>
      have hc := (isDig_iff.mp h).2 c List.mem_cons_self
      have : c = 45 := by simpa using e
      omega
  exact ⟨if_neg this, this⟩
theorem rint_num {n : Nat} (h : n < 10 ^ 18) : rint (TL.numL n) = some (n : Int) := by
  obtain ⟨d1, d2⟩ := dash_dig (isDig_num n)
  have hl := TL.numL_len (k := 18) (by decide) h
  unfold rint
  rw [d1, isDig_num, if_neg (fun z => z.elim (TL.numL_ne n) fun z => z.elim (fun z => by omega) fun z => by cases z), if_neg d2, TL.numL_val]
  refine if_neg fun z => ?_
  by_cases h0 : n = 0
  · subst h0; exact z.2 (by decide)
  · obtain ⟨c, r, e, hc⟩ := numL_head h0
    rw [e] at z
    exact hc z.1
/-- a whole text's words -/
def cutw (t : W) : List W := TL.spl [32] 0 [] t
def txt (ws : List W) : W := TL.joinL [32] ws
theorem cutw_txt {ws : List W} (h : ws ≠ []) (g : ∀ x ∈ ws, 32 ∉ x) : cutw (txt ws) = ws := SX.spl_join h g
end Wd
/-! new objects, cuts of lists, joins -/
namespace Q
open PySem PySem.Spec PyProof.Rows L2 SX
theorem same_new7 {H : Hp} {p : Addr} {o : HO} (h : H p = none) : Same H (upd H p o) := fun b x e => by
  rw [upd_ne (ne_of_none e h)]; exact e
section
variable {K : PySem.W.Frag} {σ : L2.St} {H H' : Hp} {ta : TA} {te to : TE} {Q : VK} {p l b : Addr} {xs ys zs : List V}
/-- a new list, a new tuple -/
abbrev NewL (xs : List V) (H : Hp) (Q : VK) : Prop := xs.length ≤ sizeLine ∧ ∀ p, H p = none → Q (.ref p) (upd H p (.lst xs))
abbrev NewT (xs : List V) (H : Hp) (Q : VK) : Prop := xs.length ≤ sizeLine ∧ ∀ p, H p = none → Q (.ref p) (upd H p (.tup xs))
theorem g_lstN (q : ta σ H fun xs H1 => NewL xs H1 Q) : tLst ta σ H Q := q
theorem g_tupN (q : ta σ H fun xs H1 => NewT xs H1 Q) : tTup ta σ H Q := q
theorem nwL (e : xs = ys) (hn : ys.length ≤ 1000000) (q : ∀ p H', H p = none → Same H H' → H' p = some (.lst ys) → Q (.ref p) H') : NewL xs H Q := by
  subst e
  exact ⟨Nat.le_trans hn sizeBig, fun p hp => q p _ hp (same_new7 hp) upd_same⟩
theorem nwT (e : xs = ys) (hn : ys.length ≤ 1000000) (q : ∀ p H', H p = none → Same H H' → H' p = some (.tup ys) → Q (.ref p) H') : NewT xs H Q := by
  subst e
  exact ⟨Nat.le_trans hn sizeBig, fun p hp => q p _ hp (same_new7 hp) upd_same⟩
theorem g_cat (hl : H l = some (.lst xs)) (hb : H b = some (.lst zs)) (e : xs ++ zs = ys) (hn : ys.length ≤ 1000000) (q : ∀ p H', H p = none → Same H H' → H' p = some (.lst ys) → Q (.ref p) H') : rCat (.ref l) (.ref b) H Q := by
  subst e
  refine ⟨l, b, xs, zs, rfl, rfl, hl, hb, ?_, fun p hp => q p _ hp (same_new7 hp) upd_same⟩
  rw [← List.length_append]
  exact Nat.le_trans hn sizeBig
theorem cutV_to {n : Nat} (h : n ≤ xs.length) : cutV xs none (some (n : Int)) = xs.take n := by
  unfold cutV
  rw [HT.sIx_none, HT.sIx_nat, List.drop_zero, Nat.sub_zero, Nat.min_eq_left h]
theorem cutV_from {n : Nat} (h : n ≤ xs.length) : cutV xs (some (n : Int)) none = xs.drop n := by
  unfold cutV
  rw [HT.sIx_none, HT.sIx_nat, Nat.min_eq_left h]
  exact List.take_of_length_le (by rw [List.length_drop]; exact Nat.le_refl _)
theorem g_slL {lo hi : Option Int} (hl : SqL K H l xs) (e : cutV xs lo hi = ys) (q : ∀ p H', H p = none → Same H H' → H' p = some (.lst ys) → Q (.ref p) H') : rSlL K (.ref l) lo hi H Q := by
  subst e
  exact ⟨l, xs, rfl, hl, fun p hp => q p _ hp (same_new7 hp) upd_same⟩
end
end Q
/-! plain data (Dp) under new objects, equality of plain data; set(tuple of ints) -/
namespace Q
open PySem PySem.Spec PyProof.Rows L2 SX
section
variable {K : PySem.W.Frag} {H H' : Hp}
mutual
theorem dp_same (sm : Same H H') : ∀ (d : PyData) {v : V}, Dp K H v d → Dp K H' v d
  | .none, _, h => by cases h; exact .non
  | .bool b, _, h => by cases h; exact .bl b
  | .int i, _, h => by cases h; exact .int i
  | .str x, _, h => by cases h; exact .str x
  | .list ds, _, h => by cases h with | lst a b => exact .lst (SqL.ext a sm) (dpAll_same sm ds b)
  | .tuple ds, _, h => by cases h with | tup a b => exact .tup (SqT.ext a sm) (dpAll_same sm ds b)
  | .dict _, _, h => by cases h
theorem dpAll_same (sm : Same H H') : ∀ (ds : List PyData) {vs : List V}, DpAll K H vs ds → DpAll K H' vs ds
  | [], _, h => by cases h; exact .nil
  | d :: ds, _, h => by cases h with | cons a b => exact .cons (dp_same sm d a) (dpAll_same sm ds b)
end
theorem dpAll_len : ∀ {vs : List V} {ds : List PyData}, DpAll K H vs ds → vs.length = ds.length
  | _, _, .nil => rfl
  | _, _, .cons _ b => by rw [List.length_cons, List.length_cons, dpAll_len b]
theorem dpAll_at : ∀ {vs : List V} {ds : List PyData} {i : Nat} {d : PyData}, DpAll K H vs ds → ds[i]? = some d → ∃ v, vs[i]? = some v ∧ Dp K H v d
  | _, _, _, _, .nil, e => by cases e
  | _, _, 0, _, .cons a b, e => by cases e; exact ⟨_, rfl, a⟩
  | _, _, i + 1, _, .cons a b, e => dpAll_at (i := i) b e
theorem dpAll_at' : ∀ {vs : List V} {ds : List PyData} {i : Nat} {v : V}, DpAll K H vs ds → vs[i]? = some v → ∃ d, ds[i]? = some d ∧ Dp K H v d
  | _, _, _, _, .nil, e => by cases e
  | _, _, 0, _, .cons a b, e => by cases e; exact ⟨_, rfl, a⟩
  | _, _, i + 1, _, .cons a b, e => dpAll_at' (i := i) b e
theorem dpAll_app : ∀ {vs ws : List V} {ds es : List PyData}, DpAll K H vs ds → DpAll K H ws es → DpAll K H (vs ++ ws) (ds ++ es)
  | _, _, _, _, .nil, h => h
  | _, _, _, _, .cons a b, h => .cons a (dpAll_app b h)
theorem dpAll_ints : ∀ ns : List Int, DpAll K H (ns.map V.int) (ns.map PyData.int)
  | [] => .nil
  | n :: r => .cons (.int n) (dpAll_ints r)
theorem dpAll_strs : ∀ ws : List (List Nat), DpAll K H (ws.map fun z => V.str (S z)) (ws.map fun z => PyData.str (S z))
  | [] => .nil
  | n :: r => .cons (.str _) (dpAll_strs r)
theorem dpAll_take : ∀ (n : Nat) {vs : List V} {ds : List PyData}, DpAll K H vs ds → DpAll K H (vs.take n) (ds.take n)
  | 0, _, _, _ => .nil
  | _ + 1, _, _, .nil => .nil
  | n + 1, _, _, .cons a b => .cons a (dpAll_take n b)
theorem dpAll_drop : ∀ (n : Nat) {vs : List V} {ds : List PyData}, DpAll K H vs ds → DpAll K H (vs.drop n) (ds.drop n)
  | 0, _, _, h => h
  | _ + 1, _, _, .nil => .nil
  | n + 1, _, _, .cons a b => dpAll_drop n b
end
/-! plain data: None, ints, texts, lists, tuples -/
mutual
def pl : PyData → Bool
  | .none => true
  | .int _ => true
  | .str x => PyData.strOk x
  | .list xs => plAll xs
  | .tuple xs => plAll xs
  | .bool _ => false
  | .dict _ => false
def plAll : List PyData → Bool
  | [] => true
  | x :: xs => pl x && plAll xs
end
mutual
theorem pl_can : ∀ d : PyData, pl d = true → PyData.canLay0 d = true
  | .none, _ => by simp [PyData.canLay0]
  | .int _, _ => by simp [PyData.canLay0]
  | .str x, h => by simpa [PyData.canLay0, pl] using h
  | .list xs, h => by simpa [PyData.canLay0] using plAll_can xs (by simpa [pl] using h)
  | .tuple xs, h => by simpa [PyData.canLay0] using plAll_can xs (by simpa [pl] using h)
  | .bool _, h => by simp [pl] at h
  | .dict _, h => by simp [pl] at h
theorem plAll_can : ∀ ds : List PyData, plAll ds = true → PyData.canLayAll0 ds = true
  | [], _ => by simp [PyData.canLayAll0]
  | d :: ds, h => by
    have h : (pl d && plAll ds) = true := by simpa [plAll] using h
    rw [Bool.and_eq_true] at h
    simp [PyData.canLayAll0, pl_can d h.1, plAll_can ds h.2]
end
mutual
theorem eqv_iff : ∀ d e : PyData, pl d = true → pl e = true → (PyData.eqv d e = true ↔ d = e)
  | .none, e, _, h => by cases e <;> simp_all [PyData.eqv, pl]
  | .int i, e, _, h => by cases e <;> simp_all [PyData.eqv, pl]
  | .str x, e, _, h => by cases e <;> simp_all [PyData.eqv, pl]
  | .list xs, e, h1, h2 => by
    cases e with
    | list ys =>
      have := eqvAll_iff xs ys (by simpa [pl] using h1) (by simpa [pl] using h2)
      simpa [PyData.eqv] using this
    | _ => simp_all [PyData.eqv, pl]
  | .tuple xs, e, h1, h2 => by
    cases e with
    | tuple ys =>
      have := eqvAll_iff xs ys (by simpa [pl] using h1) (by simpa [pl] using h2)
      simpa [PyData.eqv] using this
    | _ => simp_all [PyData.eqv, pl]
  | .bool _, _, h, _ => by simp [pl] at h
  | .dict _, _, h, _ => by simp [pl] at h
theorem eqvAll_iff : ∀ ds es : List PyData, plAll ds = true → plAll es = true → (PyData.eqvAll ds es = true ↔ ds = es)
  | [], es, _, _ => by cases es <;> simp [PyData.eqvAll]
  | d :: ds, [], _, _ => by simp [PyData.eqvAll]
  | d :: ds, e :: es, h1, h2 => by
    have h1 : (pl d && plAll ds) = true := by simpa [plAll] using h1
    have h2 : (pl e && plAll es) = true := by simpa [plAll] using h2
    rw [Bool.and_eq_true] at h1 h2
    simp [PyData.eqvAll, eqv_iff d e h1.1 h2.1, eqvAll_iff ds es h1.2 h2.2]
end
theorem eqv_t {d : PyData} (h : pl d = true) : PyData.eqv d d = true := (eqv_iff d d h h).mpr rfl
theorem eqv_f {d e : PyData} (h : pl d = true) (g : pl e = true) (n : d ≠ e) : PyData.eqv d e = false := by
  cases q : PyData.eqv d e with
  | false => rfl
  | true => exact absurd ((eqv_iff d e h g).mp q) n
theorem plAll_app : ∀ {xs ys : List PyData}, plAll xs = true → plAll ys = true → plAll (xs ++ ys) = true
  | [], _, _, h => h
  | x :: xs, ys, h, g => by
    have h : (pl x && plAll xs) = true := by simpa [plAll] using h
    rw [Bool.and_eq_true] at h
    show plAll (x :: (xs ++ ys)) = true
    simp [plAll, h.1, plAll_app h.2 g]
theorem plAll_of : ∀ {xs : List PyData}, (∀ x ∈ xs, pl x = true) → plAll xs = true
  | [], _ => by simp [plAll]
  | x :: xs, h => by simp [plAll, h x List.mem_cons_self, plAll_of fun y hy => h y (List.mem_cons_of_mem _ hy)]
theorem plAll_mem : ∀ {xs : List PyData}, plAll xs = true → ∀ x ∈ xs, pl x = true
  | x :: xs, h, y, m => by
    have h : (pl x && plAll xs) = true := by simpa [plAll] using h
    rw [Bool.and_eq_true] at h
    rcases List.mem_cons.mp m with rfl | m
    · exact h.1
    · exact plAll_mem h.2 y m
theorem plAll_ints (ns : List Int) : plAll (ns.map PyData.int) = true := plAll_of fun x hx => by
  obtain ⟨n, _, rfl⟩ := List.mem_map.mp hx
  simp [pl]
theorem depthAll_le {n : Nat} : ∀ {xs : List PyData}, (∀ x ∈ xs, x.depth ≤ n) → PyData.depthAll xs ≤ n
  | [], _ => by simp [PyData.depthAll]
  | x :: xs, h => by
    simp only [PyData.depthAll]
    exact Nat.max_le.mpr ⟨h x List.mem_cons_self, depthAll_le fun y hy => h y (List.mem_cons_of_mem _ hy)⟩
theorem depthAll_ints (ns : List Int) : PyData.depthAll (ns.map PyData.int) ≤ 0 := depthAll_le fun x hx => by
  obtain ⟨n, _, rfl⟩ := List.mem_map.mp hx
  simp [PyData.depth]
theorem shaped_of {d : PyData} (h : pl d = true) (g : d.depth ≤ 64) : SeqAt.shaped d = true := by
  unfold SeqAt.shaped
  rw [pl_can d h, decide_eq_true g]; rfl
section
variable {K : PySem.W.Frag} {H : Hp} {x y : V} {d e : PyData} {Q : VK}
theorem g_eqD (h1 : Dp K H x d) (h2 : Dp K H y e) (s1 : pl d = true) (s2 : pl e = true) (d1 : d.depth ≤ 64) (d2 : e.depth ≤ 64) (qt : d = e → Q (.bl true) H) (qf : d ≠ e → Q (.bl false) H) : rEqD K x y H Q := by
  refine ⟨d, e, h1, h2, shaped_of s1 d1, shaped_of s2 d2, ?_⟩
  by_cases h : d = e
  · subst h; rw [eqv_t s1]; exact qt rfl
  · rw [eqv_f s1 s2 h]; exact qf h
theorem g_neD (h1 : Dp K H x d) (h2 : Dp K H y e) (s1 : pl d = true) (s2 : pl e = true) (d1 : d.depth ≤ 64) (d2 : e.depth ≤ 64) (qt : d = e → Q (.bl false) H) (qf : d ≠ e → Q (.bl true) H) : rNeD K x y H Q := by
  refine ⟨d, e, h1, h2, shaped_of s1 d1, shaped_of s2 d2, ?_⟩
  by_cases h : d = e
  · subst h; rw [eqv_t s1]; exact qt rfl
  · rw [eqv_f s1 s2 h]; exact qf h
end
/-! ### set(t), t a tuple of ints -/
section
variable {X : Cx}
def rSetTupI (K : PySem.W.Frag) (w : World) : List V → Hp → VK → Prop := fun xs H Q => ∃ (l : Addr) (ns : List Int), xs = [V.ref l] ∧ SqT K H l (ns.map V.int) ∧ ns.length ≤ 1000 ∧
  ∀ p n, H p = none → Q (.ref p) (upd H p (SetO w p (fun j => decide (j ∈ ns)) n))
theorem cr_setTupI (hc : X.calm = true) : CallR X (.type "set") (rSetTupI X.K X.w) := by
  intro pins s σ H xs us Q I r h
  obtain ⟨l, ns, rfl, hl, hn, q⟩ := h
  rw [Vals.ref1 r]
  obtain ⟨its, rv, pt, hz⟩ := I.tuple hl
  have new := I.hok.fresh (Nat.le_refl s.heap.objs.size)
  refine call_set_tupI ns (I.ok.hd hc) (show s.heap.IsTuple l its.toArray from pt) (ints_of_vals rv) (by unfold scanBound; omega) fun h' tk c R hcn k => ?_
  exact ⟨.ref s.heap.objs.size, upd H s.heap.objs.size (SetO X.w s.heap.objs.size (fun j => decide (j ∈ ns)) c), I.laid (t' := tk) k (Nat.le_refl _) (setO_new R), rfl, q _ c new⟩
end
/-! ### a //= b, a positive divisor -/
section
variable {X : Cx}
def ipC (C : Int → Int → Prop) (f : Int → Int → Int) : TIp := fun x y H Q => ∃ i j, x = .int i ∧ y = .int j ∧ C i j ∧ Q (.int (f i j)) H
theorem ip_fdiv : PIp X .FloorDiv (ipC CDiv fun i j => i / j) := by
  intro pins s σ H x y v u Q I r1 r2 h
  obtain ⟨i, j, rfl, rfl, hc, q⟩ := h
  obtain ⟨t, rfl⟩ := r1
  obtain ⟨t', rfl⟩ := r2
  have h1 : (0 : Int) < j := hc.1
  have h2 : j < 1073741824 := hc.2
  exact ifloordiv_int (by omega) (by rw [Int.fdiv_eq_ediv_of_nonneg i (by omega)]; exact ⟨.int _, H, I.tok _, ⟨_, rfl⟩, q⟩) (.inl (PyProof.noPylong_small (by omega)))
theorem g_ipC {C : Int → Int → Prop} {f : Int → Int → Int} {m n : Int} {H : Hp} {Q : VK} (c : C m n) (q : Q (.int (f m n)) H) : ipC C f (.int m) (.int n) H Q := ⟨m, n, rfl, rfl, c, q⟩
theorem same_put {H H' : Hp} {L : Addr} {o : HO} (hL : H L = none) (s : Same H H') : Same H (upd H' L o) := fun b u hb => by
  rw [upd_ne (ne_of_none hb hL)]; exact s b u hb
end
/-! ### slices of tuples, tuple(list) -/
section
variable {K : PySem.W.Frag} {H : Hp} {l : Addr} {xs ys zs : List V} {Q : VK}
theorem g_slT {lo hi : Option Int} (ht : SqT K H l xs) (e : cutV xs lo hi = ys) (hn : ¬ (HT.sIx xs.length 0 lo = 0 ∧ HT.sIx xs.length xs.length hi = xs.length)) (q : ∀ p H', H p = none → Same H H' → H' p = some (.tup ys) → Q (.ref p) H') : rSlT K (.ref l) lo hi H Q := by
  subst e
  exact ⟨l, xs, rfl, ht, hn, fun p hp => q p _ hp (same_new7 hp) upd_same⟩
theorem tupOf {R : Addr → Hp → Prop} {o : HO} (q : ∀ p H', H p = none → Same H H' → H' p = some o → R p H') : ∀ p, H p = none → R p (upd H p o) := fun p hp => q p _ hp (same_new7 hp) upd_same
theorem g_catT {b : Addr} (h1 : SqT K H l xs) (h2 : SqT K H b zs) (e : xs ++ zs = ys) (hx : xs ≠ []) (hn : ys.length ≤ 1000000) (q : ∀ p H', Same H H' → SqT K H' p ys → Q (.ref p) H') : rCatT K (.ref l) (.ref b) H Q := by
  subst e
  refine ⟨l, b, xs, zs, rfl, rfl, h1, h2, hx, by rw [← List.length_append]; exact Nat.le_trans hn sizeBig, fun h => ?_, fun _ p hp => q p _ (same_new7 hp) (SqT.of upd_same)⟩
  subst h
  refine q l H (Same.refl H) ?_
  rw [List.append_nil]
  exact h1
end
/-! ### tuples stay, whatever is changed -/
def KeepT (H H' : Hp) : Prop := ∀ b o, H b = some o → ((∃ xs, o = .tup xs) ∨ ∃ q xs, o = .frz q (.tup xs)) → H' b = some o
theorem KeepT.refl (H : Hp) : KeepT H H := fun _ _ h _ => h
theorem KeepT.of {H H' : Hp} (s : Same H H') : KeepT H H' := fun b o h _ => s b o h
theorem KeepT.trans {H H1 H2 : Hp} (h : KeepT H H1) (g : KeepT H1 H2) : KeepT H H2 := fun b o e t => g b o (h b o e t) t
theorem KeepT.put {H : Hp} {L : Addr} {u o : HO} (hL : H L = some u) (nt : (∀ xs, u ≠ .tup xs) ∧ ∀ q xs, u ≠ .frz q (.tup xs)) : KeepT H (upd H L o) := fun b x h t => by
  have : b ≠ L := fun e => by
    subst e
    rw [hL] at h
    cases h
    rcases t with ⟨xs, e⟩ | ⟨q, xs, e⟩
    · exact nt.1 xs e
    · exact nt.2 q xs e
  rw [upd_ne this]; exact h
theorem KeepT.putL {H : Hp} {L : Addr} {xs : List V} {o : HO} (hL : H L = some (.lst xs)) : KeepT H (upd H L o) := KeepT.put hL ⟨fun _ e => (by cases e), fun _ _ e => (by cases e)⟩
theorem sqT_keep {K : PySem.W.Frag} {H H' : Hp} {a : Addr} {xs : List V} (h : SqT K H a xs) (k : KeepT H H') : SqT K H' a xs := by
  rcases h with h | h
  · refine .inl ?_
    rcases h with h | ⟨q, h⟩
    · exact .inl (k _ _ h (.inl ⟨_, rfl⟩))
    · exact .inr ⟨q, k _ _ h (.inr ⟨_, _, rfl⟩)⟩
  · exact .inr h
/-! data without lists -/
mutual
def noL : PyData → Bool
  | .none => true
  | .bool _ => true
  | .int _ => true
  | .str _ => true
  | .list _ => false
  | .tuple xs => noLAll xs
  | .dict _ => false
def noLAll : List PyData → Bool
  | [] => true
  | x :: xs => noL x && noLAll xs
end
section
variable {K : PySem.W.Frag} {H H' : Hp}
mutual
theorem dp_keep (k : KeepT H H') : ∀ (d : PyData) {v : V}, noL d = true → Dp K H v d → Dp K H' v d
  | .none, _, _, h => by cases h; exact .non
  | .bool b, _, _, h => by cases h; exact .bl b
  | .int i, _, _, h => by cases h; exact .int i
  | .str x, _, _, h => by cases h; exact .str x
  | .list ds, _, n, h => by simp [noL] at n
  | .tuple ds, _, n, h => by cases h with | tup a b => exact .tup (sqT_keep a k) (dpAll_keep k ds (by simpa [noL] using n) b)
  | .dict _, _, _, h => by cases h
theorem dpAll_keep (k : KeepT H H') : ∀ (ds : List PyData) {vs : List V}, noLAll ds = true → DpAll K H vs ds → DpAll K H' vs ds
  | [], _, _, h => by cases h; exact .nil
  | d :: ds, _, n, h => by
    have n : (noL d && noLAll ds) = true := by simpa [noLAll] using n
    rw [Bool.and_eq_true] at n
    cases h with | cons a b => exact .cons (dp_keep k d n.1 a) (dpAll_keep k ds n.2 b)
end
theorem noLAll_of : ∀ {xs : List PyData}, (∀ x ∈ xs, noL x = true) → noLAll xs = true
  | [], _ => by simp [noLAll]
  | x :: xs, h => by simp [noLAll, h x List.mem_cons_self, noLAll_of fun y hy => h y (List.mem_cons_of_mem _ hy)]
theorem noLAll_ints (ns : List Int) : noLAll (ns.map PyData.int) = true := noLAll_of fun x hx => by
  obtain ⟨n, _, rfl⟩ := List.mem_map.mp hx
  simp [noL]
theorem dpAll_ints_inv : ∀ {ns : List Int} {vs : List V}, DpAll K H vs (ns.map PyData.int) → vs = ns.map V.int
  | [], _, h => by cases h; rfl
  | n :: r, _, h => by
    cases h with
    | cons a b => cases a; rw [dpAll_ints_inv b]; rfl
end
section
variable {K : PySem.W.Frag} {H : Hp}
theorem dpAll_last : ∀ {ds : List PyData} {d : PyData} {vs : List V}, DpAll K H vs (ds ++ [d]) → ∃ us v, vs = us ++ [v] ∧ DpAll K H us ds ∧ Dp K H v d
  | [], d, _, h => by
    cases h with
    | cons a b => cases b; exact ⟨[], _, rfl, .nil, a⟩
  | e :: ds, d, _, h => by
    cases h with
    | cons a b =>
      obtain ⟨us, v, rfl, h1, h2⟩ := dpAll_last b
      exact ⟨_ :: us, v, rfl, .cons a h1, h2⟩
end
theorem g_ienum {K : PySem.W.Frag} {ta : TA} {σ : L2.St} {H : Hp} {R : It → Hp → Prop} (q : ta σ H fun vs H1 => ∃ a xs, vs = [.ref a] ∧ SqL K H1 a xs ∧ R (Ite K a) H1) : iEnum K ta σ H R := q
/-! ### readings that name K (within a comprehension's block) -/
section
variable {X : Cx}
def rListOf (K : PySem.W.Frag) : List V → Hp → VK → Prop := fun xs H Q => ∃ p ys, xs = [V.ref p] ∧ (SqL K H p ys ∨ SqT K H p ys) ∧ ∀ l, H l = none → Q (.ref l) (upd H l (.lst ys))
theorem call_list_ofK : CallR X (.type "list") (rListOf X.K) := call_list_of
def rTupOf (K : PySem.W.Frag) : List V → Hp → VK → Prop := fun xs H Q => ∃ p ys, xs = [V.ref p] ∧ ((SqL K H p ys ∧ ∀ l, H l = none → Q (.ref l) (upd H l (.tup ys))) ∨ (SqT K H p ys ∧ Q (.ref p) H))
theorem call_tuple_ofK : CallR X (.type "tuple") (rTupOf X.K) := call_tuple_of
def rLenSeq (K : PySem.W.Frag) : List V → Hp → VK → Prop := fun xs H Q => ∃ p ys, xs = [V.ref p] ∧ (SqL K H p ys ∨ SqT K H p ys) ∧ Q (V.int (ys.length : Nat)) H
theorem call_len_seqK : CallR X (.builtin "len") (rLenSeq X.K) := call_len_seq
def rJoin (K : PySem.W.Frag) : V → List V → Hp → VK → Prop := fun x xs H Q => ∃ a p, ∃ ys : List Str, x = .str a ∧ xs = [.ref p] ∧ (SqL K H p (ys.map V.str) ∨ SqT K H p (ys.map V.str)) ∧
  (ys.map (·.length)).sum + ys.length * a.length ≤ 16777216 ∧ Q (.str (Txt.join a ys)) H
theorem g_listOf {K : PySem.W.Frag} {H : Hp} {l : Addr} {ys : List V} {Q : VK} (h : SqL K H l ys ∨ SqT K H l ys) (q : ∀ p H', H p = none → Same H H' → H' p = some (.lst ys) → Q (.ref p) H') : rListOf K [.ref l] H Q := ⟨l, ys, rfl, h, fun p hp => q p _ hp (same_new7 hp) upd_same⟩
theorem g_tupOfL {K : PySem.W.Frag} {H : Hp} {l : Addr} {ys : List V} {Q : VK} (h : SqL K H l ys) (q : ∀ p H', H p = none → Same H H' → H' p = some (.tup ys) → Q (.ref p) H') : rTupOf K [.ref l] H Q := ⟨l, ys, rfl, .inl ⟨h, fun p hp => q p _ hp (same_new7 hp) upd_same⟩⟩
end
theorem ixN_at {n j : Nat} (h : j < n) : ixN n (j : Int) = some j := by
  unfold ixN
  have h1 : (0 : Int) ≤ (j : Int) := by omega
  simp [h1, h]
end Q
/-! periodic sets of days, in plain: primes, shrinking, tidying -/
namespace Per
/-! ### primes -/
def Pr (p : Nat) : Prop := 2 ≤ p ∧ ∀ d, 2 ≤ d → d < p → ¬ d ∣ p
def strip (p n : Nat) : Nat := if h : 2 ≤ p ∧ 1 ≤ n ∧ n % p = 0 then strip p (n / p) else n
termination_by n
decreasing_by exact Nat.div_lt_self (by omega) (by omega)
theorem strip_le (p n : Nat) : strip p n ≤ n := by
  induction n using Nat.strongRecOn with
  | ind n ih =>
    rw [strip]
    split
    · next h =>
      have hl := Nat.div_lt_self (show 0 < n by omega) (show 1 < p by omega)
      have := ih _ hl
      omega
    · exact Nat.le_refl _
theorem sq_le {p n : Nat} (h : p * p ≤ n) (hp : 2 ≤ p) : p ≤ n := Nat.le_trans (Nat.le_mul_of_pos_left p (by omega)) h
def prGo (p n : Nat) (found : List Nat) : List Nat :=
  if h : 2 ≤ p ∧ p * p ≤ n then (if n % p = 0 then prGo (p + 1) (strip p n) (found ++ [p]) else prGo (p + 1) n found)
  else if 1 < n then found ++ [n] else found
termination_by n + 1 - p
decreasing_by
  · have := strip_le p n
    have := sq_le h.2 h.1
    omega
  · have := sq_le h.2 h.1
    omega
def primes (n : Nat) : List Nat := prGo 2 n []
theorem euclid {p q m : Nat} (hp : Pr p) (hq : Pr q) (h : q ∣ p * m) : q = p ∨ q ∣ m := by
  have g1 : Nat.gcd q p ∣ q := Nat.gcd_dvd_left q p
  have g2 : Nat.gcd q p ∣ p := Nat.gcd_dvd_right q p
  have hg0 : 0 < Nat.gcd q p := Nat.gcd_pos_of_pos_left _ (by have := hq.1; omega)
  by_cases hg : Nat.gcd q p = 1
  · exact .inr (Nat.Coprime.dvd_of_dvd_mul_left hg h)
  · have g3 : 2 ≤ Nat.gcd q p := by omega
    have eq1 : Nat.gcd q p = q := by
      have := Nat.le_of_dvd (by have := hq.1; omega) g1
      by_cases e : Nat.gcd q p = q
      · exact e
      · exact absurd g1 (hq.2 _ g3 (by omega))
    have eq2 : Nat.gcd q p = p := by
      have := Nat.le_of_dvd (by have := hp.1; omega) g2
      by_cases e : Nat.gcd q p = p
      · exact e
      · exact absurd g2 (hp.2 _ g3 (by omega))
    exact .inl (eq1.symm.trans eq2)
structure Inv (n0 p n : Nat) (found : List Nat) : Prop where
  pos : 1 ≤ n
  dv : n ∣ n0
  p2 : 2 ≤ p
  low : ∀ d, 2 ≤ d → d < p → ¬ d ∣ n
  fnd : ∀ q ∈ found, Pr q ∧ q ∣ n0
  cov : ∀ q, Pr q → q ∣ n0 → q ∈ found ∨ q ∣ n
theorem strip_ok {n0 p : Nat} (hp : Pr p) : ∀ {n : Nat} {found : List Nat}, 1 ≤ n → n ∣ n0 → (∀ d, 2 ≤ d → d < p → ¬ d ∣ n) → p ∈ found → (∀ q ∈ found, Pr q ∧ q ∣ n0) → (∀ q, Pr q → q ∣ n0 → q ∈ found ∨ q ∣ n) →
    Inv n0 (p + 1) (strip p n) found := by
  intro n
  induction n using Nat.strongRecOn with
  | ind n ih =>
    intro found h1 h2 h3 h4 h5 h6
    have hp2 := hp.1
    rw [strip]
    split
    · next h =>
      have hd : p ∣ n := Nat.dvd_of_mod_eq_zero h.2.2
      obtain ⟨m, rfl⟩ := hd
      rw [Nat.mul_div_cancel_left m (by omega)]
      have hm : 1 ≤ m := by
        rcases Nat.eq_zero_or_pos m with z | z
        · subst z; simp at h1
        · exact z
      have hlt : m < p * m := by
        have := Nat.mul_le_mul_right m hp2
        omega
      refine ih m hlt hm (Nat.dvd_trans (Nat.dvd_mul_left m p) h2) (fun d a b c => h3 d a b (Nat.dvd_trans c (Nat.dvd_mul_left m p))) h4 h5 fun q hq hd => ?_
      rcases h6 q hq hd with g | g
      · exact .inl g
      · rcases euclid hp hq g with g | g
        · subst g; exact .inl h4
        · exact .inr g
    · next h =>
      refine ⟨h1, h2, by omega, fun d a b c => ?_, h5, h6⟩
      by_cases e : d = p
      · subst e
        exact h ⟨hp2, h1, Nat.mod_eq_zero_of_dvd c⟩
      · exact h3 d a (by omega) c
theorem prGo_ok {n0 : Nat} (h0 : 1 ≤ n0) : ∀ (k p n : Nat) (found : List Nat), n + 1 - p ≤ k → Inv n0 p n found → ∀ q, q ∈ prGo p n found ↔ Pr q ∧ q ∣ n0 := by
  intro k
  induction k with
  | zero =>
    intro p n found hk I
    have hp2 := I.p2
    have : ¬ p * p ≤ n := fun h => by have := sq_le h hp2; omega
    rw [prGo, dif_neg (fun z => this z.2)]
    intro q
    have hn : n = 1 := by
      have := I.pos
      by_cases e : n = 1
      · exact e
      · exact absurd (Nat.dvd_refl n) (I.low n (by omega) (by omega))
    rw [if_neg (by omega)]
    refine ⟨I.fnd q, fun h => ?_⟩
    rcases I.cov q h.1 h.2 with g | g
    · exact g
    · have := Nat.le_of_dvd I.pos g
      have := h.1.1
      omega
  | succ k ih =>
    intro p n found hk I
    have hp2 := I.p2
    rw [prGo]
    split
    · next h =>
      have hpn := sq_le h.2 hp2
      by_cases hm : n % p = 0
      · rw [if_pos hm]
        have hd := Nat.dvd_of_mod_eq_zero hm
        have hp : Pr p := ⟨hp2, fun d a b c => I.low d a b (Nat.dvd_trans c hd)⟩
        refine ih _ _ _ (by have := strip_le p n; omega) (strip_ok hp I.pos I.dv I.low (List.mem_append_right _ List.mem_cons_self) (fun q hq => ?_) fun q hq hd => ?_)
        · rcases List.mem_append.mp hq with g | g
          · exact I.fnd q g
          · rw [List.mem_singleton.mp g]; exact ⟨hp, Nat.dvd_trans hd I.dv⟩
        · exact (I.cov q hq hd).elim (fun g => .inl (List.mem_append_left _ g)) .inr
      · rw [if_neg hm]
        refine ih _ _ _ (by omega) ⟨I.pos, I.dv, by omega, fun d a b c => ?_, I.fnd, I.cov⟩
        by_cases e : d = p
        · subst e; exact hm (Nat.mod_eq_zero_of_dvd c)
        · exact I.low d a (by omega) c
    · next h =>
      have hsq : n < p * p := by
        have : ¬ p * p ≤ n := fun z => h ⟨hp2, z⟩
        omega
      have hpos := I.pos
      intro q
      by_cases h1 : 1 < n
      · rw [if_pos h1]
        have hn : Pr n := by
          refine ⟨by omega, fun d a b c => ?_⟩
          obtain ⟨e, he⟩ := c
          have hd : p ≤ d := by
            by_cases g : p ≤ d
            · exact g
            · exact absurd ⟨e, he⟩ (I.low d a (by omega))
          have he2 : 2 ≤ e := by
            rcases Nat.lt_or_ge e 2 with g | g
            · have : e = 0 ∨ e = 1 := by omega
              rcases this with rfl | rfl
              · simp at he; omega
              · simp at he; omega
            · exact g
          have hep : p ≤ e := by
            by_cases g : p ≤ e
            · exact g
            · exact absurd (he ▸ Nat.dvd_mul_left e d : e ∣ n) (I.low e he2 (by omega))
          have := Nat.mul_le_mul hd hep
          omega
        constructor
        · intro hq
          rcases List.mem_append.mp hq with g | g
          · exact I.fnd q g
          · rw [List.mem_singleton.mp g]; exact ⟨hn, I.dv⟩
        · intro hq
          rcases I.cov q hq.1 hq.2 with g | g
          · exact List.mem_append_left _ g
          · refine List.mem_append_right _ (List.mem_singleton.mpr ?_)
            have := Nat.le_of_dvd (by omega) g
            by_cases e : q = n
            · exact e
            · exact absurd g (hn.2 q hq.1.1 (by omega))
      · rw [if_neg h1]
        refine ⟨I.fnd q, fun hq => ?_⟩
        rcases I.cov q hq.1 hq.2 with g | g
        · exact g
        · have := Nat.le_of_dvd hpos g
          have := hq.1.1
          omega
theorem mem_primes {n q : Nat} (h : 1 ≤ n) : q ∈ primes n ↔ Pr q ∧ q ∣ n :=
  prGo_ok h (n + 1) 2 n [] (by omega) ⟨h, Nat.dvd_refl n, Nat.le_refl 2, fun d a b => by omega, fun q hq => (by cases hq), fun q _ hd => .inr hd⟩ q
/-! ### repeating -/
def rep (P : Nat) (R : List Nat) (st : Nat) : Bool := decide (R.length % (P / st) = 0) && R.all fun r => decide ((r + st) % P ∈ R)
structure Ok (P : Nat) (R : List Nat) : Prop where
  pos : 1 ≤ P
  asc : R.Pairwise (· < ·)
  bd : ∀ r ∈ R, r < P
theorem Ok.nd {P : Nat} {R : List Nat} (h : Ok P R) : R.Nodup := h.asc.imp fun hab => Nat.ne_of_lt hab
/-- closed under a step -/
def Cl (P : Nat) (R : List Nat) (st : Nat) : Prop := ∀ d, d % P ∈ R → (d + st) % P ∈ R
theorem cl_of {P : Nat} {R : List Nat} {st : Nat} (h : ∀ r ∈ R, (r + st) % P ∈ R) : Cl P R st := fun d hd => by
  have := h _ hd
  rwa [Nat.mod_add_mod] at this
theorem Cl.mul {P : Nat} {R : List Nat} {st : Nat} (h : Cl P R st) : ∀ k, Cl P R (k * st)
  | 0 => fun d hd => by rwa [Nat.zero_mul, Nat.add_zero]
  | k + 1 => fun d hd => by
    have := h _ (Cl.mul h k d hd)
    rwa [Nat.add_assoc, ← Nat.succ_mul] at this
/-- membership goes by the shorter period -/
theorem cut_mem {p s : Nat} {R : List Nat} (hp : 1 ≤ p) (hs : 1 ≤ s) (hb : ∀ r ∈ R, r < p * s) (h : Cl (p * s) R s) (d : Nat) : d % s ∈ R.filter (fun r => decide (r < s)) ↔ d % (p * s) ∈ R := by
  have e1 : d % (p * s) % s = d % s := Nat.mod_mul_left_mod d p s
  have hps : 0 < p * s := Nat.mul_pos (by omega) (by omega)
  have ha : d % (p * s) < p * s := Nat.mod_lt _ hps
  generalize d % (p * s) = a at e1 ha
  rw [← e1]
  have hlt : a % s < s := Nat.mod_lt _ (by omega)
  rw [List.mem_filter, decide_eq_true_eq]
  have hdm := Nat.div_add_mod a s
  have hk : a / s < p := Nat.div_lt_of_lt_mul (by rw [Nat.mul_comm]; exact ha)
  have hble : a % s < p * s := Nat.lt_of_le_of_lt (Nat.mod_le _ _) ha
  constructor
  · rintro ⟨h1, _⟩
    have := h.mul (a / s) (a % s) (by rw [Nat.mod_eq_of_lt hble]; exact h1)
    rw [Nat.mul_comm, Nat.add_comm, hdm, Nat.mod_eq_of_lt ha] at this
    exact this
  · intro h1
    refine ⟨?_, hlt⟩
    have := h.mul (p - a / s) a (by rw [Nat.mod_eq_of_lt ha]; exact h1)
    have e2 : a + (p - a / s) * s = a % s + p * s := by
      have : (p - a / s) * s + a / s * s = p * s := by rw [← Nat.add_mul, Nat.sub_add_cancel (Nat.le_of_lt hk)]
      have : s * (a / s) = a / s * s := Nat.mul_comm _ _
      omega
    rw [e2, Nat.add_mod_right, Nat.mod_eq_of_lt hble] at this
    exact this
theorem ok_cut {p s : Nat} {R : List Nat} (h : Ok (p * s) R) (hs : 1 ≤ s) : Ok s (R.filter fun r => decide (r < s)) :=
  ⟨hs, h.asc.filter _, fun r hr => by simpa using (List.mem_filter.mp hr).2⟩
/-- how many -/
theorem len_range {P : Nat} {R : List Nat} (h : Ok P R) : R.length = ((List.range P).filter fun d => decide (d % P ∈ R)).length := by
  refine ((List.perm_ext_iff_of_nodup h.nd (List.nodup_range.filter _)).mpr fun r => ?_).length_eq
  rw [List.mem_filter, List.mem_range, decide_eq_true_eq]
  constructor
  · intro hr
    have := h.bd r hr
    exact ⟨this, by rw [Nat.mod_eq_of_lt this]; exact hr⟩
  · rintro ⟨h1, h2⟩
    rwa [Nat.mod_eq_of_lt h1] at h2
theorem count_mul (f : Nat → Bool) {s : Nat} (hf : ∀ d, f (d + s) = f d) : ∀ p, ((List.range (p * s)).filter f).length = p * ((List.range s).filter f).length
  | 0 => by simp
  | p + 1 => by
    have hk : ∀ k d, f (k * s + d) = f d := by
      intro k
      induction k with
      | zero => intro d; simp
      | succ k ih => intro d; rw [show (k + 1) * s + d = (k * s + d) + s by rw [Nat.succ_mul]; omega, hf, ih]
    rw [Nat.succ_mul, List.range_add, List.filter_append, List.length_append, count_mul f hf p, Nat.succ_mul]
    congr 1
    rw [List.filter_map, List.length_map]
    congr 1
    apply List.filter_congr
    intro d _
    exact hk p d
theorem len_cut {p s : Nat} {R : List Nat} (h : Ok (p * s) R) (hp : 1 ≤ p) (hs : 1 ≤ s) (hc : Cl (p * s) R s) : R.length = p * (R.filter fun r => decide (r < s)).length := by
  rw [len_range h, len_range (ok_cut h hs)]
  have e : ((List.range s).filter fun d => decide (d % s ∈ R.filter fun r => decide (r < s))) = (List.range s).filter fun d => decide (d % (p * s) ∈ R) := by
    apply List.filter_congr
    intro d _
    exact decide_eq_decide.mpr (cut_mem hp hs h.bd hc d)
  rw [e]
  refine count_mul _ (fun d => decide_eq_decide.mpr ⟨fun g => ?_, fun g => hc d g⟩) p
  have := (cut_mem hp hs h.bd hc (d + s)).mpr g
  rw [Nat.add_mod_right] at this
  exact (cut_mem hp hs h.bd hc d).mp this
/-! ### shrinking -/
def shGo (p P : Nat) (R : List Nat) : Nat × List Nat := if h : (2 ≤ p ∧ 1 ≤ P) ∧ P % p = 0 ∧ rep P R (P / p) = true then shGo p (P / p) (R.filter fun r => decide (r < P / p)) else (P, R)
termination_by P
decreasing_by exact Nat.div_lt_self (by omega) (by omega)
def shr (P : Nat) (R : List Nat) : Nat × List Nat := (primes P).foldl (fun s p => shGo p s.1 s.2) (P, R)
/-- p does not shrink it -/
def Stuck (p P : Nat) (R : List Nat) : Prop := ¬ (P % p = 0 ∧ rep P R (P / p) = true)
theorem rep_iff {P : Nat} {R : List Nat} {st : Nat} : rep P R st = true ↔ R.length % (P / st) = 0 ∧ ∀ r ∈ R, (r + st) % P ∈ R := by
  unfold rep
  rw [Bool.and_eq_true, decide_eq_true_eq, List.all_eq_true]
  simp only [decide_eq_true_eq]
/-- one shrinking keeps all that matters -/
structure Step (P : Nat) (R : List Nat) (P' : Nat) (R' : List Nat) : Prop where
  ok : Ok P' R'
  dv : P' ∣ P
  mem : ∀ d, d % P' ∈ R' ↔ d % P ∈ R
  stuck : ∀ q, 2 ≤ q → Stuck q P R → P' % q = 0 → Stuck q P' R'
theorem Step.refl {P : Nat} {R : List Nat} (h : Ok P R) : Step P R P R := ⟨h, Nat.dvd_refl P, fun _ => Iff.rfl, fun _ _ g _ => g⟩
theorem Step.trans {P P1 P2 : Nat} {R R1 R2 : List Nat} (h : Step P R P1 R1) (g : Step P1 R1 P2 R2) : Step P R P2 R2 :=
  ⟨g.ok, Nat.dvd_trans g.dv h.dv, fun d => (g.mem d).trans (h.mem d), fun q q2 s m => g.stuck q q2 (h.stuck q q2 s (Nat.mod_eq_zero_of_dvd (Nat.dvd_trans (Nat.dvd_of_mod_eq_zero m) g.dv))) m⟩
theorem step_one {p P : Nat} {R : List Nat} (h : Ok P R) (hp : 2 ≤ p) (hm : P % p = 0) (hr : rep P R (P / p) = true) : Step P R (P / p) (R.filter fun r => decide (r < P / p)) := by
  obtain ⟨s, rfl⟩ := Nat.dvd_of_mod_eq_zero hm
  have hpos := h.pos
  have hs : 1 ≤ s := by
    rcases Nat.eq_zero_or_pos s with z | z
    · subst z; simp at hpos
    · exact z
  rw [Nat.mul_div_cancel_left s (by omega)] at hr ⊢
  have hc : Cl (p * s) R s := cl_of (rep_iff.mp hr).2
  refine ⟨ok_cut h hs, Nat.dvd_mul_left s p, fun d => cut_mem (by omega) hs h.bd hc d, fun q q2 g m z => g ⟨?_, ?_⟩⟩
  · exact Nat.mod_eq_zero_of_dvd (Nat.dvd_trans (Nat.dvd_of_mod_eq_zero m) (Nat.dvd_mul_left s p))
  · obtain ⟨t, rfl⟩ := Nat.dvd_of_mod_eq_zero m
    have hq0 : 0 < q := by omega
    have ht : 1 ≤ t := by
      rcases Nat.eq_zero_or_pos t with z | z
      · subst z; simp at hs
      · exact z
    obtain ⟨_, z2⟩ := z
    rw [Nat.mul_div_cancel_left t hq0] at z2
    rw [rep_iff, Nat.mul_div_cancel _ (by omega : 0 < t)] at z2
    have e1 : p * (q * t) / q = p * t := by
      rw [show p * (q * t) = q * (p * t) by rw [Nat.mul_left_comm]]
      exact Nat.mul_div_cancel_left _ hq0
    rw [e1, rep_iff]
    constructor
    · rw [show p * (q * t) = q * (p * t) by rw [Nat.mul_left_comm], Nat.mul_div_cancel _ (Nat.mul_pos (by omega) (by omega) : 0 < p * t)]
      rw [len_cut h (by omega) hs hc]
      exact Nat.mod_eq_zero_of_dvd (Nat.dvd_trans (Nat.dvd_of_mod_eq_zero z2.1) (Nat.dvd_mul_left _ p))
    · intro r hr2
      have hc2 : Cl (q * t) (R.filter fun r => decide (r < q * t)) t := cl_of z2.2
      have hrm : r % (p * (q * t)) ∈ R := by rw [Nat.mod_eq_of_lt (h.bd r hr2)]; exact hr2
      have := hc2.mul p r ((cut_mem (by omega) hs h.bd hc r).mpr hrm)
      exact (cut_mem (by omega) hs h.bd hc _).mp this
theorem shGo_ok {p : Nat} (hp : 2 ≤ p) : ∀ {P : Nat} {R : List Nat}, Ok P R → Step P R (shGo p P R).1 (shGo p P R).2 ∧ Stuck p (shGo p P R).1 (shGo p P R).2 := by
  intro P
  induction P using Nat.strongRecOn with
  | ind P ih =>
    intro R h
    rw [shGo]
    split
    · next g =>
      have s1 := step_one h hp g.2.1 g.2.2
      have := ih (P / p) (Nat.div_lt_self (by omega) (by omega)) s1.ok
      exact ⟨s1.trans this.1, this.2⟩
    · next g => exact ⟨Step.refl h, fun z => g ⟨⟨hp, h.pos⟩, z⟩⟩
theorem fold_ok : ∀ (l : List Nat), (∀ p ∈ l, 2 ≤ p) → ∀ {P : Nat} {R : List Nat}, Ok P R →
    Step P R (l.foldl (fun s p => shGo p s.1 s.2) (P, R)).1 (l.foldl (fun s p => shGo p s.1 s.2) (P, R)).2 ∧ ∀ q ∈ l, (l.foldl (fun s p => shGo p s.1 s.2) (P, R)).1 % q = 0 → Stuck q (l.foldl (fun s p => shGo p s.1 s.2) (P, R)).1 (l.foldl (fun s p => shGo p s.1 s.2) (P, R)).2
  | [], _, P, R, h => ⟨Step.refl h, fun q hq => by cases hq⟩
  | p :: l, hl, P, R, h => by
    have hp := hl p List.mem_cons_self
    obtain ⟨a, b⟩ := shGo_ok hp h
    obtain ⟨c, d⟩ := fold_ok l (fun q hq => hl q (List.mem_cons_of_mem _ hq)) a.ok
    rw [List.foldl_cons]
    refine ⟨a.trans c, fun q hq m => ?_⟩
    rcases List.mem_cons.mp hq with rfl | hq
    · exact c.stuck q hp b m
    · exact d q hq m
theorem shr_ok {P : Nat} {R : List Nat} (h : Ok P R) : Step P R (shr P R).1 (shr P R).2 ∧ ∀ q, Pr q → q ∣ (shr P R).1 → Stuck q (shr P R).1 (shr P R).2 := by
  obtain ⟨a, b⟩ := fold_ok (primes P) (fun p hp => ((mem_primes h.pos).mp hp).1.1) h
  exact ⟨a, fun q hq hd => b q ((mem_primes h.pos).mpr ⟨hq, Nat.dvd_trans hd a.dv⟩) (Nat.mod_eq_zero_of_dvd hd)⟩
theorem shGo_stuck {p P : Nat} {R : List Nat} (h : Stuck p P R) : shGo p P R = (P, R) := by
  rw [shGo, dif_neg (fun z => h z.2)]
theorem fold_stuck {P : Nat} {R : List Nat} : ∀ l : List Nat, (∀ q ∈ l, Stuck q P R) → l.foldl (fun s p => shGo p s.1 s.2) (P, R) = (P, R)
  | [], _ => rfl
  | p :: l, h => by
    rw [List.foldl_cons, shGo_stuck (h p List.mem_cons_self)]
    exact fold_stuck l fun q hq => h q (List.mem_cons_of_mem _ hq)
/-- shrinking once is enough -/
theorem shr_idem {P : Nat} {R : List Nat} (h : Ok P R) : shr (shr P R).1 (shr P R).2 = shr P R := by
  obtain ⟨a, b⟩ := shr_ok h
  exact fold_stuck _ fun q hq => by
    obtain ⟨c, d⟩ := (mem_primes a.ok.pos).mp hq
    exact b q c d
end Per
/-! patterns of pieces, tidied, in plain -/
namespace Per
abbrev Piece := Nat × Nat × List Nat
def POk (p : Piece) : Prop := Ok p.2.1 p.2.2
def tidStep (acc : List Piece) (p : Piece) : List Piece := if acc.getLast?.map (·.2) = some (shr p.2.1 p.2.2) then acc else acc ++ [(p.1, shr p.2.1 p.2.2)]
def tid (ps : List Piece) : List Piece := ps.foldl tidStep []
theorem tid_snoc (ps : List Piece) (p : Piece) : tid (ps ++ [p]) = tidStep (tid ps) p := by
  unfold tid; rw [List.foldl_append]; rfl
/-- is the day in -/
def inStep (d : Nat) (f : Bool) (p : Piece) : Bool := if p.1 ≤ d then decide (d % p.2.1 ∈ p.2.2) else f
def inP (ps : List Piece) (d : Nat) : Bool := ps.foldl (inStep d) false
theorem inP_snoc (ps : List Piece) (p : Piece) (d : Nat) : inP (ps ++ [p]) d = inStep d (inP ps d) p := by
  unfold inP; rw [List.foldl_append]; rfl
theorem inP_at {ps : List Piece} {d k : Nat} {p : Piece} (h : ps[k]? = some p) (hp : p.1 ≤ d) (hno : ∀ j q, k < j → ps[j]? = some q → d < q.1) : inP ps d = decide (d % p.2.1 ∈ p.2.2) := by
  have hk : k < ps.length := (List.getElem?_eq_some_iff.mp h).1
  have e : ps = ps.take k ++ (p :: ps.drop (k + 1)) := by
    rw [show p = ps[k] from ((List.getElem?_eq_some_iff.mp h).2).symm, List.getElem_cons_drop, List.take_append_drop]
  have key : ∀ (l : List Piece) (f : Bool), (∀ q ∈ l, d < q.1) → l.foldl (inStep d) f = f := by
    intro l
    induction l with
    | nil => intro f _; rfl
    | cons q l ih =>
      intro f hq
      rw [List.foldl_cons]
      have : inStep d f q = f := if_neg (by have := hq q List.mem_cons_self; omega)
      rw [this]
      exact ih f fun x hx => hq x (List.mem_cons_of_mem _ hx)
  unfold inP
  rw [e, List.foldl_append, List.foldl_cons, key _ _ fun q hq => ?_]
  · exact if_pos hp
  · obtain ⟨j, hj⟩ := List.getElem?_of_mem hq
    rw [List.getElem?_drop] at hj
    exact hno (k + 1 + j) q (by omega) hj
/-- starts ascend -/
def Asc (ps : List Piece) : Prop := ps.Pairwise fun p q => p.1 < q.1
structure Tid (ps ts : List Piece) : Prop where
  ok : ∀ t ∈ ts, POk t
  fix : ∀ t ∈ ts, shr t.2.1 t.2.2 = t.2
  adj : ∀ (i : Nat) (p q : Piece), ts[i]? = some p → ts[i + 1]? = some q → p.2 ≠ q.2
  asc : Asc ts
  from_ : ∀ t ∈ ts, ∃ p ∈ ps, t.1 = p.1 ∧ t.2.1 ≤ p.2.1 ∧ t.2.2.length ≤ p.2.2.length
  head : ts.head?.map (·.1) = ps.head?.map (·.1)
  same : ∀ d, inP ts d = inP ps d
  len : ts.length ≤ ps.length
theorem filter_len {α : Type} (f : α → Bool) (l : List α) : (l.filter f).length ≤ l.length := List.length_filter_le f l
theorem shGo_len (p : Nat) : ∀ (P : Nat) (R : List Nat), (shGo p P R).2.length ≤ R.length := by
  intro P
  induction P using Nat.strongRecOn with
  | ind P ih =>
    intro R
    rw [shGo]
    split
    · next g => exact Nat.le_trans (ih (P / p) (Nat.div_lt_self (by omega) (by omega)) _) (filter_len _ _)
    · exact Nat.le_refl _
theorem fold_len : ∀ (l : List Nat) (s : Nat × List Nat), (l.foldl (fun s p => shGo p s.1 s.2) s).2.length ≤ s.2.length
  | [], _ => Nat.le_refl _
  | p :: l, s => Nat.le_trans (fold_len l _) (shGo_len p s.1 s.2)
theorem shr_len (P : Nat) (R : List Nat) : (shr P R).2.length ≤ R.length := fold_len _ _
theorem last_at {α : Type} (l : List α) : l.getLast? = l[l.length - 1]? := List.getLast?_eq_getElem? 
theorem tid_ok : ∀ (ps : List Piece), (∀ p ∈ ps, POk p) → Asc ps → Tid ps (tid ps) := by
  intro ps
  have main : ∀ n, n ≤ ps.length → (∀ p ∈ ps, POk p) → Asc ps → Tid (ps.take n) (tid (ps.take n)) := by
    intro n
    induction n with
    | zero =>
      intro _ _ _
      rw [List.take_zero]
      exact ⟨fun _ h => (by cases h), fun _ h => (by cases h), fun i p q h => (by simp [tid] at h), List.Pairwise.nil, fun _ h => (by cases h), rfl, fun _ => rfl, Nat.le_refl _⟩
    | succ n ih =>
      intro hn ho ha
      have I := ih (by omega) ho ha
      have hlt : n < ps.length := by omega
      have et : ps.take (n + 1) = ps.take n ++ [ps[n]] := (List.take_append_getElem hlt).symm
      have hp := ho ps[n] (List.getElem_mem hlt)
      obtain ⟨st, sk⟩ := shr_ok hp
      have hbelow : ∀ t ∈ tid (ps.take n), t.1 < ps[n].1 := by
        intro t ht
        obtain ⟨p, hp, e, _⟩ := I.from_ t ht
        rw [e]
        have h2 := ha
        rw [Asc, ← List.take_append_drop n ps, List.pairwise_append] at h2
        exact h2.2.2 p hp _ (by rw [List.drop_eq_getElem_cons hlt]; exact List.mem_cons_self)
      have hle : (shr ps[n].2.1 ps[n].2.2).1 ≤ ps[n].2.1 := Nat.le_of_dvd hp.pos st.dv
      rw [et, tid_snoc]
      generalize ps[n] = p at *
      generalize ps.take n = pre at *
      unfold tidStep
      split
      · next h =>
        obtain ⟨t, ht, e⟩ : ∃ t, (tid pre).getLast? = some t ∧ t.2 = shr p.2.1 p.2.2 := by
          cases hg : (tid pre).getLast? with
          | none => rw [hg] at h; cases h
          | some t => rw [hg] at h; exact ⟨t, rfl, Option.some.inj h⟩
        have htm := List.mem_of_getLast? ht
        refine ⟨I.ok, I.fix, I.adj, I.asc, fun t ht => ?_, ?_, fun d => ?_, by rw [List.length_append]; have := I.len; omega⟩
        · obtain ⟨q, hq, r⟩ := I.from_ t ht
          exact ⟨q, List.mem_append_left _ hq, r⟩
        · rw [I.head]
          cases pre with
          | nil => simp [tid] at ht
          | cons x xs => rfl
        · rw [inP_snoc, ← I.same]
          unfold inStep
          split
          · next hd =>
            have hb := hbelow t htm
            rw [last_at] at ht
            rw [inP_at ht (by omega) fun j q hj hq => ?_]
            · rw [e]
              exact decide_eq_decide.mpr (st.mem d)
            · have := (List.getElem?_eq_some_iff.mp hq).1
              have := (List.getElem?_eq_some_iff.mp ht).1
              omega
          · rfl
      · next h =>
        refine ⟨fun t ht => ?_, fun t ht => ?_, fun i x y hx hy => ?_, ?_, fun t ht => ?_, ?_, fun d => ?_, by rw [List.length_append, List.length_append]; have := I.len; simp; omega⟩
        · rcases List.mem_append.mp ht with ht | ht
          · exact I.ok t ht
          · rw [List.mem_singleton.mp ht]; exact st.ok
        · rcases List.mem_append.mp ht with ht | ht
          · exact I.fix t ht
          · rw [List.mem_singleton.mp ht]; exact shr_idem hp
        · by_cases hi : i + 1 < (tid pre).length
          · rw [List.getElem?_append_left (by omega)] at hx
            rw [List.getElem?_append_left hi] at hy
            exact I.adj i x y hx hy
          · have hy2 := (List.getElem?_eq_some_iff.mp hy).1
            rw [List.length_append, List.length_singleton] at hy2
            have hi2 : i + 1 = (tid pre).length := by omega
            rw [List.getElem?_append_right (by omega), hi2, Nat.sub_self] at hy
            cases hy
            rw [List.getElem?_append_left (by omega)] at hx
            intro e
            refine h ?_
            rw [last_at, show (tid pre).length - 1 = i by omega, hx]
            exact congrArg some e
        · rw [Asc, List.pairwise_append]
          exact ⟨I.asc, List.pairwise_singleton _ _, fun x hx y hy => by rw [List.mem_singleton.mp hy]; exact hbelow x hx⟩
        · rcases List.mem_append.mp ht with ht | ht
          · obtain ⟨q, hq, r⟩ := I.from_ t ht
            exact ⟨q, List.mem_append_left _ hq, r⟩
          · rw [List.mem_singleton.mp ht]
            exact ⟨p, List.mem_append_right _ List.mem_cons_self, rfl, hle, shr_len _ _⟩
        · cases pre with
          | nil => rfl
          | cons x xs =>
            have := I.head
            cases ht : tid (x :: xs) with
            | nil => rw [ht] at this; cases this
            | cons y ys => rw [ht] at this; exact this
        · rw [inP_snoc, inP_snoc, ← I.same]
          unfold inStep
          split
          · exact decide_eq_decide.mpr (st.mem d)
          · rfl
  intro ho ha
  have := main ps.length (Nat.le_refl _) ho ha
  rwa [List.take_length] at this
/-- what is tidy stays -/
theorem tid_fix : ∀ (ts : List Piece), (∀ t ∈ ts, shr t.2.1 t.2.2 = t.2) → (∀ (i : Nat) (p q : Piece), ts[i]? = some p → ts[i + 1]? = some q → p.2 ≠ q.2) → tid ts = ts := by
  intro ts hf ha
  have main : ∀ n, n ≤ ts.length → tid (ts.take n) = ts.take n := by
    intro n
    induction n with
    | zero => intro _; rfl
    | succ n ih =>
      intro hn
      have hlt : n < ts.length := by omega
      have et : ts.take (n + 1) = ts.take n ++ [ts[n]] := (List.take_append_getElem hlt).symm
      rw [et, tid_snoc, ih (by omega)]
      unfold tidStep
      rw [hf _ (List.getElem_mem hlt), if_neg]
      intro e
      rw [last_at, List.length_take, Nat.min_eq_left (by omega)] at e
      cases n with
      | zero => simp at e
      | succ m =>
        rw [Nat.add_sub_cancel, List.getElem?_take_of_lt (by omega), List.getElem?_eq_getElem (by omega)] at e
        exact ha m _ _ (List.getElem?_eq_getElem (by omega)) (List.getElem?_eq_getElem hlt) (Option.some.inj e)
  have := main ts.length (Nat.le_refl _)
  rwa [List.take_length] at this
theorem tid_idem {ps : List Piece} (h : ∀ p ∈ ps, POk p) (a : Asc ps) : tid (tid ps) = tid ps := tid_fix _ (tid_ok ps h a).fix (tid_ok ps h a).adj
end Per
/-! rows of numbers written and read, in plain -/
namespace Wd
open PySem PySem.NumText Dg
/-- a whole number's text -/
def itxt (n : Int) : W := if n < 0 then 45 :: TL.numL (-n).toNat else TL.numL n.toNat
theorem itxt_nat (n : Nat) : itxt (n : Int) = TL.numL n := by
  unfold itxt
  rw [if_neg (by omega), Int.toNat_natCast]
theorem itxt_len {n : Int} {k : Nat} (hk : 1 ≤ k) (h : n.natAbs < 10 ^ k) : (itxt n).length ≤ k + 1 := by
  unfold itxt
  split
  · have := TL.numL_len (k := k) (by omega) (n := (-n).toNat) (by omega)
    rw [List.length_cons]; omega
  · have := TL.numL_len (k := k) (by omega) (n := n.toNat) (by omega)
    omega
theorem itxt_sign {n : Int} : ∀ c ∈ itxt n, c = 45 ∨ (48 ≤ c ∧ c ≤ 57) := by
  intro c hc
  unfold itxt at hc
  split at hc
  · rcases List.mem_cons.mp hc with h | h
    · exact .inl h
    · exact .inr (TL.numL_digits _ c h)
  · exact .inr (TL.numL_digits _ c hc)
theorem rint_itxt {n : Int} (h : n.natAbs < 10 ^ 18) : rint (itxt n) = some n := by
  unfold itxt
  split
  · next hn =>
    have hd := isDig_num (-n).toNat
    have hl := TL.numL_len (k := 18) (by decide) (n := (-n).toNat) (by omega)
    have hne := TL.numL_ne (-n).toNat
    have ed : dash (45 :: TL.numL (-n).toNat) = TL.numL (-n).toNat := rfl
    unfold rint
    rw [ed, hd, if_neg (fun z => z.elim hne fun z => z.elim (fun z => by omega) fun z => by cases z)]
    have h0 : (-n).toNat ≠ 0 := by omega
    obtain ⟨c, r, e, hc⟩ := numL_head h0
    rw [if_neg (fun z => by rw [e] at z; exact hc z.1)]
    have : (45 :: TL.numL (-n).toNat).take 1 = [45] := rfl
    rw [if_pos this, TL.numL_val]
    congr 1
    omega
  · next hn =>
    obtain ⟨k, rfl⟩ := Int.eq_ofNat_of_zero_le (by omega : 0 ≤ n)
    rw [Int.toNat_natCast]
    exact rint_num (by omega)
theorem rint_nil : rint [] = none := by decide
def rowT (row : List Int) : W := txt (row.map itxt)
def wr (row : List Int) : List W := if row = [] then [[]] else row.map itxt
theorem itxt_32 {n : Int} : 32 ∉ itxt n := fun h => by
  have := itxt_sign 32 h
  omega
theorem cut_row (row : List Int) : cutw (rowT row) = wr row := by
  unfold rowT wr
  by_cases h : row = []
  · subst h; rw [if_pos rfl]; decide
  · rw [if_neg h]
    exact cutw_txt (fun e => h (List.map_eq_nil_iff.mp e)) fun x hx => by
      obtain ⟨n, _, rfl⟩ := List.mem_map.mp hx
      exact itxt_32
theorem join_signs {P : Nat → Prop} {sep : W} (hs : ∀ c ∈ sep, P c) : ∀ {ws : List W}, (∀ w ∈ ws, ∀ c ∈ w, P c) → ∀ c ∈ TL.joinL sep ws, P c
  | [], _, c, h => by cases h
  | [w], hw, c, h => hw w List.mem_cons_self c h
  | w :: v :: r, hw, c, h => by
    have h : c ∈ w ++ (sep ++ TL.joinL sep (v :: r)) := h
    rcases List.mem_append.mp h with h | h
    · exact hw w List.mem_cons_self c h
    · rcases List.mem_append.mp h with h | h
      · exact hs c h
      · exact join_signs hs (fun x hx => hw x (List.mem_cons_of_mem _ hx)) c h
theorem row_10 (row : List Int) : 10 ∉ rowT row := fun h => by
  have := join_signs (P := fun c => c = 32 ∨ c = 45 ∨ (48 ≤ c ∧ c ≤ 57)) (sep := [32]) (fun c hc => .inl (List.mem_singleton.mp hc)) (ws := row.map itxt) (fun w hw c hc => by
    obtain ⟨n, _, rfl⟩ := List.mem_map.mp hw
    exact .inr (itxt_sign c hc)) 10 h
  omega
def rowsT (rows : List (List Int)) : W := TL.joinL [10] (rows.map rowT)
theorem cut_rows {rows : List (List Int)} (h : rows ≠ []) : TL.spl [10] 0 [] (rowsT rows) = rows.map rowT :=
  SX.spl_join (fun e => h (List.map_eq_nil_iff.mp e)) fun p hp => by
    obtain ⟨row, _, rfl⟩ := List.mem_map.mp hp
    exact row_10 row
/-- a number taken out of a row -/
def gi (lo hi : Int) (row : List Int) (p : Nat) : Except Nat (Int × Nat) := match row[p]? with
  | some n => if lo ≤ n ∧ n ≤ hi then .ok (n, p + 1) else .error p
  | none => .error p
theorem int_row {lo hi : Int} {row : List Int} {p : Nat} (h : ∀ n ∈ row, n.natAbs < 10 ^ 18) (hp : p = 0 ∨ row ≠ []) : int lo hi (wr row) p = gi lo hi row p := by
  unfold int gi wr
  by_cases e : row = []
  · subst e
    have hp : p = 0 := hp.elim id fun z => absurd rfl z
    subst hp
    rfl
  · rw [if_neg e, List.getElem?_map]
    cases g : row[p]? with
    | none => rfl
    | some n =>
      show (match rint (itxt n) with | some n => _ | none => _) = _
      rw [rint_itxt (h n (List.mem_of_getElem? g))]
theorem wr_none {row : List Int} {p : Nat} (hp : p ≠ 0) : (wr row)[p]? = none ↔ row[p]? = none := by
  unfold wr
  by_cases e : row = []
  · subst e
    rw [if_pos rfl]
    simp
    omega
  · rw [if_neg e, List.getElem?_map]
    cases row[p]? <;> simp
/-! ### what is wrong in rows -/
def MOST : Int := 1000000000000
def leastOf : Option Int → Int
  | some q => q + 1
  | none => 0
def RBad (per : Int) (prev : Option Int) (r : Int) : Prop := r ≥ per ∨ r < 0 ∨ ∃ q, prev = some q ∧ r ≤ q
instance {per : Int} {prev : Option Int} {r : Int} : Decidable (RBad per prev r) := by unfold RBad; infer_instance
theorem rbad_iff {per : Int} {prev : Option Int} {r : Int} (h : ∀ q, prev = some q → 0 ≤ q) : RBad per prev r ↔ ¬ (leastOf prev ≤ r ∧ r ≤ per - 1) := by
  unfold RBad
  cases prev with
  | none =>
    constructor
    · rintro (z | z | ⟨q, e, _⟩)
      · show ¬ (0 ≤ r ∧ r ≤ per - 1); omega
      · show ¬ (0 ≤ r ∧ r ≤ per - 1); omega
      · cases e
    · intro z
      have z : ¬ (0 ≤ r ∧ r ≤ per - 1) := z
      rcases Int.lt_or_le r 0 with c | c
      · exact .inr (.inl c)
      · exact .inl (by omega)
  | some v =>
    have := h v rfl
    constructor
    · rintro (z | z | ⟨q, e, z⟩)
      · show ¬ (v + 1 ≤ r ∧ r ≤ per - 1); omega
      · show ¬ (v + 1 ≤ r ∧ r ≤ per - 1); omega
      · cases e; show ¬ (v + 1 ≤ r ∧ r ≤ per - 1); omega
    · intro z
      have z : ¬ (v + 1 ≤ r ∧ r ≤ per - 1) := z
      rcases Int.lt_or_le v r with c | c
      · exact .inl (by omega)
      · exact .inr (.inr ⟨v, rfl, c⟩)
def resBad (per : Int) : Option Int → List Int → Nat → Option Nat
  | _, [], _ => none
  | prev, r :: rs, k => if RBad per prev r then some k else resBad per (some r) rs (k + 1)
def rowErr (at0 : Bool) (least : Int) : List Int → Option Nat
  | [] => some 0
  | [s] => if ¬ (least ≤ s ∧ s ≤ MOST) ∨ (at0 = true ∧ s ≠ 0) then some 0 else some 1
  | s :: per :: rs => if ¬ (least ≤ s ∧ s ≤ MOST) ∨ (at0 = true ∧ s ≠ 0) then some 0 else if ¬ (1 ≤ per ∧ per ≤ MOST) then some 1 else resBad per none rs 2
def wrongGo (i : Nat) (least : Int) : List (List Int) → Option (Nat × Nat)
  | [] => none
  | row :: rest => match rowErr (decide (i = 0)) least row with
    | some e => some (i + 1, e)
    | none => wrongGo (i + 1) (row.headD 0 + 1) rest
def wrong (rows : List (List Int)) : Option (Nat × Nat) := wrongGo 0 0 rows
/-- the piece of a row -/
def pcOf (row : List Int) : Per.Piece := ((row.getD 0 0).toNat, (row.getD 1 0).toNat, (row.drop 2).map Int.toNat)
/-- the row of a piece -/
def rowOf (p : Per.Piece) : List Int := (p.1 : Int) :: (p.2.1 : Int) :: p.2.2.map fun (r : Nat) => (r : Int)
theorem pcOf_rowOf (p : Per.Piece) : pcOf (rowOf p) = p := by
  unfold pcOf rowOf
  refine Prod.ext rfl (Prod.ext rfl ?_)
  show ((p.2.2.map fun (r : Nat) => (r : Int)).map Int.toNat) = p.2.2
  rw [List.map_map]
  exact (List.map_congr_left fun x _ => Int.toNat_natCast x).trans (List.map_id _)
theorem resBad_none {per : Int} : ∀ {prev : Option Int} {rs : List Int} {k : Nat}, (∀ q, prev = some q → 0 ≤ q) → (resBad per prev rs k = none ↔ (∀ r ∈ rs, 0 ≤ r ∧ r < per) ∧ rs.Pairwise (· < ·) ∧ ∀ q, prev = some q → ∀ r ∈ rs, q < r)
  | prev, [], k, _ => by simp [resBad]
  | prev, r :: rs, k, h => by
    rw [resBad]
    by_cases c : RBad per prev r
    · rw [if_pos c]
      constructor
      · intro z; cases z
      · rintro ⟨h1, h2, h3⟩
        have := h1 r List.mem_cons_self
        rcases c with c | c | ⟨q, hq, c⟩
        · omega
        · omega
        · have := h3 q hq r List.mem_cons_self
          omega
    · have c0 : 0 ≤ r := Int.not_lt.mp fun z => c (Or.inr (Or.inl z))
      rw [if_neg c, resBad_none (prev := some r) (by intro q hq; cases hq; exact c0)]
      have c1 : 0 ≤ r ∧ r < per := by
        constructor
        · exact Int.not_lt.mp fun z => c (.inr (.inl z))
        · exact Int.not_le.mp fun z => c (.inl z)
      constructor
      · rintro ⟨h1, h2, h3⟩
        refine ⟨fun x hx => ?_, List.pairwise_cons.mpr ⟨fun x hx => h3 r rfl x hx, h2⟩, fun q hq x hx => ?_⟩
        · rcases List.mem_cons.mp hx with rfl | hx
          · exact c1
          · exact h1 x hx
        · have hqr : q < r := Int.not_le.mp fun z => c (.inr (.inr ⟨q, hq, z⟩))
          rcases List.mem_cons.mp hx with rfl | hx
          · exact hqr
          · have := h3 r rfl x hx; omega
      · rintro ⟨h1, h2, h3⟩
        rw [List.pairwise_cons] at h2
        exact ⟨fun x hx => h1 x (List.mem_cons_of_mem _ hx), h2.2, fun q hq x hx => by cases hq; exact h2.1 x hx⟩
/-- a row that is right -/
structure RowOk (at0 : Bool) (least : Int) (row : List Int) : Prop where
  two : 2 ≤ row.length
  st : least ≤ row.getD 0 0 ∧ row.getD 0 0 ≤ MOST
  z : at0 = true → row.getD 0 0 = 0
  per : 1 ≤ row.getD 1 0 ∧ row.getD 1 0 ≤ MOST
  rs : ∀ r ∈ row.drop 2, 0 ≤ r ∧ r < row.getD 1 0
  asc : (row.drop 2).Pairwise (· < ·)
theorem rowErr_none {at0 : Bool} {least : Int} {row : List Int} : rowErr at0 least row = none ↔ RowOk at0 least row := by
  match row with
  | [] => exact ⟨fun h => (by cases h), fun h => (by have := h.two; simp at this)⟩
  | [s] =>
    constructor
    · intro h
      rw [rowErr] at h
      split at h <;> cases h
    · intro h; have := h.two; simp at this
  | s :: per :: rs =>
    rw [rowErr]
    constructor
    · intro h
      by_cases c : ¬ (least ≤ s ∧ s ≤ MOST) ∨ (at0 = true ∧ s ≠ 0)
      · rw [if_pos c] at h; cases h
      rw [if_neg c] at h
      by_cases c2 : ¬ (1 ≤ per ∧ per ≤ MOST)
      · rw [if_pos c2] at h; cases h
      rw [if_neg c2] at h
      obtain ⟨a1, a2, _⟩ := (resBad_none (fun q hq => by cases hq)).mp h
      refine ⟨by simp, ?_, fun e => ?_, ?_, a1, a2⟩
      · show least ≤ s ∧ s ≤ MOST
        exact Decidable.not_not.mp fun z => c (.inl z)
      · show s = 0
        exact Decidable.not_not.mp fun z => c (.inr ⟨e, z⟩)
      · show 1 ≤ per ∧ per ≤ MOST
        exact Decidable.not_not.mp c2
    · rintro ⟨_, a1, a2, a3, a4, a5⟩
      have a1 : least ≤ s ∧ s ≤ MOST := a1
      have a2 : at0 = true → s = 0 := a2
      have a3 : 1 ≤ per ∧ per ≤ MOST := a3
      rw [if_neg (fun z => z.elim (fun z => z a1) fun z => z.2 (a2 z.1)), if_neg (fun z => z a3)]
      exact (resBad_none (fun q hq => by cases hq)).mpr ⟨a4, a5, fun q hq => by cases hq⟩
theorem pcOf_ok {at0 : Bool} {least : Int} {row : List Int} (h : RowOk at0 least row) : Per.POk (pcOf row) := by
  refine ⟨by have := h.per; show 1 ≤ (row.getD 1 0).toNat; omega, ?_, fun r hr => ?_⟩
  · show ((row.drop 2).map Int.toNat).Pairwise (· < ·)
    rw [List.pairwise_map]
    exact List.Pairwise.imp_of_mem (fun ha hb hab => by
      have := h.rs _ ha
      have := h.rs _ hb
      omega) h.asc
  · obtain ⟨x, hx, rfl⟩ := List.mem_map.mp hr
    have := h.rs x hx
    have := h.per
    show x.toNat < (row.getD 1 0).toNat
    omega
/-- rows that are right, one behind the other -/
def RowsOk : Nat → Int → List (List Int) → Prop
  | _, _, [] => True
  | i, least, row :: rest => RowOk (decide (i = 0)) least row ∧ RowsOk (i + 1) (row.headD 0 + 1) rest
theorem wrongGo_none : ∀ {rows : List (List Int)} {i : Nat} {least : Int}, wrongGo i least rows = none ↔ RowsOk i least rows
  | [], i, least => ⟨fun _ => trivial, fun _ => rfl⟩
  | row :: rest, i, least => by
    rw [wrongGo, RowsOk]
    cases e : rowErr (decide (i = 0)) least row with
    | some k =>
      constructor
      · intro h; cases h
      · intro h
        have := rowErr_none.mpr h.1
        rw [e] at this; cases this
    | none =>
      have h1 := rowErr_none.mp e
      show wrongGo (i + 1) _ rest = none ↔ _
      rw [wrongGo_none (rows := rest)]
      exact ⟨fun h => ⟨h1, h⟩, fun h => h.2⟩
theorem head_getD (row : List Int) : row.headD 0 = row.getD 0 0 := by cases row <;> rfl
theorem rowsOk_pcs : ∀ {rows : List (List Int)} {i : Nat} {least : Int}, 0 ≤ least → RowsOk i least rows → (∀ p ∈ rows.map pcOf, Per.POk p ∧ least ≤ (p.1 : Int)) ∧ Per.Asc (rows.map pcOf)
  | [], _, _, _, _ => ⟨fun _ h => (by cases h), List.Pairwise.nil⟩
  | row :: rest, i, least, hl, h => by
    obtain ⟨h1, h2⟩ := h
    have hst := h1.st
    rw [head_getD] at h2
    obtain ⟨a1, a2⟩ := rowsOk_pcs (by omega) h2
    constructor
    · intro p hp
      rw [List.map_cons] at hp
      rcases List.mem_cons.mp hp with rfl | hp
      · refine ⟨pcOf_ok h1, ?_⟩
        show least ≤ (((row.getD 0 0).toNat : Nat) : Int)
        omega
      · have := a1 p hp
        exact ⟨this.1, by omega⟩
    · rw [List.map_cons, Per.Asc, List.pairwise_cons]
      refine ⟨fun q hq => ?_, a2⟩
      have := (a1 q hq).2
      show (row.getD 0 0).toNat < q.1
      omega
theorem rowOk_rowOf {at0 : Bool} {least : Int} {p : Per.Piece} (ok : Per.POk p) (h1 : least ≤ (p.1 : Int)) (h2 : (p.1 : Int) ≤ MOST) (h3 : at0 = true → p.1 = 0) (h4 : (p.2.1 : Int) ≤ MOST) : RowOk at0 least (rowOf p) := by
  refine ⟨by simp [rowOf], ⟨h1, h2⟩, fun e => by have := h3 e; show (p.1 : Int) = 0; omega, ⟨by have := ok.pos; show 1 ≤ ((p.2.1 : Nat) : Int); omega, h4⟩, fun r hr => ?_, ?_⟩
  · obtain ⟨x, hx, rfl⟩ := List.mem_map.mp (show r ∈ p.2.2.map fun (r : Nat) => (r : Int) from hr)
    have := ok.bd x hx
    show 0 ≤ (x : Int) ∧ (x : Int) < (p.2.1 : Int)
    omega
  · show (p.2.2.map fun (r : Nat) => (r : Int)).Pairwise (· < ·)
    rw [List.pairwise_map]
    exact ok.asc.imp fun h => by omega
theorem rowsOk_pieces : ∀ {ps : List Per.Piece} {i : Nat} {least : Int}, (∀ p ∈ ps, Per.POk p ∧ (p.1 : Int) ≤ MOST ∧ (p.2.1 : Int) ≤ MOST) → Per.Asc ps → (∀ p, ps[0]? = some p → least ≤ (p.1 : Int) ∧ (i = 0 → p.1 = 0)) → RowsOk i least (ps.map rowOf)
  | [], _, _, _, _, _ => trivial
  | p :: ps, i, least, h, a, h0 => by
    obtain ⟨b1, b2, b3⟩ := h p List.mem_cons_self
    obtain ⟨c1, c2⟩ := h0 p rfl
    rw [Per.Asc, List.pairwise_cons] at a
    refine ⟨rowOk_rowOf b1 c1 b2 (fun e => c2 (by simpa using e)) b3, rowsOk_pieces (fun q hq => h q (List.mem_cons_of_mem _ hq)) a.2 fun q hq => ⟨?_, fun e => by omega⟩⟩
    have := a.1 q (List.mem_of_getElem? hq)
    show ((p.1 : Nat) : Int) + 1 ≤ (q.1 : Int)
    omega
def leastAt (rows : List (List Int)) (i : Nat) : Int := if i = 0 then 0 else (rows.getD (i - 1) []).headD 0 + 1
structure POkR (row : List Int) : Prop where
  pos : 0 ≤ row.headD 0
  ok : Per.POk (pcOf row)
  small : row.getD 1 0 ≤ MOST
theorem gi_err {lo hi : Int} {row : List Int} {p e : Nat} (h : gi lo hi row p = .error e) : e = p ∧ ∀ n, row[p]? = some n → ¬ (lo ≤ n ∧ n ≤ hi) := by
  unfold gi at h
  cases g : row[p]? with
  | none => rw [g] at h; cases h; exact ⟨rfl, fun n e => by cases e⟩
  | some n =>
    rw [g] at h
    by_cases c : lo ≤ n ∧ n ≤ hi
    · have h : (if lo ≤ n ∧ n ≤ hi then Except.ok (n, p + 1) else Except.error p) = Except.error e := h
      rw [if_pos c] at h; cases h
    · have h : (if lo ≤ n ∧ n ≤ hi then Except.ok (n, p + 1) else Except.error p) = Except.error e := h
      rw [if_neg c] at h; cases h
      exact ⟨rfl, fun m hm => by cases hm; exact c⟩
theorem gi_ok {lo hi v : Int} {row : List Int} {p p' : Nat} (h : gi lo hi row p = .ok (v, p')) : p' = p + 1 ∧ row[p]? = some v ∧ lo ≤ v ∧ v ≤ hi := by
  unfold gi at h
  cases g : row[p]? with
  | none => rw [g] at h; cases h
  | some n =>
    rw [g] at h
    have h : (if lo ≤ n ∧ n ≤ hi then Except.ok (n, p + 1) else Except.error p) = Except.ok (v, p') := h
    by_cases c : lo ≤ n ∧ n ≤ hi
    · rw [if_pos c] at h; cases h; exact ⟨rfl, rfl, c⟩
    · rw [if_neg c] at h; cases h
theorem rowErr0 {at0 : Bool} {lo : Int} {row : List Int} (h : ∀ n, row[0]? = some n → ¬ (lo ≤ n ∧ n ≤ MOST)) : rowErr at0 lo row = some 0 := by
  match row, h with
  | [], _ => rfl
  | [s], h => rw [rowErr, if_pos (.inl (h s rfl))]
  | s :: per :: rs, h => rw [rowErr, if_pos (.inl (h s rfl))]
theorem rowErr0' {lo s : Int} {row : List Int} (h : row[0]? = some s) (hs : s ≠ 0) : rowErr true lo row = some 0 := by
  match row, h with
  | [s], h => cases h; rw [rowErr, if_pos (.inr ⟨rfl, hs⟩)]
  | s :: per :: rs, h => cases h; rw [rowErr, if_pos (.inr ⟨rfl, hs⟩)]
theorem rowErr1 {at0 : Bool} {lo s : Int} {row : List Int} (h : row[0]? = some s) (h1 : lo ≤ s ∧ s ≤ MOST) (h2 : at0 = true → s = 0) (h3 : ∀ n, row[1]? = some n → ¬ (1 ≤ n ∧ n ≤ MOST)) : rowErr at0 lo row = some 1 := by
  have c : ¬ (¬ (lo ≤ s ∧ s ≤ MOST) ∨ (at0 = true ∧ s ≠ 0)) := fun z => z.elim (fun z => z h1) fun z => z.2 (h2 z.1)
  match row, h, h3 with
  | [s], h, _ => cases h; rw [rowErr, if_neg c]
  | s :: per :: rs, h, h3 => cases h; rw [rowErr, if_neg c, if_pos (h3 per rfl)]
theorem rowErr2 {at0 : Bool} {lo s per : Int} {row : List Int} (h : row[0]? = some s) (h1 : lo ≤ s ∧ s ≤ MOST) (h2 : at0 = true → s = 0) (h3 : row[1]? = some per) (h4 : 1 ≤ per ∧ per ≤ MOST) : rowErr at0 lo row = resBad per none (row.drop 2) 2 := by
  have c : ¬ (¬ (lo ≤ s ∧ s ≤ MOST) ∨ (at0 = true ∧ s ≠ 0)) := fun z => z.elim (fun z => z h1) fun z => z.2 (h2 z.1)
  match row, h, h3 with
  | s :: per :: rs, h, h3 => cases h; cases h3; rw [rowErr, if_neg c, if_neg (fun z => z h4)]; rfl
theorem wrong_at {rows : List (List Int)} {i : Nat} {row : List Int} (h : rows[i]? = some row) (hw : wrong rows = wrongGo i (leastAt rows i) (rows.drop i)) :
    (∀ e, rowErr (decide (i = 0)) (leastAt rows i) row = some e → wrong rows = some (i + 1, e)) ∧ (rowErr (decide (i = 0)) (leastAt rows i) row = none → wrong rows = wrongGo (i + 1) (leastAt rows (i + 1)) (rows.drop (i + 1))) := by
  have hd : rows.drop i = row :: rows.drop (i + 1) := by
    obtain ⟨h1, rfl⟩ := List.getElem?_eq_some_iff.mp h
    exact List.drop_eq_getElem_cons h1
  rw [hd, wrongGo] at hw
  constructor
  · intro e he
    rw [he] at hw; exact hw
  · intro he
    rw [he] at hw
    rw [hw]
    congr 1
    unfold leastAt
    rw [if_neg (by omega), Nat.add_sub_cancel, List.getD_eq_getElem?_getD, h]; rfl
theorem leastAt_nonneg {rows : List (List Int)} {i : Nat} (hi : i ≤ rows.length) (h : ∀ row ∈ rows.take i, POkR row) : 0 ≤ leastAt rows i := by
  unfold leastAt
  split
  · exact Int.le_refl 0
  · next h0 =>
    have hl : i - 1 < rows.length := by omega
    have : rows.getD (i - 1) [] ∈ rows.take i := by
      rw [List.getD_eq_getElem?_getD, List.getElem?_eq_getElem hl]
      exact List.mem_iff_getElem?.mpr ⟨i - 1, by rw [List.getElem?_take_of_lt (by omega), List.getElem?_eq_getElem hl]; rfl⟩
    have := (h _ this).pos
    omega
theorem pokR_of {s per : Int} {row : List Int} {at0 : Bool} {lo : Int} (h : row[0]? = some s) (hlo : 0 ≤ lo) (h1 : lo ≤ s ∧ s ≤ MOST) (h2 : at0 = true → s = 0) (h3 : row[1]? = some per) (h4 : 1 ≤ per ∧ per ≤ MOST) (h5 : resBad per none (row.drop 2) 2 = none) : POkR row := by
  have hr := rowErr_none.mp ((rowErr2 h h1 h2 h3 h4).trans h5)
  refine ⟨?_, pcOf_ok hr, hr.per.2⟩
  have := hr.st
  rw [head_getD]
  omega
end Wd
namespace Q
open PySem PySem.Spec PyProof.Rows L2 SX
/-! own words: ne (two addresses differ), hp (what stands at an address), sd (a side), go (a reading, straight on) -/
local macro_rules | `(tactic| walk_at "ne") => `(tactic| first
  | assumption
  | (refine Ne.symm ?_; assumption)
  | (refine (fun h2 => ne_of_none (by assumption) h2) ?_; assumption)
  | (refine Ne.symm ((fun h2 => ne_of_none (by assumption) h2) ?_); assumption))
local macro_rules | `(tactic| walk_at "hp") => `(tactic| first
  | with_reducible assumption
  | with_reducible exact upd_same
  | ((with_reducible refine' (upd_ne ?k1).trans ?k2); (case k1 => walk_at "ne"); (case k2 => walk_at "hp")))
local macro_rules | `(tactic| walk_at "sq") => `(tactic| first
  | with_reducible assumption
  | ((with_reducible refine' SqL.of ?k1); (case k1 => walk_at "hp"))
  | ((with_reducible refine' SqT.of ?k1); (case k1 => walk_at "hp")))
local macro_rules | `(tactic| walk_at "sd") => `(tactic| first
  | with_reducible rfl
  | with_reducible assumption
  | omega
  | decide
  | (refine cmul_r ?_ ?_ <;> decide)
  | (refine cmul_l ?_ ?_ <;> decide)
  | (refine cmul_r ?_ ?_ <;> omega)
  | exact ⟨by decide, by decide, by decide⟩
  | exact ⟨by omega, by omega⟩)
local macro_rules | `(tactic| walk_at "go1") => `(tactic| first
  | ((with_reducible refine' g_var ?k1 ?k2); (case k1 => rfl))
  | (with_reducible refine g_c ?_)
  | (with_reducible refine g_op ?_)
  | (with_reducible refine g_un ?_)
  | (with_reducible refine g_tt ?_)
  | (with_reducible refine g_tB ?_)
  | (with_reducible refine g_ifs ?_)
  | (with_reducible refine g_seq ?_)
  | (with_reducible refine g_next ?_)
  | (with_reducible refine g_asg ?_)
  | (with_reducible refine g_name ?_)
  | (with_reducible refine g_ret ?_)
  | (with_reducible refine g_drop ?_)
  | (with_reducible refine g_nil ?_)
  | (with_reducible refine g_cons ?_)
  | (with_reducible refine g_cb ?_)
  | (with_reducible refine g_sub ?_)
  | (with_reducible refine g_call ?_)
  | (with_reducible refine g_if ?_)
  | (with_reducible refine g_and ?_)
  | (with_reducible refine g_or ?_)
  | (with_reducible refine g_not ?_)
  | (with_reducible refine g_tupN ?_)
  | (with_reducible refine g_lstN ?_)
  | (with_reducible refine g_vei ?_)
  | (with_reducible refine g_jc ?_)
  | (with_reducible refine g_jn ?_)
  | (with_reducible refine g_fmt ?_)
  | (with_reducible refine g_ost ?_)
  | (with_reducible refine g_mko ?_)
  | (with_reducible refine g_fld ?_)
  | (with_reducible refine g_sfld ?_)
  | (with_reducible refine g_meth ?_)
  | (with_reducible refine g_make ?_)
  | (with_reducible refine g_dget ?_)
  | (with_reducible refine g_din ?_)
  | (with_reducible refine g_dni ?_)
  | (with_reducible refine g_dput ?_)
  | (with_reducible refine g_dg1 ?_)
  | (with_reducible refine g_dg2 ?_)
  | (with_reducible refine g_or2 ?_)
  | (with_reducible refine g_an2 ?_)
  | (with_reducible refine g_no2 ?_)
  | (with_reducible refine g_itup ?_)
  | (with_reducible refine g_ilist ?_)
  | (with_reducible refine g_ikeys ?_)
  | (with_reducible refine g_irng1 ?_)
  | (with_reducible refine g_irng2 ?_)
  | (with_reducible refine g_for ?_)
  | (with_reducible refine g_lc ?_)
  | (with_reducible refine g_lock ?_)
  | (with_reducible refine g_gtup ?_)
  | (with_reducible refine g_gcons ?_)
  | (with_reducible refine g_gnil ?_)
  | (with_reducible refine g_par ?_)
  | (with_reducible refine g_par3 ?_)
  | (with_reducible refine g_calls ?_)
  | (with_reducible refine g_dct ?_)
  | (with_reducible refine g_methx ?_)
  | (with_reducible refine g_yes ?_)
  | (with_reducible refine g_sl ?_)
  | (with_reducible refine g_npart ?_)
  | (with_reducible refine g_part ?_)
  | (with_reducible refine g_dnt ?_)
  | (with_reducible refine g_dnk ?_)
  | (with_reducible refine g_istr ?_)
  | (with_reducible refine g_ienum ?_)
  | (with_reducible refine g_exi ?_)
  | (with_reducible refine g_glst ?_)
  | (with_reducible refine g_chain ?_)
  | (with_reducible refine g_isN ?_)
  | (with_reducible refine g_ipI ?_)
  | ((with_reducible refine g_ipC ?_ ?_); (walk_at "sd"))
  | (with_reducible refine g_inS ?_)
  | (with_reducible refine g_bm ?_)
  | (with_reducible refine g_bm0 ?_)
  | ((with_reducible refine' g_aug ?k1 ?k2); (case k1 => rfl))
  | (with_reducible refine g_m1 ?_)
  | (with_reducible refine g_fldaug ?_)
  | (with_reducible refine g_tupm ?_)
  | (with_reducible refine g_I0 ?_)
  | ((with_reducible refine g_I ?_ ?_); (walk_at "sd"))
  | (with_reducible refine g_U ?_)
  | ((with_reducible refine g_eq ?_ ?_); rfl)
  | ((with_reducible refine g_ne ?_ ?_); rfl)
  | ((with_reducible refine' g_ixL ?k1 ?k2 ?k3); (case k1 => walk_at "sq"); (case k2 => rfl))
  | ((with_reducible refine' g_ixT ?k1 ?k2 ?k3); (case k1 => walk_at "sq"); (case k2 => rfl))
  | ((with_reducible refine' g_setL ?k1 ?k2 ?k3); (case k1 => walk_at "hp"); (case k2 => rfl))
  | (with_reducible refine g_test ?_)
  | (with_reducible refine g_int1 ?_)
  | (with_reducible refine g_bl1 ?_)
  | ((with_reducible refine' g_lenL ?k1 ?k2); (case k1 => walk_at "sq"))
  | ((with_reducible refine' g_lenT ?k1 ?k2); (case k1 => walk_at "sq"))
)
local macro_rules | `(tactic| walk_at "go") => `(tactic| repeat (first | (walk_at "go1") | (dsimp only; (walk_at "go1"))))
def topS (i : Nat) : Stmt := PySem.Challenge.pw_everdays_k78_patterns_written.main.body.getD i (.Pass ⟨0, 0, 0, 0⟩)
abbrev s_BadText_init : Stmt := (inClass (topS 3) 0)
theorem sc_BadText_init : FnScope ["self", "line", "word"] ["self", "line", "word"] (defScope s_BadText_init) := ⟨rfl, rfl, rfl, by decide +kernel, rfl, by decide +kernel, by decide +kernel⟩
abbrev s_primes_of : Stmt := (topS 5)
theorem sc_primes_of : FnScope ["n", "found", "p"] ["n"] (defScope s_primes_of) := ⟨rfl, rfl, rfl, by decide +kernel, rfl, by decide +kernel, by decide +kernel⟩
abbrev s_place_in : Stmt := (topS 8)
theorem sc_place_in : FnScope ["residues", "r", "low", "high", "middle"] ["residues", "r"] (defScope s_place_in) := ⟨rfl, rfl, rfl, by decide +kernel, rfl, by decide +kernel, by decide +kernel⟩
abbrev s_shrunk : Stmt := (topS 9)
theorem sc_shrunk : FnScope ["period", "residues", "p", "r"] ["period", "residues"] (defScope s_shrunk) := ⟨rfl, rfl, rfl, by decide +kernel, rfl, by decide +kernel, by decide +kernel⟩
abbrev s_repeats : Stmt := (topS 10)
theorem sc_repeats : FnScope ["period", "residues", "step", "known", "r"] ["period", "residues", "step"] (defScope s_repeats) := ⟨rfl, rfl, rfl, by decide +kernel, rfl, by decide +kernel, by decide +kernel⟩
abbrev s_has : Stmt := (topS 11)
theorem sc_has : FnScope ["period", "residues", "d", "r", "place"] ["period", "residues", "d"] (defScope s_has) := ⟨rfl, rfl, rfl, by decide +kernel, rfl, by decide +kernel, by decide +kernel⟩
abbrev s_tidied : Stmt := (topS 13)
theorem sc_tidied : FnScope ["pieces", "found", "start", "period", "residues"] ["pieces"] (defScope s_tidied) := ⟨rfl, rfl, rfl, by decide +kernel, rfl, by decide +kernel, by decide +kernel⟩
abbrev s_belongs : Stmt := (topS 14)
theorem sc_belongs : FnScope ["pattern", "day", "place"] ["pattern", "day"] (defScope s_belongs) := ⟨rfl, rfl, rfl, by decide +kernel, rfl, by decide +kernel, by decide +kernel⟩
abbrev s_read_integer : Stmt := (topS 18)
theorem sc_read_integer : FnScope ["word", "digits", "sign"] ["word"] (defScope s_read_integer) := ⟨rfl, rfl, rfl, by decide +kernel, rfl, by decide +kernel, by decide +kernel⟩
abbrev s_Line_init : Stmt := (inClass (topS 19) 0)
theorem sc_Line_init : FnScope ["self", "text", "line"] ["self", "text", "line"] (defScope s_Line_init) := ⟨rfl, rfl, rfl, by decide +kernel, rfl, by decide +kernel, by decide +kernel⟩
abbrev s_Line_upcoming : Stmt := (inClass (topS 19) 1)
theorem sc_Line_upcoming : FnScope ["self"] ["self"] (defScope s_Line_upcoming) := ⟨rfl, rfl, rfl, by decide +kernel, rfl, by decide +kernel, by decide +kernel⟩
abbrev s_Line_take_integer : Stmt := (inClass (topS 19) 7)
theorem sc_Line_take_integer : FnScope ["self", "least", "most", "word", "n"] ["self", "least", "most"] (defScope s_Line_take_integer) := ⟨rfl, rfl, rfl, by decide +kernel, rfl, by decide +kernel, by decide +kernel⟩
abbrev s_pattern_text : Stmt := (topS 22)
theorem sc_pattern_text : FnScope ["pattern", "lines", "start", "period", "residues", "n"] ["pattern"] (defScope s_pattern_text) := ⟨rfl, rfl, rfl, by decide +kernel, rfl, by decide +kernel, by decide +kernel⟩
abbrev s_take_residues : Stmt := (topS 23)
theorem sc_take_residues : FnScope ["line", "period", "found", "least"] ["line", "period"] (defScope s_take_residues) := ⟨rfl, rfl, rfl, by decide +kernel, rfl, by decide +kernel, by decide +kernel⟩
abbrev s_read_pattern : Stmt := (topS 24)
theorem sc_read_pattern : FnScope ["text", "pieces", "at", "words", "line", "least", "start", "period"] ["text"] (defScope s_read_pattern) := ⟨rfl, rfl, rfl, by decide +kernel, rfl, by decide +kernel, by decide +kernel⟩
abbrev s_law_draw : Stmt := (topS 26)
theorem sc_law_draw : FnScope ["tape", "many", "cells", "k", "cell", "digit"] ["tape", "many"] (defScope s_law_draw) := ⟨rfl, rfl, rfl, by decide +kernel, rfl, by decide +kernel, by decide +kernel⟩
abbrev s_law_tape : Stmt := (topS 27)
theorem sc_law_tape : FnScope ["script"] ["script"] (defScope s_law_tape) := ⟨rfl, rfl, rfl, by decide +kernel, rfl, by decide +kernel, by decide +kernel⟩
abbrev s_law_mod : Stmt := (topS 28)
theorem sc_law_mod : FnScope ["a", "n"] ["a", "n"] (defScope s_law_mod) := ⟨rfl, rfl, rfl, by decide +kernel, rfl, by decide +kernel, by decide +kernel⟩
abbrev s_law_subset : Stmt := (topS 29)
theorem sc_law_subset : FnScope ["tape", "size", "most", "found", "k", "r"] ["tape", "size", "most"] (defScope s_law_subset) := ⟨rfl, rfl, rfl, by decide +kernel, rfl, by decide +kernel, by decide +kernel⟩
abbrev s_law_pieces : Stmt := (topS 30)
theorem sc_law_pieces : FnScope ["tape", "start", "found", "k", "period"] ["tape"] (defScope s_law_pieces) := ⟨rfl, rfl, rfl, by decide +kernel, rfl, by decide +kernel, by decide +kernel⟩
abbrev s_law_in : Stmt := (topS 31)
theorem sc_law_in : FnScope ["pieces", "day", "found", "start", "period", "residues"] ["pieces", "day"] (defScope s_law_in) := ⟨rfl, rfl, rfl, by decide +kernel, rfl, by decide +kernel, by decide +kernel⟩
abbrev s_law_told : Stmt := (topS 32)
theorem sc_law_told : FnScope ["text", "e"] ["text"] (defScope s_law_told) := ⟨rfl, rfl, rfl, by decide +kernel, rfl, by decide +kernel, by decide +kernel⟩
abbrev s_law_wrong : Stmt := (topS 33)
theorem sc_law_wrong : FnScope ["rows", "at", "row", "least", "k"] ["rows"] (defScope s_law_wrong) := ⟨rfl, rfl, rfl, by decide +kernel, rfl, by decide +kernel, by decide +kernel⟩
abbrev s_law : Stmt := (topS 34)
theorem sc_law : FnScope ["script", "tape", "pieces", "pattern", "rows", "text", "at", "k", "n", "way", "row", "told", "due", "other", "start", "period", "residues", "day"] ["script"] (defScope s_law) := ⟨rfl, rfl, rfl, by decide +kernel, rfl, by decide +kernel, by decide +kernel⟩
structure Adr where
  f_BadText_init : Addr
  d_BadText_init : FuncData
  f_primes_of : Addr
  d_primes_of : FuncData
  f_place_in : Addr
  d_place_in : FuncData
  f_shrunk : Addr
  d_shrunk : FuncData
  f_repeats : Addr
  d_repeats : FuncData
  f_has : Addr
  d_has : FuncData
  f_tidied : Addr
  d_tidied : FuncData
  f_belongs : Addr
  d_belongs : FuncData
  f_read_integer : Addr
  d_read_integer : FuncData
  f_Line_init : Addr
  d_Line_init : FuncData
  f_Line_upcoming : Addr
  d_Line_upcoming : FuncData
  f_Line_take_integer : Addr
  d_Line_take_integer : FuncData
  f_pattern_text : Addr
  d_pattern_text : FuncData
  f_take_residues : Addr
  d_take_residues : FuncData
  f_read_pattern : Addr
  d_read_pattern : FuncData
  f_law_draw : Addr
  d_law_draw : FuncData
  f_law_tape : Addr
  d_law_tape : FuncData
  f_law_mod : Addr
  d_law_mod : FuncData
  f_law_subset : Addr
  d_law_subset : FuncData
  f_law_pieces : Addr
  d_law_pieces : FuncData
  f_law_in : Addr
  d_law_in : FuncData
  f_law_told : Addr
  d_law_told : FuncData
  f_law_wrong : Addr
  d_law_wrong : FuncData
  f_law : Addr
  d_law : FuncData
  C_Line : Addr
  C_BadText : Addr
  C_DaysError : Addr
  M_DaysError : Value
structure Txt (K : PySem.W.Frag) (mg : Str → Option Value) (a : Adr) : Prop where
  F_BadText_init : Fun K "__init__" "BadText.__init__" s_BadText_init a.f_BadText_init a.d_BadText_init
  b_BadText_init : Binds K a.d_BadText_init ["self", "line", "word"] []
  F_primes_of : Fun K "primes_of" "primes_of" s_primes_of a.f_primes_of a.d_primes_of
  b_primes_of : Binds K a.d_primes_of ["n"] []
  g_primes_of : mg "primes_of" = some (.ref a.f_primes_of)
  F_place_in : Fun K "place_in" "place_in" s_place_in a.f_place_in a.d_place_in
  b_place_in : Binds K a.d_place_in ["residues", "r"] []
  g_place_in : mg "place_in" = some (.ref a.f_place_in)
  F_shrunk : Fun K "shrunk" "shrunk" s_shrunk a.f_shrunk a.d_shrunk
  b_shrunk : Binds K a.d_shrunk ["period", "residues"] []
  g_shrunk : mg "shrunk" = some (.ref a.f_shrunk)
  F_repeats : Fun K "repeats" "repeats" s_repeats a.f_repeats a.d_repeats
  b_repeats : Binds K a.d_repeats ["period", "residues", "step"] []
  g_repeats : mg "repeats" = some (.ref a.f_repeats)
  F_has : Fun K "has" "has" s_has a.f_has a.d_has
  b_has : Binds K a.d_has ["period", "residues", "d"] []
  g_has : mg "has" = some (.ref a.f_has)
  F_tidied : Fun K "tidied" "tidied" s_tidied a.f_tidied a.d_tidied
  b_tidied : Binds K a.d_tidied ["pieces"] []
  g_tidied : mg "tidied" = some (.ref a.f_tidied)
  F_belongs : Fun K "belongs" "belongs" s_belongs a.f_belongs a.d_belongs
  b_belongs : Binds K a.d_belongs ["pattern", "day"] []
  g_belongs : mg "belongs" = some (.ref a.f_belongs)
  F_read_integer : Fun K "read_integer" "read_integer" s_read_integer a.f_read_integer a.d_read_integer
  b_read_integer : Binds K a.d_read_integer ["word"] []
  g_read_integer : mg "read_integer" = some (.ref a.f_read_integer)
  F_Line_init : Fun K "__init__" "Line.__init__" s_Line_init a.f_Line_init a.d_Line_init
  b_Line_init : Binds K a.d_Line_init ["self", "text", "line"] []
  M_Line : Mk K a.C_Line a.f_Line_init
  F_Line_upcoming : Fun K "upcoming" "Line.upcoming" s_Line_upcoming a.f_Line_upcoming a.d_Line_upcoming
  b_Line_upcoming : Binds K a.d_Line_upcoming ["self"] []
  m_Line_upcoming : Meth K a.C_Line "upcoming" a.f_Line_upcoming
  F_Line_take_integer : Fun K "take_integer" "Line.take_integer" s_Line_take_integer a.f_Line_take_integer a.d_Line_take_integer
  b_Line_take_integer : Binds K a.d_Line_take_integer ["self", "least", "most"] []
  m_Line_take_integer : Meth K a.C_Line "take_integer" a.f_Line_take_integer
  F_pattern_text : Fun K "pattern_text" "pattern_text" s_pattern_text a.f_pattern_text a.d_pattern_text
  b_pattern_text : Binds K a.d_pattern_text ["pattern"] []
  g_pattern_text : mg "pattern_text" = some (.ref a.f_pattern_text)
  F_take_residues : Fun K "take_residues" "take_residues" s_take_residues a.f_take_residues a.d_take_residues
  b_take_residues : Binds K a.d_take_residues ["line", "period"] []
  g_take_residues : mg "take_residues" = some (.ref a.f_take_residues)
  F_read_pattern : Fun K "read_pattern" "read_pattern" s_read_pattern a.f_read_pattern a.d_read_pattern
  b_read_pattern : Binds K a.d_read_pattern ["text"] []
  g_read_pattern : mg "read_pattern" = some (.ref a.f_read_pattern)
  F_law_draw : Fun K "_law_draw" "_law_draw" s_law_draw a.f_law_draw a.d_law_draw
  b_law_draw : Binds K a.d_law_draw ["tape", "many"] []
  g_law_draw : mg "_law_draw" = some (.ref a.f_law_draw)
  F_law_tape : Fun K "_law_tape" "_law_tape" s_law_tape a.f_law_tape a.d_law_tape
  b_law_tape : Binds K a.d_law_tape ["script"] []
  g_law_tape : mg "_law_tape" = some (.ref a.f_law_tape)
  F_law_mod : Fun K "_law_mod" "_law_mod" s_law_mod a.f_law_mod a.d_law_mod
  b_law_mod : Binds K a.d_law_mod ["a", "n"] []
  g_law_mod : mg "_law_mod" = some (.ref a.f_law_mod)
  F_law_subset : Fun K "_law_subset" "_law_subset" s_law_subset a.f_law_subset a.d_law_subset
  b_law_subset : Binds K a.d_law_subset ["tape", "size", "most"] []
  g_law_subset : mg "_law_subset" = some (.ref a.f_law_subset)
  F_law_pieces : Fun K "_law_pieces" "_law_pieces" s_law_pieces a.f_law_pieces a.d_law_pieces
  b_law_pieces : Binds K a.d_law_pieces ["tape"] []
  g_law_pieces : mg "_law_pieces" = some (.ref a.f_law_pieces)
  F_law_in : Fun K "_law_in" "_law_in" s_law_in a.f_law_in a.d_law_in
  b_law_in : Binds K a.d_law_in ["pieces", "day"] []
  g_law_in : mg "_law_in" = some (.ref a.f_law_in)
  F_law_told : Fun K "_law_told" "_law_told" s_law_told a.f_law_told a.d_law_told
  b_law_told : Binds K a.d_law_told ["text"] []
  g_law_told : mg "_law_told" = some (.ref a.f_law_told)
  F_law_wrong : Fun K "_law_wrong" "_law_wrong" s_law_wrong a.f_law_wrong a.d_law_wrong
  b_law_wrong : Binds K a.d_law_wrong ["rows"] []
  g_law_wrong : mg "_law_wrong" = some (.ref a.f_law_wrong)
  F_law : Fun K "law" "law" s_law a.f_law a.d_law
  b_law : Binds K a.d_law ["script"] []
  g_law : mg "law" = some (.ref a.f_law)
  c_Line : Cls K a.C_Line
  g_Line : mg "Line" = some (.ref a.C_Line)
  n_Line_words : NoAttr K a.C_Line "words"
  n_Line_line : NoAttr K a.C_Line "line"
  n_Line_place : NoAttr K a.C_Line "place"
  g_BadText : mg "BadText" = some (.ref a.C_BadText)
  r_BadText : PySem.W.subIn K (.ref a.C_BadText) (.type "BaseException") = some true
  t_BadText : PySem.W.typeIn K (.ref a.C_BadText) = some (.type "type")
  k_BadText : PySem.W.keepIn K (.ref a.C_BadText) = true
  x_BadText : OexC K a.C_BadText
  y_BadText : XfC K a.C_BadText
  i_BadText : PySem.W.findIn K (.ref a.C_BadText) "__init__" = some (some (.ref a.f_BadText_init))
  u_BadText : PySem.W.typeIn K (.ref a.f_BadText_init) = some (.type "function")
  n_BadText_line : PySem.W.findIn K (.ref a.C_BadText) "line" = some none
  n_BadText_word : PySem.W.findIn K (.ref a.C_BadText) "word" = some none
  e_BadText_BadText : PySem.W.exmOne K (.ref a.C_BadText) (.ref a.C_BadText) = some true
  g_DaysError : mg "DaysError" = some (.ref a.C_DaysError)
  B_DaysError : BaseInit K a.C_DaysError a.M_DaysError
  z_len : mg "len" = none
  z_int : mg "int" = none
  z_str : mg "str" = none
  z_list : mg "list" = none
  z_range : mg "range" = none
  z_all : mg "all" = none
  z_tuple : mg "tuple" = none
  z_set : mg "set" = none
  z_sorted : mg "sorted" = none
  z_enumerate : mg "enumerate" = none
  g_DIGITS : ∃ u, mg "DIGITS" = some u ∧ RelV (.str "0123456789") u
  g_DIGITS_MOST : ∃ u, mg "DIGITS_MOST" = some u ∧ RelV (.int 18) u
  g_RESIDUES_MOST : ∃ u, mg "RESIDUES_MOST" = some u ∧ RelV (.int 200000) u
  g_PERIOD_MOST : ∃ u, mg "PERIOD_MOST" = some u ∧ RelV (.int 1000000000000) u
section
variable {P : Program} {w : World} {K : PySem.W.Frag} {mg : Str → Option Value} {base : Heap} {a : Adr}
theorem two_le : 2 ≤ sizeLine := by decide
theorem same_new {H : Hp} {p : Addr} {o : HO} (h : H p = none) : Same H (upd H p o) := fun b x e => by
  rw [upd_ne (ne_of_none e h)]; exact e
/-- the tape: its cells, its place, what is left -/
abbrev tp (c : Addr) (k r : Int) : HO := .lst [.ref c, .int k, .int r]
def sp_law_draw (K : PySem.W.Frag) : Sp := fun vs H Q _ => ∃ (t c : Addr) (m k r : Int) (ns : List Int), vs = [.ref t, .int m] ∧ 0 < m ∧ m < 1073741824 ∧ H t = some (tp c k r) ∧ H c = some (.lst (ns.map V.int)) ∧ 0 ≤ k ∧ 0 ≤ r ∧
  ∀ (d k' r' : Int), 0 ≤ d → d < m → 0 ≤ k' → 0 ≤ r' → Q (.int d) (upd H t (tp c k' r'))
theorem ok_law_draw (T : Txt K mg a) : FnOk P w K mg base CX0 1 a.f_law_draw a.d_law_draw ["tape", "many"] (sp_law_draw K) := by
  refine T.F_law_draw.ok sc_law_draw (fun vs H Q E h => ?_) (fun cdv A outer s H vs Q E hr h => ?_)
  · obtain ⟨t, c, m, k, r, ns, rfl, _⟩ := h
    rfl
  · obtain ⟨t, c, m, k, r, ns, rfl, m0, m1, ht, hc, k0, r0, q⟩ := h
    refine ⟨_, (C8.pss_cut (ps_if (pt_cmpR op_lt (pe_ix ix_list (pv 0) pe_int (fun _ _ => rfl)) (pv 1) (nomark _))
       (pss_cons (ps_set (i := 2) sc_law_draw.nd rfl (.inl rfl) (pe_ix ix_list (pv 0) pe_int (fun _ _ => rfl)))
       (pss_cons (ps_set (i := 3) sc_law_draw.nd rfl (.inl rfl) (pe_ix ix_list (pv 0) pe_int (fun _ _ => rfl)))
       (pss_cons (ps_set (i := 4) sc_law_draw.nd rfl (.inl rfl) pe_int)
       (C8.pss_cut (ps_if (pt_cmpR op_lt (pv 3) (pe_callB call_len_seq (by rfl) T.z_len (by decide +kernel) (pa_cons (pv 2) pa_nil)) (nomark _))
       (pss_one (ps_set (i := 4) sc_law_draw.nd rfl (.inl rfl) (pe_ix ix_list (pv 2) (pv 3) (fun _ _ => rfl))))
       pss_nil)
       (C8.pss_cut (ps_if (pt_cmpR op_lt (pv 4) pe_int (nomark _))
       (pss_one (ps_set (i := 4) sc_law_draw.nd rfl (.inl rfl) (pe_op op_sub (pe_op op_mul (pe_un un_neg pe_int) (pv 4)) pe_int)))
       pss_nil)
       (C8.pss_cut (ps_if (pt_cmpR op_lt (pv 4) (pe_op op_pow pe_int pe_int) (nomark _))
       (pss_cons (ps_set (i := 4) sc_law_draw.nd rfl (.inl rfl) (pe_op op_modE (pe_callTy call_int1 (by rfl) T.z_int (by decide +kernel) (pa_cons (pe_op op_add (pe_op op_add (pe_op op_mul (pv 4) pe_int) (pe_op op_mul (pv 3) pe_int)) pe_int) pa_nil)) pe_int))
       (pss_one (ps_set (i := 4) sc_law_draw.nd rfl (.inl rfl) (pe_op op_modE (pe_callTy call_int1 (by rfl) T.z_int (by decide +kernel) (pa_cons (pe_op op_add (pe_op op_add (pe_op op_mul (pv 4) pe_int) (pe_op op_mul (pv 3) pe_int)) pe_int) pa_nil)) pe_int))))
       pss_nil)
       (pss_cons (ps_asg (pe_op op_add (pv 3) pe_int) (pg_sub (pv 0) pe_int set_list))
       (pss_one (ps_asg (pv 4) (pg_sub (pv 0) pe_int set_list))))))))))
       pss_nil)
       (pss_cons (ps_set (i := 5) sc_law_draw.nd rfl (.inl rfl) (pe_op op_modE (pe_callTy call_int1 (by rfl) T.z_int (by decide +kernel) (pa_cons (pe_ix ix_list (pv 0) pe_int (fun _ _ => rfl)) pa_nil)) (pv 1)))
       (pss_cons (ps_asg (pe_op op_fdivE (pe_ix ix_list (pv 0) pe_int (fun _ _ => rfl)) (pv 1)) (pg_sub (pv 0) pe_int set_list))
       (pss_one (ps_ret (pv 5)))))), ?_⟩
    refine red (σ' := [some (.ref t), some (.int m), none, none, none, none]) rfl ?_
    dsimp only [cxOf]
    have htc : c ≠ t := ne_of hc ht (by intro z; unfold tp at z; cases ns <;> simp at z)
    refine ⟨fun σ' H' => ∃ (k' r' : Int) (x2 x3 x4 x5 : Option V), 0 ≤ k' ∧ 0 ≤ r' ∧ σ' = [some (.ref t), some (.int m), x2, x3, x4, x5] ∧ H' = upd H t (tp c k' r'), ?_, ?_⟩
    · walk_at "go"
      refine iteK (fun h1 => ?_) (fun h1 => ?_)
      · walk_at "go"
        refine ⟨fun σ' H' => ∃ z : Int, σ' = [some (.ref t), some (.int m), some (.ref c), some (.int k), some (.int z), none] ∧ H = H', ?_, ?_⟩
        · walk_at "go"
          refine iteK (fun h2 => ?_) (fun h2 => ?_)
          · walk_at "go"
            rw [List.length_map] at h2
            obtain ⟨j, rfl⟩ := Int.eq_ofNat_of_zero_le k0
            have hj : j < ns.length := by omega
            refine g_ixL (v := .int ns[j]) (SqL.of hc) (atI_nat (by rw [List.getElem?_map, List.getElem?_eq_getElem hj]; rfl)) ?_
            walk_at "go"
            exact ⟨_, rfl, rfl⟩
          · walk_at "go"
            exact ⟨_, rfl, rfl⟩
        · rintro σ' H' ⟨z, rfl, rfl⟩
          refine ⟨fun σ' H' => ∃ z : Int, 0 ≤ z ∧ σ' = [some (.ref t), some (.int m), some (.ref c), some (.int k), some (.int z), none] ∧ H = H', ?_, ?_⟩
          · walk_at "go"
            refine iteK (fun h2 => ?_) (fun h2 => ?_)
            · walk_at "go"
              exact ⟨_, by omega, rfl, rfl⟩
            · walk_at "go"
              exact ⟨_, by omega, rfl, rfl⟩
          · rintro σ' H' ⟨z, z0, rfl, rfl⟩
            refine ⟨fun σ' H' => ∃ z : Int, 0 ≤ z ∧ σ' = [some (.ref t), some (.int m), some (.ref c), some (.int k), some (.int z), none] ∧ H = H', ?_, ?_⟩
            · walk_at "go"
              refine iteK (fun h2 => ?_) (fun h2 => ?_)
              · walk_at "go"
                exact ⟨_, by omega, rfl, rfl⟩
              · walk_at "go"
                exact ⟨_, by omega, rfl, rfl⟩
            · rintro σ' H' ⟨z, z0, rfl, rfl⟩
              walk_at "go"
              exact ⟨k + 1, z, _, _, _, _, by omega, z0, rfl, by rw [upd_upd]; rfl⟩
      · walk_at "go"
        exact ⟨k, r, _, _, _, _, k0, r0, rfl, by funext b; unfold upd; split <;> simp_all⟩
    · rintro σ' H' ⟨k', r', x2, x3, x4, x5, k0', r0', rfl, rfl⟩
      walk_at "go"
      rw [upd_upd]
      exact q _ _ _ (Int.emod_nonneg _ (by omega)) (Int.emod_lt_of_pos _ m0) k0' (Int.ediv_nonneg r0' (by omega))
def sp_law_tape (K : PySem.W.Frag) : Sp := fun vs H Q _ => ∃ (b : Addr) (xs : List V), vs = [.ref b] ∧ SqL K H b xs ∧ xs.length < 100 ∧
  ∀ t c, H c = none → H t = none → c ≠ t → Q (.ref t) (upd (upd H c (.lst xs)) t (tp c 0 0))
theorem ok_law_tape (T : Txt K mg a) : FnOk P w K mg base CX0 1 a.f_law_tape a.d_law_tape ["script"] (sp_law_tape K) := by
  refine T.F_law_tape.ok sc_law_tape (fun vs H Q E h => ?_) (fun cdv A outer s H vs Q E hr h => ?_)
  · obtain ⟨b, xs, rfl, _⟩ := h
    rfl
  · obtain ⟨b, xs, rfl, hb, hl, q⟩ := h
    refine ⟨_, (pss_one (ps_ret (pe_lst (pa_cons (pe_callTy call_list_of (by rfl) T.z_list (by decide +kernel) (pa_cons (pv 0) pa_nil)) (pa_cons pe_int (pa_cons pe_int pa_nil)))))), ?_⟩
    refine red (σ' := [some (.ref b)]) rfl ?_
    dsimp only [cxOf]
    walk_at "go"
    intro c hc
    walk_at "go"
    refine ⟨by show 3 ≤ sizeLine; decide, fun t ht => ?_⟩
    have ct : c ≠ t := fun e => by rw [← e, upd_same] at ht; cases ht
    rw [upd_ne ct.symm] at ht
    exact q t c hc ht ct
end
def RelT (t : Addr) (H H' : Hp) : Prop := ∀ b o, b ≠ t → H b = some o → H' b = some o
theorem RelT.refl (t : Addr) (H : Hp) : RelT t H H := fun _ _ _ h => h
theorem RelT.of {t : Addr} {H H' : Hp} (h : Same H H') : RelT t H H' := fun b o _ e => h b o e
theorem RelT.trans {t : Addr} {H H1 H2 : Hp} (h : RelT t H H1) (g : RelT t H1 H2) : RelT t H H2 := fun b o n e => g b o n (h b o n e)
/-! ### the tape -/
def Tp (t c : Addr) (ns : List Int) (H : Hp) : Prop := (∃ k r, 0 ≤ k ∧ 0 ≤ r ∧ H t = some (tp c k r)) ∧ H c = some (.lst (ns.map V.int))
theorem Tp.same {t c : Addr} {ns : List Int} {H H' : Hp} (h : Tp t c ns H) (g : Same H H') : Tp t c ns H' := by
  obtain ⟨⟨k, r, k0, r0, ht⟩, hc⟩ := h
  exact ⟨⟨k, r, k0, r0, g _ _ ht⟩, g _ _ hc⟩
theorem Tp.new {t c : Addr} {ns : List Int} {H : Hp} (h : Tp t c ns H) {p : Addr} {o : HO} (hp : H p = none) : Tp t c ns (upd H p o) := h.same (same_new hp)
theorem ne_ints {c k r} {ns : List Int} : HO.lst (ns.map V.int) ≠ tp c k r := by intro z; unfold tp at z; cases ns <;> simp at z
theorem Tp.draw {K : PySem.W.Frag} {t c : Addr} {ns : List Int} {H : Hp} (I : Tp t c ns H) {n : Int} (n0 : 0 < n) (n1 : n < 1073741824) {Q : VK} {X : XK}
    (q : ∀ d H', 0 ≤ d → d < n → Tp t c ns H' → RelT t H H' → Q (.int d) H') : sp_law_draw K [.ref t, .int n] H Q X := by
  obtain ⟨⟨k, r, k0, r0, ht⟩, hc⟩ := I
  exact ⟨t, c, n, k, r, ns, rfl, n0, n1, ht, hc, k0, r0, fun d k' r' d0 d1 k0' r0' => q d _ d0 d1 ⟨⟨k', r', k0', r0', upd_same⟩, (upd_ne (ne_of hc ht ne_ints)).trans hc⟩ fun b o hb h => (upd_ne hb).trans h⟩
theorem Tp.ne {t c : Addr} {ns : List Int} {H : Hp} (I : Tp t c ns H) {b : Addr} {o : HO} (h : H b = some o) (hn : ∀ k r, o ≠ tp c k r) : b ≠ t := by
  obtain ⟨⟨k, r, _, _, ht⟩, _⟩ := I
  exact ne_of h ht (hn k r)
theorem Tp.ne_none {t c : Addr} {ns : List Int} {H : Hp} (I : Tp t c ns H) {b : Addr} (h : H b = none) : b ≠ t := by
  obtain ⟨⟨k, r, _, _, ht⟩, _⟩ := I
  exact (ne_of_none ht h).symm
theorem Tp.made {t c : Addr} {ns : List Int} {H : Hp} (hc : H c = none) (ht : H t = none) (ct : c ≠ t) : Tp t c ns (upd (upd H c (.lst (ns.map V.int))) t (tp c 0 0)) :=
  ⟨⟨0, 0, by decide, by decide, upd_same⟩, (upd_ne ct).trans upd_same⟩
section
variable {P : Program} {w : World} {K : PySem.W.Frag} {mg : Str → Option Value} {base : Heap} {a : Adr}
theorem i_if {c : Prop} [Decidable c] {A B : Prop} (h1 : c → A) (h2 : ¬ c → B) : if c then A else B := by
  by_cases h : c
  · rw [if_pos h]; exact h1 h
  · rw [if_neg h]; exact h2 h
/-- a test told by a Bool -/
theorem iteB {b : Bool} {A B : Prop} (h1 : b = true → A) (h2 : b = false → B) : if b = true then A else B := by
  cases b with
  | true => exact h1 rfl
  | false => exact h2 rfl
theorem dec_int (i j : Int) : decide (V.int i = V.int j) = decide (i = j) := by
  by_cases h : i = j
  · subst h; simp
  · have : ¬ V.int i = V.int j := fun z => h (by cases z; rfl)
    rw [decide_eq_false this, decide_eq_false h]
theorem dec_str (x y : List Nat) : decide (V.str (S x) = V.str (S y)) = decide (x = y) := by
  by_cases h : x = y
  · subst h; simp
  · have : ¬ V.str (S x) = V.str (S y) := fun z => h (S_inj (by cases z; rfl))
    rw [decide_eq_false this, decide_eq_false h]
theorem in_digits (c : Nat) : decide (c ∈ [48, 49, 50, 51, 52, 53, 54, 55, 56, 57]) = (decide (48 ≤ c) && decide (c ≤ 57)) := by
  by_cases h : 48 ≤ c ∧ c ≤ 57
  · rw [decide_eq_true h.1, decide_eq_true h.2]
    have : c = 48 ∨ c = 49 ∨ c = 50 ∨ c = 51 ∨ c = 52 ∨ c = 53 ∨ c = 54 ∨ c = 55 ∨ c = 56 ∨ c = 57 := by omega
    rcases this with r | r | r | r | r | r | r | r | r | r <;> subst r <;> rfl
  · have h2 : (decide (48 ≤ c) && decide (c ≤ 57)) = false := by
      rw [Bool.and_eq_false_iff, decide_eq_false_iff_not, decide_eq_false_iff_not]
      omega
    rw [h2, decide_eq_false_iff_not]
    intro hm
    simp only [List.mem_cons, List.not_mem_nil, or_false] at hm
    omega
theorem all_id {α : Type} (f : α → Bool) : ∀ l : List α, (l.map f).all id = l.all f
  | [] => rfl
  | x :: l => by rw [List.map_cons, List.all_cons, List.all_cons, all_id f l]; rfl
theorem take_more {α : Type} : ∀ {l : List α} {i : Nat} {x : α}, l[i]? = some x → l.take (i + 1) = l.take i ++ [x]
  | [], i, x, h => by simp at h
  | a :: l, 0, x, h => by cases h; rfl
  | a :: l, i + 1, x, h => by
    show a :: l.take (i + 1) = a :: l.take i ++ [x]
    rw [take_more (l := l) (i := i) (x := x) h]; rfl
theorem digs {σ : L2.St} {i j : Nat} {l : List Nat} {H : Hp} {Q : VK} (hl : l.length ≤ 900000) (hj : σ[j]? = some (some (.str (S l)))) (h1 : ∀ x : V, wipe ((wipe σ [i]).set i (some x)) [i] = wipe σ [i]) (h2 : ∀ x : V, ((wipe σ [i]).set i (some x))[i]? = some (some x))
    (q : ∀ D H', Same H H' → H' D = some (.lst ((l.map fun c => decide (48 ≤ c) && decide (c ≤ 57)).map V.bl)) → Q (.ref D) H') :
    tLc (iStr (tVar j)) (gName i) tYes (tOp (fun x y H Q => ∃ (c : Nat) (z : Str), x = .str ⟨#[c]⟩ ∧ y = .str z ∧ Q (.bl (decide (c ∈ z.cps.toList))) H) (tVar i) (tC (.str "0123456789"))) [i] σ H Q := by
  refine g_lc (g_istr (g_var hj ⟨S l, rfl, fun D hD => ?_⟩))
  have hsz : (S l).cps.size = l.length := S_len l
  refine lc_it walk_str (fun i H' => Same H H' ∧ H' D = some (.lst (((l.take i).map fun c => decide (48 ≤ c) && decide (c ≤ 57)).map V.bl))) ⟨same_new hD, upd_same⟩ (fun _ _ _ _ => trivial) ?_ ?_
  · rintro k x H1 H2 hi ⟨sm, hL⟩ ⟨rfl, c, hc, rfl⟩
    have hc' : l[k]? = some c := by simpa using hc
    refine g_name ⟨h1 _, g_yes (iteT (g_op (g_var (h2 _) (g_c ⟨c, _, rfl, rfl, ?_⟩))))⟩
    have e1 : decide (c ∈ (Str.ofString "0123456789").cps.toList) = (decide (48 ≤ c) && decide (c ≤ 57)) := in_digits c
    rw [e1]
    refine ⟨_, hL, ?_, fun b o hb => ?_, ?_⟩
    · have := sizeBig
      rw [List.length_map, List.length_map, List.length_take]
      omega
    · rw [upd_ne (ne_of_none hb hD)]; exact sm b o hb
    · rw [upd_same, take_more hc', List.map_append, List.map_append]; rfl
  · rintro H1 ⟨sm, hL⟩
    rw [hsz, List.take_length] at hL
    exact q D H1 sm hL
theorem isDig_all {l : List Nat} (hn : l ≠ []) : (l.map fun c => decide (48 ≤ c) && decide (c ≤ 57)).all id = Dg.isDig l := by
  rw [all_id]
  unfold Dg.isDig
  cases l with
  | nil => exact absurd rfl hn
  | cons x l => rfl
end
section
variable {P : Program} {w : World} {K : PySem.W.Frag} {mg : Str → Option Value} {base : Heap} {a : Adr}
theorem lk_hd {f : Str} {v : V} {r : List (Str × V)} : List.lookup f ((f, v) :: r) = some v := by simp [List.lookup]
theorem lk_tl {f g : Str} {v : V} {r : List (Str × V)} (h : ¬ f = g) : List.lookup f ((g, v) :: r) = List.lookup f r := by
  have e : (f == g) = false := by simpa using h
  simp [List.lookup, e]
abbrev bx (l w : Int) : List (Str × V) := [("word", .int w), ("line", .int l)]
theorem bx_word (l w : Int) : List.lookup ("word" : Str) (bx l w) = some (.int w) := lk_hd
theorem bx_line (l w : Int) : List.lookup ("line" : Str) (bx l w) = some (.int l) := by
  rw [lk_tl (by decide +kernel)]; exact lk_hd
def sp_BadText_init (K : PySem.W.Frag) : Sp := fun vs H Q _ => ∃ (x C : Addr) (l w : Int), vs = [.ref x, .int l, .int w] ∧ l.natAbs < 10 ^ 60 ∧ w.natAbs < 10 ^ 60 ∧ OexC K C ∧ PySem.W.findIn K (.ref C) "line" = some none ∧ PySem.W.findIn K (.ref C) "word" = some none ∧ H x = some (exo x C none) ∧
  ∀ d, H d = none → d ≠ x → Q .non (upd (upd (upd H d (exd d [("line", .int l)])) x (exo x C (some d))) d (exd d (bx l w)))
theorem int_text_len {n : Int} (h : n.natAbs < 10 ^ 60) : (Str.ofString (toString n)).length ≤ 70 := by
  obtain ⟨k, hk⟩ | ⟨k, hk⟩ : (∃ k : Nat, n = k) ∨ (∃ k : Nat, n = -((k : Int) + 1)) := by
    rcases Int.lt_or_le n 0 with h0 | h0
    · exact .inr ⟨(-n - 1).toNat, by omega⟩
    · exact .inl ⟨n.toNat, by omega⟩
  · subst hk
    rw [num_S, S_len]
    have := TL.numL_len (k := 60) (n := k) (by decide) (by omega)
    omega
  · subst hk
    have e : (toString (-((k : Int) + 1)) : String) = "-" ++ toString ((k + 1 : Nat) : Int) := by
      have : -((k : Int) + 1) = Int.negSucc k := by omega
      rw [this]; rfl
    rw [e]
    have e2 : Str.ofString ("-" ++ toString ((k + 1 : Nat) : Int)) = S ([45] ++ TL.numL (k + 1)) := by
      rw [← S_cat, ← num_S]
      exact TL.ext_tl (by rw [TL.tl_append]; first | rfl | simp [TL.tl, Str.ofString])
    rw [e2, S_len]
    have := TL.numL_len (k := 60) (n := k + 1) (by decide) (by omega)
    rw [List.length_append]
    show 1 + _ ≤ 70
    omega
theorem ok_BadText_init (T : Txt K mg a) : FnOk P w K mg base CX0 1 a.f_BadText_init a.d_BadText_init ["self", "line", "word"] (sp_BadText_init K) := by
  refine T.F_BadText_init.ok sc_BadText_init (fun vs H Q E h => ?_) (fun cdv A outer s H vs Q E hr h => ?_)
  · obtain ⟨x, C, l, w, rfl, _⟩ := h
    rfl
  · obtain ⟨x, C, l, v, rfl, hl, hw, hC, n1, n2, hx, q⟩ := h
    refine ⟨_, (pss_cons (ps_expr (pe_deinit (by rfl) T.g_DaysError T.B_DaysError (pa_cons (pv 0) (pa_cons (pe_joined (PJ.cons pe_str (PJ.cons (pe_fmt (pv 1)) (PJ.cons pe_str (PJ.cons (pe_fmt (pv 2)) PJ.nil))))) pa_nil))))
       (pss_cons (ps_ost (pv 0) (pv 1))
       (pss_one (ps_ost (pv 0) (pv 2))))), ?_⟩
    refine red (σ' := [some (.ref x), some (.int l), some (.int v)]) rfl ?_
    try dsimp only [cxOf]
    have t1 := int_text_len hl
    have t2 := int_text_len hw
    have e2 : sizeLine = 16777216 := sizeLine_eq
    have c1 : (Str.ofString "line ").length = 5 := by decide +kernel
    have c2 : (Str.ofString ", word ").length = 7 := by decide +kernel
    have c0 : (Str.empty).length = 0 := by decide +kernel
    walk_at "go"
    refine ⟨_, rfl, by rw [strLen_append]; omega, ?_⟩
    walk_at "go"
    refine .inr ⟨l, rfl, log_ok hl, ?_⟩
    refine ⟨_, rfl, by rw [strLen_append, strLen_append]; omega, ?_⟩
    walk_at "go"
    refine ⟨_, rfl, by rw [strLen_append, strLen_append, strLen_append]; omega, ?_⟩
    walk_at "go"
    refine .inr ⟨v, rfl, log_ok hw, ?_⟩
    refine ⟨_, rfl, by rw [strLen_append, strLen_append, strLen_append, strLen_append]; omega, ?_⟩
    walk_at "go"
    refine ⟨x, C, _, rfl, by show 1 ≤ 1000; decide, hC, hx, ?_⟩
    walk_at "go"
    refine ⟨x, C, rfl, hC, n1, .inl ⟨hx, fun d hd hne => ?_⟩⟩
    walk_at "go"
    refine ⟨x, C, rfl, hC, n2, .inr ⟨d, [("line", .int l)], upd_same, (upd_ne hne).trans upd_same, by show 1 ≤ 900; decide, ?_⟩⟩
    exact q d hd hne
/-- an error BadText(l, w) -/
def BadAt (C : Addr) (E : XK) (H : Hp) (l w : Int) : Prop := ∀ d, H d = none → E (.ref C) (some d) (upd H d (.xd (bx l w)))
theorem mk_bad (T : Txt K mg a) {H : Hp} {l v : Int} {R : XK} (hl : l.natAbs < 10 ^ 60) (hv : v.natAbs < 10 ^ 60) (q : BadAt a.C_BadText R H l v) :
    [V.int l, V.int v].length ≤ 1000 ∧ ∀ x, H x = none → sp_BadText_init K (.ref x :: ([V.int l, V.int v] ++ [])) (upd H x (exo x a.C_BadText none))
      (fun v H2 => v = .non ∧ ∃ (d : Addr) (fs : List (Str × V)), H2 x = some (exo x a.C_BadText (some d)) ∧ H2 d = some (exd d fs) ∧ H d = none ∧ R (.ref a.C_BadText) (some d) (upd (del H2 x) d (.xd fs))) (fun _ _ _ => False) := by
  refine ⟨by show 2 ≤ 1000; decide, fun x hx => ⟨x, a.C_BadText, l, v, rfl, hl, hv, T.x_BadText, T.n_BadText_line, T.n_BadText_word, upd_same, fun d hd hne => ⟨rfl, d, bx l v, (upd_ne hne.symm).trans upd_same, upd_same, ?_, ?_⟩⟩⟩
  · rw [upd_ne hne] at hd; exact hd
  · have hd' : H d = none := by rw [upd_ne hne] at hd; exact hd
    have e : upd (del (upd (upd (upd (upd H x (exo x a.C_BadText none)) d (exd d [("line", V.int l)])) x (exo x a.C_BadText (some d))) d (exd d (bx l v))) x) d (.xd (bx l v)) = upd H d (.xd (bx l v)) := by
      funext b
      by_cases h1 : b = d
      · rw [h1, upd_same, upd_same]
      · rw [upd_ne h1, upd_ne h1]
        by_cases h2 : b = x
        · rw [h2, del_same, hx]
        · rw [del_ne h2, upd_ne h1, upd_ne h2, upd_ne h1, upd_ne h2]
    rw [e]
    exact q d hd'
end
section
variable {P : Program} {w : World} {K : PySem.W.Frag} {mg : Str → Option Value} {base : Heap} {a : Adr}
/-! ### primes, places, repeating -/
abbrev ni (l : List Nat) : List V := l.map fun (q : Nat) => V.int (q : Int)
theorem ni_at {l : List Nat} {i : Nat} (h : i < l.length) : atI (ni l) ((i : Nat) : Int) = some (.int (l[i] : Nat)) := atI_nat (by rw [List.getElem?_map, List.getElem?_eq_getElem h]; rfl)
def sp_primes_of : Sp := fun vs H Q _ => ∃ n : Nat, vs = [.int n] ∧ 1 ≤ n ∧ n < 1073741824 ∧ ∀ L H', H L = none → Same H H' → H' L = some (.lst (ni (Per.primes n))) → Q (.ref L) H'
theorem ok_primes_of (T : Txt K mg a) : FnOk P w K mg base CX0 1 a.f_primes_of a.d_primes_of ["n"] sp_primes_of := by
  refine T.F_primes_of.ok sc_primes_of (fun vs H Q E h => ?_) (fun cdv A outer s H vs Q E hr h => ?_)
  · obtain ⟨n, rfl, _⟩ := h
    rfl
  · obtain ⟨n0, rfl, n1, n2, q⟩ := h
    refine ⟨_, (pss_cons (ps_set (i := 1) sc_primes_of.nd rfl (.inl rfl) (pe_lst pa_nil))
       (pss_cons (ps_set (i := 2) sc_primes_of.nd rfl (.inl rfl) pe_int)
       (pss_cons (ps_while PassesOwn.never (pt_cmpR op_le (pe_op op_mul (pv 2) (pv 2)) (pv 0) (nomark _))
       (C8.pss_cut (ps_if (pt_cmpR op_eq (pe_op op_modE (pv 0) (pv 2)) pe_int (nomark _))
       (pss_cons (ps_expr (pe_bm PySem.F.plainAttrs_list PySem.F.slot_list_append PySem.F.type_list_append mt_append (pv 1) (pa_cons (pv 2) pa_nil)))
       (pss_one (ps_while PassesOwn.never (pt_cmpR op_eq (pe_op op_modE (pv 0) (pv 2)) pe_int (nomark _))
       (pss_one (ps_aug (i := 0) sc_primes_of.nd rfl (.inl rfl) (pv 2) ip_fdiv)))))
       pss_nil)
       (pss_one (ps_aug (i := 2) sc_primes_of.nd rfl (.inl rfl) pe_int ip_add))))
       (C8.pss_cut (ps_if (pt_cmpR op_gt (pv 0) pe_int (nomark _))
       (pss_one (ps_expr (pe_bm PySem.F.plainAttrs_list PySem.F.slot_list_append PySem.F.type_list_append mt_append (pv 1) (pa_cons (pv 0) pa_nil))))
       pss_nil)
       (pss_one (ps_ret (pv 1))))))), ?_⟩
    refine red (σ' := [some (.int n0), none, none]) rfl ?_
    try dsimp only [cxOf]
    walk_at "go"
    refine nwL (ys := []) rfl (by decide) fun L H1 hL sm hLL => ?_
    walk_at "go"
    refine ⟨fun m σ' H' => ∃ (n p : Nat) (fd : List Nat), σ' = [some (.int n), some (.ref L), some (.int p)] ∧ Same H H' ∧ H' L = some (.lst (ni fd)) ∧ 2 ≤ p ∧ 1 ≤ n ∧ n ≤ n0 ∧ p ≤ n0 + 2 ∧ fd.length ≤ p ∧ fd.length ≤ 32768 ∧ Per.prGo p n fd = Per.primes n0 ∧ m = n0 + 3 - p,
      ⟨_, n0, 2, [], rfl, sm, hLL, Nat.le_refl _, n1, Nat.le_refl _, by omega, by decide, by decide, rfl, rfl⟩, ?_⟩
    rintro m σ' H2 ⟨n, p, fd, rfl, sm2, hL2, p2, n3, n4, p3, hf, hf2, hg, rfl⟩
    walk_at "go"
    refine iteK (fun h1 => ?_) (fun h1 => ?_)
    · have h1 : p * p ≤ n := by
        have h1 : (p : Int) * (p : Int) ≤ (n : Int) := h1
        exact_mod_cast h1
      have hpn := Per.sq_le h1 p2
      have hp15 : p < 32768 := Nat.lt_of_not_le fun z => by have := Nat.mul_le_mul z z; omega
      rw [Per.prGo, dif_pos ⟨p2, h1⟩] at hg
      refine ⟨fun σ' H' => ∃ (n' : Nat) (fd' : List Nat), σ' = [some (.int n'), some (.ref L), some (.int (p + 1 : Nat))] ∧ Same H H' ∧ H' L = some (.lst (ni fd')) ∧ 1 ≤ n' ∧ n' ≤ n0 ∧ fd'.length ≤ p + 1 ∧ fd'.length ≤ 32768 ∧ Per.prGo (p + 1) n' fd' = Per.primes n0, ?_, ?_⟩
      · rintro σ' H' ⟨n', fd', rfl, s3, hL3, a1, a2, a3, a4, a5⟩
        exact ⟨_, (by omega : n0 + 3 - (p + 1) < _), n', p + 1, fd', rfl, s3, hL3, by omega, a1, a2, by omega, a3, a4, a5, rfl⟩
      walk_at "go"
      refine ⟨fun σ' H' => ∃ (n' : Nat) (fd' : List Nat), σ' = [some (.int n'), some (.ref L), some (.int p)] ∧ Same H H' ∧ H' L = some (.lst (ni fd')) ∧ 1 ≤ n' ∧ n' ≤ n0 ∧ fd'.length ≤ p + 1 ∧ fd'.length ≤ 32768 ∧ Per.prGo (p + 1) n' fd' = Per.primes n0, ?_, ?_⟩
      · walk_at "go"
        rw [dec_int]
        refine iteK (fun h2 => ?_) (fun h2 => ?_)
        · have h2 : n % p = 0 := by exact_mod_cast h2
          rw [if_pos h2] at hg
          walk_at "go"
          refine ⟨.inl ⟨rfl, _, SqL.of hL2⟩, ?_⟩
          walk_at "go"
          refine ⟨L, _, _, rfl, rfl, hL2, by rw [List.length_map]; have := sizeBig; have := sizeLine_eq; omega, ?_⟩
          have hL3 : upd H2 L (.lst (ni fd ++ [V.int p])) L = some (.lst (ni (fd ++ [p]))) := by rw [upd_same, ni, ni, List.map_append]; rfl
          have sm3 : Same H (upd H2 L (.lst (ni fd ++ [V.int p]))) := same_put hL sm2
          generalize upd H2 L (.lst (ni fd ++ [V.int p])) = H3 at hL3 sm3
          refine ⟨fun m σ' H' => ∃ n' : Nat, σ' = [some (.int n'), some (.ref L), some (.int p)] ∧ H' = H3 ∧ 1 ≤ n' ∧ n' ≤ n0 ∧ Per.strip p n' = Per.strip p n ∧ n' = m, ⟨_, n, rfl, rfl, n3, n4, rfl, rfl⟩, ?_⟩
          rintro m σ' H' ⟨n', rfl, rfl, b1, b2, b3, rfl⟩
          walk_at "go"
          rw [dec_int]
          rw [Per.strip] at b3
          refine iteK (fun h3 => ?_) (fun h3 => ?_)
          · have h3 : n' % p = 0 := by exact_mod_cast h3
            rw [dif_pos ⟨p2, b1, h3⟩] at b3
            have hdv := Nat.div_lt_self (show 0 < n' by omega) (show 1 < p by omega)
            have hd1 : 1 ≤ n' / p := Nat.div_pos (Nat.le_of_dvd b1 (Nat.dvd_of_mod_eq_zero h3)) (by omega)
            refine ⟨fun σ' H'' => σ' = [some (.int (n' / p : Nat)), some (.ref L), some (.int p)] ∧ H'' = H', ?_, ?_⟩
            · rintro σ' H'' ⟨rfl, rfl⟩
              exact ⟨n' / p, hdv, n' / p, rfl, rfl, hd1, by omega, b3, rfl⟩
            walk_at "go"
            exact ⟨by rw [Int.natCast_ediv]; rfl, rfl⟩
          · have h3 : ¬ n' % p = 0 := fun z => h3 (by exact_mod_cast z)
            rw [dif_neg (fun z => h3 z.2.2)] at b3
            rw [← b3] at hg
            exact ⟨n', fd ++ [p], rfl, sm3, hL3, b1, b2, by rw [List.length_append, List.length_singleton]; omega, by rw [List.length_append, List.length_singleton]; omega, hg⟩
        · have h2 : ¬ n % p = 0 := fun z => h2 (by exact_mod_cast z)
          rw [if_neg h2] at hg
          walk_at "go"
          exact ⟨n, fd, rfl, sm2, hL2, n3, n4, by omega, hf2, hg⟩
      · rintro σ' H3 ⟨n', fd', rfl, s3, hL3, a1, a2, a3, a4, a5⟩
        walk_at "go"
        have e : ((p : Nat) : Int) + 1 = ((p + 1 : Nat) : Int) := by omega
        rw [e]
        exact ⟨n', fd', rfl, s3, hL3, a1, a2, a3, a4, a5⟩
    · have h1 : ¬ p * p ≤ n := fun z => h1 (by
        show (p : Int) * (p : Int) ≤ (n : Int)
        exact_mod_cast z)
      rw [Per.prGo, dif_neg (fun z => h1 z.2)] at hg
      walk_at "go"
      refine ⟨fun σ' H' => ∃ x : Option V, σ' = [some (.int n), some (.ref L), x] ∧ Same H H' ∧ H' L = some (.lst (ni (Per.primes n0))), ?_, ?_⟩
      · walk_at "go"
        refine iteK (fun h2 => ?_) (fun h2 => ?_)
        · rw [if_pos (by omega)] at hg
          walk_at "go"
          refine ⟨.inl ⟨rfl, _, SqL.of hL2⟩, ?_⟩
          walk_at "go"
          refine ⟨L, _, _, rfl, rfl, hL2, by rw [List.length_map]; have := sizeBig; have := sizeLine_eq; omega, ?_⟩
          refine ⟨_, rfl, same_put hL sm2, ?_⟩
          rw [upd_same, ← hg, ni, ni, List.map_append]; rfl
        · rw [if_neg (by omega)] at hg
          walk_at "go"
          exact ⟨_, rfl, sm2, by rw [← hg]; exact hL2⟩
      · rintro σ' H3 ⟨x, rfl, s3, hL3⟩
        walk_at "go"
        exact q L H3 hL s3 hL3
def sp_place_in (K : PySem.W.Frag) : Sp := fun vs H Q _ => ∃ (t : Addr) (R : List Nat) (r : Nat), vs = [.ref t, .int r] ∧ SqT K H t (ni R) ∧ R.length < 1000000 ∧ R.Pairwise (· < ·) ∧
  ∀ k : Nat, k ≤ R.length → (∀ (j x : Nat), R[j]? = some x → j < k → x < r) → (∀ (j x : Nat), R[j]? = some x → k ≤ j → r ≤ x) → Q (.int k) H
theorem ok_place_in (T : Txt K mg a) : FnOk P w K mg base CX0 1 a.f_place_in a.d_place_in ["residues", "r"] (sp_place_in K) := by
  refine T.F_place_in.ok sc_place_in (fun vs H Q E h => ?_) (fun cdv A outer s H vs Q E hr h => ?_)
  · obtain ⟨t, R, r, rfl, _⟩ := h
    rfl
  · obtain ⟨t, R, r, rfl, ht, hn, hs, q⟩ := h
    refine ⟨_, (pss_cons (ps_par (i := 2) (j := 3) rfl sc_place_in.nd rfl rfl (by decide) rfl rfl (pa_cons pe_int (pa_cons (pe_callB call_len_seq (by rfl) T.z_len (by decide +kernel) (pa_cons (pv 0) pa_nil)) pa_nil)) (by rfl))
       (pss_cons (ps_while PassesOwn.never (pt_cmpR op_lt (pv 2) (pv 3) (nomark _))
       (pss_cons (ps_set (i := 4) sc_place_in.nd rfl (.inl rfl) (pe_op op_fdivE (pe_op op_add (pv 2) (pv 3)) pe_int))
       (pss_one (ps_if (pt_cmpR op_lt (pe_ix ix_tup (pv 0) (pv 4) (fun _ _ => rfl)) (pv 1) (nomark _))
       (pss_one (ps_set (i := 2) sc_place_in.nd rfl (.inl rfl) (pe_op op_add (pv 4) pe_int)))
       (pss_one (ps_set (i := 3) sc_place_in.nd rfl (.inl rfl) (pv 4)))))))
       (pss_one (ps_ret (pv 2))))), ?_⟩
    refine red (σ' := [some (.ref t), some (.int r), none, none, none]) rfl ?_
    try dsimp only [cxOf]
    walk_at "go"
    refine ⟨_, _, rfl, ?_⟩
    walk_at "go"
    rw [List.length_map]
    have mono : ∀ (i j x y : Nat), R[i]? = some x → R[j]? = some y → i ≤ j → x ≤ y := by
      intro i j x y hx hy hij
      rcases Nat.lt_or_ge i j with h | h
      · obtain ⟨h1, rfl⟩ := List.getElem?_eq_some_iff.mp hx
        obtain ⟨h2, rfl⟩ := List.getElem?_eq_some_iff.mp hy
        exact Nat.le_of_lt (List.pairwise_iff_getElem.mp hs i j h1 h2 h)
      · have : i = j := by omega
        subst this
        rw [hx] at hy; cases hy; exact Nat.le_refl _
    refine ⟨fun m σ' H' => ∃ (lo hi : Nat) (x : Option V), σ' = [some (.ref t), some (.int r), some (.int lo), some (.int hi), x] ∧ H' = H ∧ lo ≤ hi ∧ hi ≤ R.length ∧ (∀ (j x : Nat), R[j]? = some x → j < lo → x < r) ∧ (∀ (j x : Nat), R[j]? = some x → hi ≤ j → r ≤ x) ∧ m = hi - lo,
      ⟨_, 0, R.length, _, rfl, rfl, Nat.zero_le _, Nat.le_refl _, fun j x _ h => absurd h (by omega), fun j x h1 h2 => absurd (List.getElem?_eq_some_iff.mp h1).1 (by omega), rfl⟩, ?_⟩
    rintro m σ' H' ⟨lo, hi, x, rfl, rfl, h1, h2, h3, h4, rfl⟩
    walk_at "go"
    refine iteK (fun h5 => ?_) (fun h5 => ?_)
    · have hm : (((lo : Nat) : Int) + (hi : Nat)) / 2 = (((lo + hi) / 2 : Nat) : Int) := by omega
      have hl : (lo + hi) / 2 < R.length := by omega
      refine ⟨fun σ' H'' => ∃ (lo' hi' : Nat) (x : Option V), σ' = [some (.ref t), some (.int r), some (.int lo'), some (.int hi'), x] ∧ H'' = H' ∧ lo' ≤ hi' ∧ hi' ≤ R.length ∧ (∀ (j x : Nat), R[j]? = some x → j < lo' → x < r) ∧ (∀ (j x : Nat), R[j]? = some x → hi' ≤ j → r ≤ x) ∧ hi' - lo' < hi - lo, ?_, ?_⟩
      · rintro σ' H'' ⟨lo', hi', x, rfl, rfl, a1, a2, a3, a4, a5⟩
        exact ⟨_, a5, lo', hi', x, rfl, rfl, a1, a2, a3, a4, rfl⟩
      walk_at "go"
      rw [hm]
      refine g_ixT ht (ni_at hl) ?_
      walk_at "go"
      have hx : R[(lo + hi) / 2]? = some R[(lo + hi) / 2] := List.getElem?_eq_getElem hl
      generalize R[(lo + hi) / 2] = y at hx
      refine iteK (fun h6 => ?_) (fun h6 => ?_)
      · walk_at "go"
        exact ⟨(lo + hi) / 2 + 1, hi, _, rfl, rfl, by omega, h2, fun j z hz hj => Nat.lt_of_le_of_lt (mono j _ z y hz hx (by omega)) (by omega), h4, by omega⟩
      · walk_at "go"
        exact ⟨lo, (lo + hi) / 2, _, rfl, rfl, by omega, by omega, h3, fun j z hz hj => Nat.le_trans (by omega : r ≤ y) (mono _ j y z hx hz hj), by omega⟩
    · walk_at "go"
      have e : lo = hi := by omega
      subst e
      exact q lo h2 h3 h4
def sp_has (K : PySem.W.Frag) : Sp := fun vs H Q _ => ∃ (p : Nat) (t : Addr) (R : List Nat) (d : Nat), vs = [.int p, .ref t, .int d] ∧ 1 ≤ p ∧ SqT K H t (ni R) ∧ R.length < 1000000 ∧ R.Pairwise (· < ·) ∧ Q (.bl (decide (d % p ∈ R))) H
theorem ok_has (T : Txt K mg a) : FnOk P w K mg base CX0 2 a.f_has a.d_has ["period", "residues", "d"] (sp_has K) := by
  refine T.F_has.ok sc_has (fun vs H Q E h => ?_) (fun cdv A outer s H vs Q E hr h => ?_)
  · obtain ⟨p, t, R, d, rfl, _⟩ := h
    rfl
  · obtain ⟨p, t, R, d, rfl, hp, ht, hn, hs, q⟩ := h
    refine ⟨_, (pss_cons (ps_set (i := 3) sc_has.nd rfl (.inl rfl) (pe_op op_modE (pv 2) (pv 0)))
       (pss_cons (ps_set (i := 4) sc_has.nd rfl (.inl rfl) (pe_call (ok_place_in T) (hr.mono (by decide)) (by rfl) T.g_place_in T.F_place_in.kp T.b_place_in .nil pass0 (pa_cons (pv 1) (pa_cons (pv 3) pa_nil))))
       (pss_one (ps_ret (pe_and (pe_cmpR op_lt (pv 4) (pe_callB call_len_seq (by rfl) T.z_len (by decide +kernel) (pa_cons (pv 1) pa_nil)) (nomark _)) (pe_one (pe_cmpR op_eq (pe_ix ix_tup (pv 1) (pv 4) (fun _ _ => rfl)) (pv 3) (nomark _)))))))), ?_⟩
    refine red (σ' := [some (.int p), some (.ref t), some (.int d), none, none]) rfl ?_
    try dsimp only [cxOf]
    walk_at "go"
    have em : ((d : Nat) : Int) % (p : Nat) = ((d % p : Nat) : Int) := (Int.natCast_emod d p).symm
    rw [em]
    generalize d % p = r at q
    refine ⟨t, R, r, rfl, ht, hn, hs, fun k hk h1 h2 => ?_⟩
    walk_at "go"
    rw [List.length_map]
    refine iteK (fun h => ?_) (fun h => ?_)
    · have hl : k < R.length := by omega
      walk_at "go"
      refine g_ixT ht (ni_at hl) ?_
      walk_at "go"
      rw [dec_int]
      have hx : R[k]? = some R[k] := List.getElem?_eq_getElem hl
      generalize R[k] = y at hx
      have e : decide (((y : Nat) : Int) = (r : Nat)) = decide (r ∈ R) := decide_eq_decide.mpr ⟨fun z => by
        have : y = r := by omega
        subst this
        exact List.mem_of_getElem? hx, fun z => by
        obtain ⟨j, hj⟩ := List.getElem?_of_mem z
        rcases Nat.lt_or_ge j k with g | g
        · have := h1 j r hj g; omega
        · have g2 := h2 k y hx (Nat.le_refl _)
          rcases Nat.lt_or_ge k j with g3 | g3
          · obtain ⟨a1, rfl⟩ := List.getElem?_eq_some_iff.mp hx
            obtain ⟨a2, rfl⟩ := List.getElem?_eq_some_iff.mp hj
            have := List.pairwise_iff_getElem.mp hs k j a1 a2 g3
            omega
          · have : j = k := by omega
            subst this
            rw [hj] at hx; cases hx; rfl⟩
      rw [e]; exact q
    · have e : decide (r ∈ R) = false := decide_eq_false fun z => by
        obtain ⟨j, hj⟩ := List.getElem?_of_mem z
        have := (List.getElem?_eq_some_iff.mp hj).1
        have := h1 j r hj (by omega)
        omega
      rw [e] at q
      exact q
end
section
variable {P : Program} {w : World} {K : PySem.W.Frag} {mg : Str → Option Value} {base : Heap} {a : Adr}
/-! ### shrinking -/
def sp_repeats (K : PySem.W.Frag) : Sp := fun vs H Q _ => ∃ (p st : Nat) (t : Addr) (R : List Nat), vs = [.int p, .ref t, .int st] ∧ 1 ≤ p ∧ p < 1073741824 ∧ 1 ≤ st ∧ st ≤ p ∧ SqT K H t (ni R) ∧ R.length ≤ 1000 ∧ ∀ H', Same H H' → Q (.bl (Per.rep p R st)) H'
theorem ni_mem {R : List Nat} {n : Nat} : (decide ((n : Int) ∈ R.map fun (q : Nat) => (q : Int)) : Bool) = decide (n ∈ R) := decide_eq_decide.mpr ⟨fun h => by
  obtain ⟨x, hx, e⟩ := List.mem_map.mp h
  have : x = n := by omega
  rwa [← this], fun h => List.mem_map.mpr ⟨n, h, rfl⟩⟩
theorem ok_repeats (T : Txt K mg a) : FnOk P w K mg base CX0 1 a.f_repeats a.d_repeats ["period", "residues", "step"] (sp_repeats K) := by
  refine T.F_repeats.ok sc_repeats (fun vs H Q E h => ?_) (fun cdv A outer s H vs Q E hr h => ?_)
  · obtain ⟨p, st, t, R, rfl, _⟩ := h
    rfl
  · obtain ⟨p, st, t, R, rfl, p1, p2, s1, s2, ht, hn, q⟩ := h
    refine ⟨_, (pss_cons (ps_if (pt_cmpR op_ne (pe_op op_modE (pe_callB call_len_seq (by rfl) T.z_len (by decide +kernel) (pa_cons (pv 1) pa_nil)) (pe_op op_fdivE (pv 0) (pv 2))) pe_int (nomark _))
       (pss_one (ps_ret pe_bl))
       pss_nil)
       (pss_cons (ps_set (i := 3) sc_repeats.nd rfl (.inr rfl) (pe_callTy (cr_setTupI rfl) (by rfl) T.z_set (by decide +kernel) (pa_cons (pv 1) pa_nil)))
       (pss_one (ps_ret (pe_callB (cr_all rfl) (by rfl) T.z_all (by decide +kernel) (pa_cons (pe_lc (own := [("r", 4)]) (g := (gName 4)) rfl sc_repeats.nd (pi_tup (pv 1)) (blkOk_by (own := [("r", 4)]) (N := ["period", "residues", "step", "known", "r"]) (sc := defScope s_repeats) (by decide +kernel)) (fun _ _ _ _ _ => (pg_name (i := 4) sc_repeats.nd rfl (.inl rfl))) (fun _ _ _ _ _ => pts_nil) (fun _ _ _ _ _ => (pe_cmpR (show OpR _ _ (rSIn w) from or_sin) (pe_op op_modE (pe_op op_add (pv 4) (pv 2)) (pv 0)) (pv 3) rfl))) pa_nil)))))), ?_⟩
    refine red (σ' := [some (.int p), some (.ref t), some (.int st), none, none]) rfl ?_
    try dsimp only [cxOf]
    have hd0 : 1 ≤ p / st := Nat.div_pos s2 (by omega)
    unfold Per.rep at q
    walk_at "go"
    rw [List.length_map]
    have e1 : ((p : Nat) : Int) / (st : Nat) = ((p / st : Nat) : Int) := (Int.natCast_ediv p st).symm
    rw [e1]
    have e2 : ((R.length : Nat) : Int) % ((p / st : Nat) : Int) = ((R.length % (p / st) : Nat) : Int) := (Int.natCast_emod _ _).symm
    rw [e2]
    generalize R.length % (p / st) = z at q
    rw [dec_int]
    refine iteNK (fun h => ?_) (fun h => ?_)
    · walk_at "go"
      have := q H (Same.refl H)
      rw [decide_eq_false (by omega), Bool.false_and] at this
      exact this
    · rw [decide_eq_true (by omega)] at q
      simp only [Bool.true_and] at q
      walk_at "go"
      have et : ni R = (R.map fun (q : Nat) => (q : Int)).map V.int := by rw [List.map_map]; rfl
      refine ⟨t, R.map fun (q : Nat) => (q : Int), rfl, by rw [← et]; exact ht, by rw [List.length_map]; exact hn, fun S n hS => ?_⟩
      have sm := same_new (o := SetO w S (fun j => decide (j ∈ R.map fun (q : Nat) => (q : Int))) n) hS
      have hSS : upd H S (SetO w S (fun j => decide (j ∈ R.map fun (q : Nat) => (q : Int))) n) S = some (SetO w S (fun j => decide (j ∈ R.map fun (q : Nat) => (q : Int))) n) := upd_same
      generalize upd H S (SetO w S (fun j => decide (j ∈ R.map fun (q : Nat) => (q : Int))) n) = H1 at sm hSS
      walk_at "go"
      have ht1 := SqT.ext ht sm
      refine ⟨t, rfl, ⟨_, ht1⟩, fun D hD => ?_⟩
      refine lc_tup (K := K) (a := t) (xs := ni R) (fun i H' => Same H1 H' ∧ H' D = some (.lst (((R.take i).map fun r => decide ((r + st) % p ∈ R)).map V.bl))) ⟨same_new hD, upd_same⟩ (fun i H' _ h => SqT.ext ht1 h.1) ?_ ?_
      · rintro i x H2 hi ⟨sm2, hD2⟩
        obtain ⟨r, hr, rfl⟩ : ∃ r, R[i]? = some r ∧ x = .int (r : Nat) := by
          rw [List.getElem?_map] at hi
          cases e : R[i]? with
          | none => rw [e] at hi; cases hi
          | some r => rw [e] at hi; exact ⟨r, rfl, (Option.some.inj hi).symm⟩
        walk_at "go"
        refine ⟨rfl, g_yes (iteT ?_)⟩
        walk_at "go"
        refine ⟨_, S, _, n, rfl, rfl, sm2 _ _ hSS, ?_⟩
        have e3 : (((r : Nat) : Int) + (st : Nat)) % (p : Nat) = (((r + st) % p : Nat) : Int) := by rw [Int.natCast_emod, Int.natCast_add]
        rw [e3, show decide ((((r + st) % p : Nat) : Int) ∈ R.map fun (q : Nat) => (q : Int)) = decide ((r + st) % p ∈ R) from ni_mem]
        refine ⟨_, hD2, ?_, same_put hD sm2, ?_⟩
        · have := sizeBig
          rw [List.length_map, List.length_map, List.length_take]
          omega
        · rw [upd_same, take_more hr, List.map_append, List.map_append]; rfl
      · rintro H2 ⟨sm2, hD2⟩
        rw [List.length_map, List.take_length] at hD2
        refine ⟨D, _, rfl, SqL.of hD2, ?_⟩
        rw [all_id]
        exact q _ (sm.trans sm2)
def sp_shrunk (K : PySem.W.Frag) : Sp := fun vs H Q _ => ∃ (p : Nat) (t : Addr) (R : List Nat), vs = [.int p, .ref t] ∧ Per.Ok p R ∧ p < 1073741824 ∧ SqT K H t (ni R) ∧ R.length ≤ 1000 ∧
  ∀ u t' H', Same H H' → H' u = some (.tup [.int (Per.shr p R).1, .ref t']) → SqT K H' t' (ni (Per.shr p R).2) → Q (.ref u) H'
theorem ok_shrunk (T : Txt K mg a) : FnOk P w K mg base CX0 2 a.f_shrunk a.d_shrunk ["period", "residues"] (sp_shrunk K) := by
  refine T.F_shrunk.ok sc_shrunk (fun vs H Q E h => ?_) (fun cdv A outer s H vs Q E hr h => ?_)
  · obtain ⟨p, t, R, rfl, _⟩ := h
    rfl
  · obtain ⟨p, t, R, rfl, ok, p2, ht, hn, q⟩ := h
    refine ⟨_, (pss_cons (ps_for PassesOwn.never rfl (pi_list (pe_call (ok_primes_of T) (hr.mono (by decide)) (by rfl) T.g_primes_of T.F_primes_of.kp T.b_primes_of .nil pass0 (pa_cons (pv 0) pa_nil))) (pg_name (i := 2) sc_shrunk.nd rfl (.inl rfl))
       (pss_one (ps_while PassesOwn.never (PW.pt (pw_and (pt_cmpR op_eq (pe_op op_modE (pv 0) (pv 2)) pe_int (nomark _)) (pw_and1 (pt_val (pe_call (ok_repeats T) (hr.mono (by decide)) (by rfl) T.g_repeats T.F_repeats.kp T.b_repeats .nil pass0 (pa_cons (pv 0) (pa_cons (pv 1) (pa_cons (pe_op op_fdivE (pv 0) (pv 2)) pa_nil))))))))
       (pss_cons (ps_aug (i := 0) sc_shrunk.nd rfl (.inr rfl) (pv 2) ip_fdiv)
       (pss_one (ps_set (i := 1) sc_shrunk.nd rfl (.inl rfl) (pe_callTy call_tuple_of (by rfl) T.z_tuple (by decide +kernel) (pa_cons (pe_lc (own := [("r", 3)]) (g := (gName 3)) rfl sc_shrunk.nd (pi_tup (pv 1)) (blkOk_by (own := [("r", 3)]) (N := ["period", "residues", "p", "r"]) (sc := defScope s_shrunk) (by decide +kernel)) (fun _ _ _ _ _ => (pg_name (i := 3) sc_shrunk.nd rfl (.inl rfl))) (fun _ _ _ _ _ => (pts_one (pt_cmpR op_lt (pv 3) (pv 0) (nomark _)))) (fun _ _ _ _ _ => (pv 3))) pa_nil))))))))
       (pss_one (ps_ret (pe_tup (pa_cons (pv 0) (pa_cons (pv 1) pa_nil)))))), ?_⟩
    refine red (σ' := [some (.int p), some (.ref t), none, none]) rfl ?_
    try dsimp only [cxOf]
    walk_at "go"
    refine ⟨p, rfl, ok.pos, p2, fun L H1 hL sm hLL => ?_⟩
    walk_at "go"
    refine ⟨L, rfl, ⟨_, SqL.of hLL⟩, ?_⟩
    have hpr : ∀ q ∈ Per.primes p, 2 ≤ q ∧ q ≤ p := fun q hq => by
      obtain ⟨a1, a2⟩ := (Per.mem_primes ok.pos).mp hq
      exact ⟨a1.1, Nat.le_of_dvd ok.pos a2⟩
    unfold Per.shr at q
    generalize Per.primes p = l at hLL hpr q
    refine for_list (K := K) (a := L) (xs := ni l) (fun i σ' H' => ∃ (s : Nat × List Nat) (t' : Addr) (x : Option V), s = (l.take i).foldl (fun s p => Per.shGo p s.1 s.2) (p, R) ∧ σ' = [some (.int s.1), some (.ref t'), x, none] ∧ Same H1 H' ∧ SqT K H' t' (ni s.2) ∧ Per.Ok s.1 s.2 ∧ s.1 ≤ p ∧ s.2.length ≤ 1000)
      ⟨(p, R), t, _, rfl, rfl, Same.refl H1, SqT.ext ht sm, ok, Nat.le_refl _, hn⟩ (fun i σ' H' _ h => ?_) ?_ ?_
    · obtain ⟨s, t', x, _, _, s3, _⟩ := h
      exact SqL.of (s3 _ _ hLL)
    · rintro i x σ' H2 hi ⟨s, t', y, hs, rfl, s3, ht', ok', le', ln'⟩
      obtain ⟨z, hz, rfl⟩ : ∃ z, l[i]? = some z ∧ x = .int (z : Nat) := by
        rw [List.getElem?_map] at hi
        cases e : l[i]? with
        | none => rw [e] at hi; cases hi
        | some r => rw [e] at hi; exact ⟨r, rfl, (Option.some.inj hi).symm⟩
      have hzz := hpr z (List.mem_of_getElem? hz)
      have hnext : (l.take (i + 1)).foldl (fun s p => Per.shGo p s.1 s.2) (p, R) = Per.shGo z s.1 s.2 := by
        rw [take_more hz, List.foldl_append, ← hs]; rfl
      walk_at "go"
      refine ⟨fun m σ' H' => ∃ (P' : Nat) (R' : List Nat) (t' : Addr), σ' = [some (.int P'), some (.ref t'), some (.int z), none] ∧ Same H1 H' ∧ SqT K H' t' (ni R') ∧ Per.Ok P' R' ∧ P' ≤ p ∧ R'.length ≤ 1000 ∧ Per.shGo z P' R' = Per.shGo z s.1 s.2 ∧ P' = m, ⟨_, s.1, s.2, t', rfl, s3, ht', ok', le', ln', rfl, rfl⟩, ?_⟩
      rintro m σ' H3 ⟨P', R', t2, rfl, s4, ht2, ok2, le2, ln2, hg, rfl⟩
      have pos2 := ok2.pos
      have done : Per.Stuck z P' R' → ∃ (s : Nat × List Nat) (t' : Addr) (x : Option V), s = (l.take (i + 1)).foldl (fun s p => Per.shGo p s.1 s.2) (p, R) ∧ [some (V.int P'), some (.ref t2), some (.int z), none] = [some (V.int s.1), some (.ref t'), x, none] ∧ Same H1 H3 ∧ SqT K H3 t' (ni s.2) ∧ Per.Ok s.1 s.2 ∧ s.1 ≤ p ∧ s.2.length ≤ 1000 := fun st => by
        rw [Per.shGo_stuck st] at hg
        exact ⟨(P', R'), t2, _, by rw [hnext, hg], rfl, s4, ht2, ok2, le2, ln2⟩
      walk_at "go"
      rw [dec_int]
      refine iteK (fun h1 => ?_) (fun h1 => ?_)
      · have h1 : P' % z = 0 := by exact_mod_cast h1
        have hd1 : 1 ≤ P' / z := Nat.div_pos (Nat.le_of_dvd pos2 (Nat.dvd_of_mod_eq_zero h1)) (by omega)
        have hd2 : P' / z < P' := Nat.div_lt_self (by omega) (by omega)
        walk_at "go"
        have e1 : ((P' : Nat) : Int) / (z : Nat) = ((P' / z : Nat) : Int) := (Int.natCast_ediv P' z).symm
        rw [e1]
        refine ⟨P', P' / z, t2, R', rfl, pos2, by omega, hd1, by omega, ht2, ln2, fun H4 sm4 => ?_⟩
        walk_at "go"
        refine iteB (fun h2 => ?_) (fun h2 => ?_)
        · rw [Per.shGo, dif_pos ⟨⟨hzz.1, pos2⟩, h1, h2⟩] at hg
          have so := Per.step_one ok2 hzz.1 h1 h2
          refine ⟨fun σ' H' => ∃ t3 : Addr, σ' = [some (.int (P' / z : Nat)), some (.ref t3), some (.int z), none] ∧ Same H1 H' ∧ SqT K H' t3 (ni (R'.filter fun r => decide (r < P' / z))), ?_, ?_⟩
          · rintro σ' H' ⟨t3, rfl, a1, a2⟩
            exact ⟨P' / z, hd2, P' / z, _, t3, rfl, a1, a2, so.ok, by omega, Nat.le_trans (List.length_filter_le _ _) ln2, hg, rfl⟩
          walk_at "go"
          rw [e1]
          have ht4 := SqT.ext ht2 sm4
          refine ⟨t2, rfl, ⟨_, ht4⟩, fun D hD => ?_⟩
          refine lc_tup (K := K) (a := t2) (xs := ni R') (fun i H' => Same H4 H' ∧ H' D = some (.lst (ni ((R'.take i).filter fun r => decide (r < P' / z))))) ⟨same_new hD, upd_same⟩ (fun i H' _ h => SqT.ext ht4 h.1) ?_ ?_
          · rintro i x H5 hi ⟨s5, hD5⟩
            obtain ⟨r, hr, rfl⟩ : ∃ r, R'[i]? = some r ∧ x = .int (r : Nat) := by
              rw [List.getElem?_map] at hi
              cases e : R'[i]? with
              | none => rw [e] at hi; cases hi
              | some r => rw [e] at hi; exact ⟨r, rfl, (Option.some.inj hi).symm⟩
            rw [take_more hr, List.filter_append]
            walk_at "go"
            refine ⟨rfl, ?_⟩
            walk_at "go"
            refine iteK (fun h => ?_) (fun h => ?_)
            · have h : r < P' / z := by omega
              have ef : [r].filter (fun r => decide (r < P' / z)) = [r] := List.filter_cons_of_pos (by exact decide_eq_true h)
              rw [ef]
              walk_at "go"
              refine ⟨_, hD5, ?_, same_put hD s5, ?_⟩
              · have := sizeBig
                rw [List.length_map]
                have := List.length_filter_le (fun r => decide (r < P' / z)) (R'.take i)
                rw [List.length_take] at this
                omega
              · rw [upd_same, ni, ni, List.map_append]; rfl
            · have h : ¬ r < P' / z := by omega
              have ef : [r].filter (fun r => decide (r < P' / z)) = [] := List.filter_cons_of_neg (by rw [decide_eq_false h]; decide)
              rw [ef, List.append_nil]
              exact ⟨s5, hD5⟩
          · rintro H5 ⟨s5, hD5⟩
            rw [List.length_map, List.take_length] at hD5
            walk_at "go"
            refine ⟨D, _, rfl, .inl ⟨SqL.of hD5, fun t3 ht3 => ?_⟩⟩
            walk_at "go"
            exact ⟨t3, rfl, s4.trans (sm4.trans (s5.trans (same_new ht3))), SqT.of upd_same⟩
        · refine ⟨(P', R'), t2, _, ?_, rfl, s4.trans sm4, SqT.ext ht2 sm4, ok2, le2, ln2⟩
          have st : Per.Stuck z P' R' := fun h => by rw [h.2] at h2; cases h2
          rw [Per.shGo_stuck st] at hg
          rw [hnext, hg]
      · refine iteF ?_
        exact done fun h => h1 (by exact_mod_cast h.1)
    · rintro σ' H2 ⟨s, t', y, hs, rfl, s3, ht', ok', le', ln'⟩
      rw [List.length_map, List.take_length] at hs
      rw [← hs] at q
      walk_at "go"
      refine nwT (ys := [.int s.1, .ref t']) rfl (by show 2 ≤ 1000000; decide) fun u H3 _ s6 hu => ?_
      exact q u t' H3 (sm.trans (s3.trans s6)) hu (SqT.ext ht' s6)
end
section
variable {P : Program} {w : World} {K : PySem.W.Frag} {mg : Str → Option Value} {base : Heap} {a : Adr}
/-! ### pieces as data -/
def resD (R : List Nat) : PyData := .tuple (R.map fun (r : Nat) => PyData.int (r : Int))
def pcD (p : Per.Piece) : PyData := .tuple [.int (p.1 : Nat), .int (p.2.1 : Nat), resD p.2.2]
def patD (ps : List Per.Piece) : PyData := .tuple (ps.map pcD)
theorem resD_ints (R : List Nat) : resD R = .tuple ((R.map fun (r : Nat) => (r : Int)).map PyData.int) := by unfold resD; rw [List.map_map]; rfl
theorem ni_ints (R : List Nat) : ni R = (R.map fun (r : Nat) => (r : Int)).map V.int := by rw [List.map_map]; rfl
theorem res_inv {H : Hp} {v : V} {R : List Nat} (h : Dp K H v (resD R)) : ∃ t, v = .ref t ∧ SqT K H t (ni R) := by
  rw [resD_ints] at h
  cases h with
  | tup s d => exact ⟨_, rfl, by rw [ni_ints, ← dpAll_ints_inv d]; exact s⟩
theorem res_mk {H : Hp} {t : Addr} {R : List Nat} (h : SqT K H t (ni R)) : Dp K H (.ref t) (resD R) := by
  rw [resD_ints]
  rw [ni_ints] at h
  exact .tup h (dpAll_ints _)
theorem pc_inv {H : Hp} {v : V} {p : Per.Piece} (h : Dp K H v (pcD p)) : ∃ a t, v = .ref a ∧ SqT K H a [.int (p.1 : Nat), .int (p.2.1 : Nat), .ref t] ∧ SqT K H t (ni p.2.2) := by
  unfold pcD at h
  cases h with
  | tup s d =>
    cases d with
    | cons d1 d =>
      cases d with
      | cons d2 d =>
        cases d with
        | cons d3 d =>
          cases d
          cases d1
          cases d2
          obtain ⟨t, rfl, ht⟩ := res_inv d3
          exact ⟨_, t, rfl, s, ht⟩
theorem pc_mk {H : Hp} {a t : Addr} {p : Per.Piece} (h : SqT K H a [.int (p.1 : Nat), .int (p.2.1 : Nat), .ref t]) (ht : SqT K H t (ni p.2.2)) : Dp K H (.ref a) (pcD p) :=
  .tup h (.cons (.int _) (.cons (.int _) (.cons (res_mk ht) .nil)))
theorem pl_res (R : List Nat) : pl (resD R) = true := by
  rw [resD_ints]
  show plAll _ = true
  exact plAll_ints _
theorem noL_res (R : List Nat) : noL (resD R) = true := by
  rw [resD_ints]
  show noLAll _ = true
  exact noLAll_ints _
theorem dep_res (R : List Nat) : (resD R).depth ≤ 1 := by
  rw [resD_ints]
  have := depthAll_ints (R.map fun (r : Nat) => (r : Int))
  simp only [PyData.depth]
  omega
theorem pl_pc (p : Per.Piece) : pl (pcD p) = true := by simp [pcD, pl, plAll, pl_res]
theorem noL_pc (p : Per.Piece) : noL (pcD p) = true := by simp [pcD, noL, noLAll, noL_res]
theorem dep_pc (p : Per.Piece) : (pcD p).depth ≤ 2 := by
  have := dep_res p.2.2
  simp only [pcD, PyData.depth, PyData.depthAll]
  omega
theorem noL_pcs (ps : List Per.Piece) : noLAll (ps.map pcD) = true := noLAll_of fun x hx => by
  obtain ⟨p, _, rfl⟩ := List.mem_map.mp hx
  exact noL_pc p
theorem pl_pat (ps : List Per.Piece) : pl (patD ps) = true := by
  have : plAll (ps.map pcD) = true := plAll_of fun x hx => by
    obtain ⟨p, _, rfl⟩ := List.mem_map.mp hx
    exact pl_pc p
  simp [patD, pl, this]
theorem noL_pat (ps : List Per.Piece) : noL (patD ps) = true := by simp [patD, noL, noL_pcs]
theorem dep_pat (ps : List Per.Piece) : (patD ps).depth ≤ 3 := by
  have : PyData.depthAll (ps.map pcD) ≤ 2 := depthAll_le fun x hx => by
    obtain ⟨p, _, rfl⟩ := List.mem_map.mp hx
    exact dep_pc p
  simp only [patD, PyData.depth]
  omega
theorem natI_inj {x y : Nat} (h : PyData.int (x : Int) = PyData.int (y : Int)) : x = y := by cases h; rfl
theorem resD_inj {R S : List Nat} (h : resD R = resD S) : R = S := by
  unfold resD at h
  injection h with h
  exact List.map_inj_right (fun x y e => natI_inj e) |>.mp h
theorem dep2 (n : Int) (R : List Nat) : (PyData.tuple [.int n, resD R]).depth ≤ 64 := by
  have := dep_res R
  simp only [PyData.depth, PyData.depthAll]
  omega
structure PcOk (p : Per.Piece) : Prop where
  ok : Per.POk p
  small : p.2.1 < 1073741824
  few : p.2.2.length ≤ 1000
def sp_tidied (K : PySem.W.Frag) : Sp := fun vs H Q _ => ∃ (L : Addr) (xs : List V) (ps : List Per.Piece), vs = [.ref L] ∧ H L = some (.lst xs) ∧ DpAll K H xs (ps.map pcD) ∧ (∀ p ∈ ps, PcOk p) ∧ ps.length ≤ 1000 ∧
  ∀ u H', Same H H' → Dp K H' (.ref u) (patD (Per.tid ps)) → Q (.ref u) H'
theorem ok_tidied (T : Txt K mg a) : FnOk P w K mg base CX0 3 a.f_tidied a.d_tidied ["pieces"] (sp_tidied K) := by
  refine T.F_tidied.ok sc_tidied (fun vs H Q E h => ?_) (fun cdv A outer s H vs Q E hr h => ?_)
  · obtain ⟨L, xs, ps, rfl, _⟩ := h
    rfl
  · obtain ⟨L, xs, ps, rfl, hL, hd, ho, hn, q⟩ := h
    refine ⟨_, (pss_cons (ps_set (i := 1) sc_tidied.nd rfl (.inl rfl) (pe_lst pa_nil))
       (pss_cons (ps_for PassesOwn.never rfl (pi_list (pv 0)) (pg_tup (by rfl) (pgs_cons (pg_name (i := 2) sc_tidied.nd rfl (.inl rfl)) (pgs_cons (pg_name (i := 3) sc_tidied.nd rfl (.inl rfl)) (pgs_cons (pg_name (i := 4) sc_tidied.nd rfl (.inl rfl)) pgs_nil))))
       (pss_cons (ps_asg (pe_call (ok_shrunk T) (hr.mono (by decide)) (by rfl) T.g_shrunk T.F_shrunk.kp T.b_shrunk .nil pass0 (pa_cons (pv 3) (pa_cons (pv 4) pa_nil))) (pg_tup (by rfl) (pgs_cons (pg_name (i := 3) sc_tidied.nd rfl (.inl rfl)) (pgs_cons (pg_name (i := 4) sc_tidied.nd rfl (.inl rfl)) pgs_nil))))
       (pss_one (ps_if (PW.pt (pw_or (pt_cmpR op_eq (pe_callB call_len_seq (by rfl) T.z_len (by decide +kernel) (pa_cons (pv 1) pa_nil)) pe_int (nomark _)) (pw_or1 (pt_cmpR (op_neD (hr.units)) (pe_slice sl_tup (pe_ix ix_list (pv 1) (pe_un un_neg pe_int) (fun _ _ => rfl)) (po_some pe_int) po_none) (pe_tup (pa_cons (pv 3) (pa_cons (pv 4) pa_nil))) (nomark _)))))
       (pss_one (ps_expr (pe_bm PySem.F.plainAttrs_list PySem.F.slot_list_append PySem.F.type_list_append mt_append (pv 1) (pa_cons (pe_tup (pa_cons (pv 2) (pa_cons (pv 3) (pa_cons (pv 4) pa_nil)))) pa_nil))))
       pss_nil))))
       (pss_one (ps_ret (pe_callTy call_tuple_of (by rfl) T.z_tuple (by decide +kernel) (pa_cons (pv 1) pa_nil)))))), ?_⟩
    refine red (σ' := [some (.ref L), none, none, none, none]) rfl ?_
    try dsimp only [cxOf]
    have hL0 := hL
    walk_at "go"
    refine nwL (ys := []) rfl (by decide) fun F H1 hF sm hFF => ?_
    walk_at "go"
    replace hL := sm _ _ hL
    replace hd := dpAll_same sm _ hd
    refine ⟨L, rfl, ⟨_, SqL.of hL⟩, ?_⟩
    have hlen : xs.length = ps.length := by have := dpAll_len hd; rw [List.length_map] at this; exact this
    refine for_list (K := K) (a := L) (xs := xs) (fun i σ' H' => ∃ (fv : List V) (y2 y3 y4 : Option V), σ' = [some (.ref L), some (.ref F), y2, y3, y4] ∧ Same H H' ∧ KeepT H1 H' ∧ H' L = some (.lst xs) ∧ H' F = some (.lst fv) ∧ DpAll K H' fv ((Per.tid (ps.take i)).map pcD) ∧ (Per.tid (ps.take i)).length ≤ i)
      ⟨[], _, _, _, rfl, sm, KeepT.refl H1, hL, hFF, .nil, Nat.le_refl _⟩ (fun i σ' H' _ h => ?_) ?_ ?_
    · obtain ⟨fv, _, _, _, _, _, _, h, _⟩ := h
      exact SqL.of h
    · rintro i x σ' H2 hi ⟨fv, y2, y3, y4, rfl, s2, k2, hL2, hF2, hd2, hn2⟩
      obtain ⟨d, hd', hx⟩ := dpAll_at' hd hi
      obtain ⟨p, hp, rfl⟩ : ∃ p, ps[i]? = some p ∧ d = pcD p := by
        rw [List.getElem?_map] at hd'
        cases e : ps[i]? with
        | none => rw [e] at hd'; cases hd'
        | some p => rw [e] at hd'; exact ⟨p, rfl, (Option.some.inj hd').symm⟩
      obtain ⟨pa, pt, rfl, hpa, hpt⟩ := pc_inv (dp_keep k2 _ (noL_pc p) hx)
      have hpo := ho p (List.mem_of_getElem? hp)
      have hi' := (List.getElem?_eq_some_iff.mp hp).1
      refine g_gtup ⟨pa, _, rfl, hpa, rfl, ?_⟩
      walk_at "go"
      refine ⟨_, pt, _, rfl, hpo.ok, hpo.small, hpt, hpo.few, fun u t' H3 s3 hu ht' => ?_⟩
      refine g_gtup ⟨u, _, rfl, SqT.of hu, rfl, ?_⟩
      walk_at "go"
      replace hL2 := s3 _ _ hL2
      replace hF2 := s3 _ _ hF2
      replace hd2 := dpAll_same s3 _ hd2
      replace s2 := s2.trans s3
      replace k2 := k2.trans (KeepT.of s3)
      refine g_lenL (SqL.of hF2) ?_
      walk_at "go"
      rw [dec_int]
      have hts : Per.tid (ps.take (i + 1)) = Per.tidStep (Per.tid (ps.take i)) p := by rw [take_more hp, Per.tid_snoc]
      have hfl := dpAll_len hd2
      rw [List.length_map] at hfl
      generalize Per.tid (ps.take i) = A at hd2 hn2 hts hfl
      refine iteK (fun h => ?_) (fun h => ?_)
      · have hA : A = [] := List.length_eq_zero_iff.mp (by omega)
        have hst : Per.tid (ps.take (i + 1)) = A ++ [(p.1, Per.shr p.2.1 p.2.2)] := by
          rw [hts, hA]; rfl
        refine iteT ?_
        walk_at "go"
        refine ⟨.inl ⟨rfl, _, SqL.of hF2⟩, ?_⟩
        walk_at "go"
        refine nwT (ys := [.int (p.1 : Nat), .int ((Per.shr p.2.1 p.2.2).1 : Nat), .ref t']) rfl (by show 3 ≤ 1000000; decide) fun b H4 _ s4 hb => ?_
        replace hL2 := s4 _ _ hL2
        replace hF2 := s4 _ _ hF2
        replace hd2 := dpAll_same s4 _ hd2
        replace s2 := s2.trans s4
        replace k2 := k2.trans (KeepT.of s4)
        replace ht' := SqT.ext ht' s4
        refine ⟨F, _, _, rfl, rfl, hF2, by have := dpAll_len hd2; rw [List.length_map] at this; have := sizeBig; omega, ?_⟩
        have kp : KeepT H4 (upd H4 F (.lst (fv ++ [.ref b]))) := KeepT.putL hF2
        refine ⟨_, _, _, _, rfl, same_put hF s2, k2.trans kp, (upd_ne (ne_of_none (H := H) hL0 hF)).trans hL2, upd_same, ?_, ?_⟩
        · rw [hst, List.map_append]
          exact dpAll_app (dpAll_keep kp _ (noL_pcs _) hd2) (.cons (pc_mk (p := (p.1, Per.shr p.2.1 p.2.2)) (sqT_keep (SqT.of hb) kp) (sqT_keep ht' kp)) .nil)
        · rw [hst, List.length_append, List.length_singleton]; omega
      · have hA : A ≠ [] := fun e => by rw [e] at hfl; exact h (by rw [hfl]; rfl)
        obtain ⟨B, z, rfl⟩ : ∃ B z, A = B ++ [z] := ⟨_, _, (List.dropLast_concat_getLast hA).symm⟩
        rw [List.map_append] at hd2
        obtain ⟨us, v, rfl, hd3, hd4⟩ := dpAll_last hd2
        rw [← List.map_append] at hd2
        obtain ⟨la, lt, rfl, hla, hlt⟩ := pc_inv hd4
        walk_at "go"
        refine g_ixL (SqL.of hF2) (atI_last us _) ?_
        walk_at "go"
        refine g_slT (ys := [.int (z.2.1 : Nat), .ref lt]) hla rfl (by show ¬ (HT.sIx 3 0 (some 1) = 0 ∧ HT.sIx 3 3 none = 3); decide) fun sa H4 _ s4 hsa => ?_
        replace hL2 := s4 _ _ hL2
        replace hF2 := s4 _ _ hF2
        replace hd2 := dpAll_same s4 _ hd2
        replace s2 := s2.trans s4
        replace k2 := k2.trans (KeepT.of s4)
        replace ht' := SqT.ext ht' s4
        replace hlt := SqT.ext hlt s4
        walk_at "go"
        refine nwT (ys := [.int ((Per.shr p.2.1 p.2.2).1 : Nat), .ref t']) rfl (by show 2 ≤ 1000000; decide) fun sb H5 _ s5 hsb => ?_
        replace hL2 := s5 _ _ hL2
        replace hF2 := s5 _ _ hF2
        replace hd2 := dpAll_same s5 _ hd2
        replace s2 := s2.trans s5
        replace k2 := k2.trans (KeepT.of s5)
        replace ht' := SqT.ext ht' s5
        replace hlt := SqT.ext hlt s5
        replace hsa := s5 _ _ hsa
        refine g_neD (d := .tuple [.int (z.2.1 : Nat), resD z.2.2]) (e := .tuple [.int ((Per.shr p.2.1 p.2.2).1 : Nat), resD (Per.shr p.2.1 p.2.2).2]) (.tup (SqT.of hsa) (.cons (.int _) (.cons (res_mk hlt) .nil))) (.tup (SqT.of hsb) (.cons (.int _) (.cons (res_mk ht') .nil)))
          (by simp [pl, plAll, pl_res]) (by simp [pl, plAll, pl_res]) (dep2 _ _) (dep2 _ _) (fun e => ?_) (fun e => ?_)
        · have e2 : z.2 = Per.shr p.2.1 p.2.2 := by
            injection e with e
            injection e with e1 e
            injection e with e2 e
            have := natI_inj e1
            have := resD_inj e2
            exact Prod.ext (by assumption) (by assumption)
          have hst : Per.tid (ps.take (i + 1)) = B ++ [z] := by
            rw [hts]
            unfold Per.tidStep
            rw [List.getLast?_append, List.getLast?_singleton, if_pos (by show some z.2 = _; rw [e2])]
          walk_at "go"
          refine iteF ?_
          walk_at "go"
          refine ⟨_, _, _, _, rfl, s2, k2, hL2, hF2, ?_, ?_⟩
          · rw [hst]; exact hd2
          · rw [hst]; omega
        · have e2 : ¬ z.2 = Per.shr p.2.1 p.2.2 := fun c => e (by rw [← c])
          have hst : Per.tid (ps.take (i + 1)) = B ++ [z] ++ [(p.1, Per.shr p.2.1 p.2.2)] := by
            rw [hts]
            unfold Per.tidStep
            rw [List.getLast?_append, List.getLast?_singleton]
            exact if_neg (fun c => e2 (Option.some.inj c))
          generalize us ++ [V.ref la] = fv at hF2 hd2 hfl
          walk_at "go"
          refine iteT ?_
          walk_at "go"
          refine ⟨.inl ⟨rfl, _, SqL.of hF2⟩, ?_⟩
          walk_at "go"
          refine nwT (ys := [.int (p.1 : Nat), .int ((Per.shr p.2.1 p.2.2).1 : Nat), .ref t']) rfl (by show 3 ≤ 1000000; decide) fun b H6 _ s4 hb => ?_
          replace hL2 := s4 _ _ hL2
          replace hF2 := s4 _ _ hF2
          replace hd2 := dpAll_same s4 _ hd2
          replace s2 := s2.trans s4
          replace k2 := k2.trans (KeepT.of s4)
          replace ht' := SqT.ext ht' s4
          refine ⟨F, _, _, rfl, rfl, hF2, by have := dpAll_len hd2; rw [List.length_map] at this; have := sizeBig; omega, ?_⟩
          have kp : KeepT H6 (upd H6 F (.lst (fv ++ [.ref b]))) := KeepT.putL hF2
          refine ⟨_, _, _, _, rfl, same_put hF s2, k2.trans kp, (upd_ne (ne_of_none (H := H) hL0 hF)).trans hL2, upd_same, ?_, ?_⟩
          · rw [hst, List.map_append]
            exact dpAll_app (dpAll_keep kp _ (noL_pcs _) hd2) (.cons (pc_mk (p := (p.1, Per.shr p.2.1 p.2.2)) (sqT_keep (SqT.of hb) kp) (sqT_keep ht' kp)) .nil)
          · rw [hst, List.length_append, List.length_singleton]; omega
    · rintro σ' H2 ⟨fv, y2, y3, y4, rfl, s2, k2, hL2, hF2, hd2, hn2⟩
      rw [hlen, List.take_length] at hd2
      walk_at "go"
      refine ⟨F, _, rfl, .inl ⟨SqL.of hF2, fun u hu => ?_⟩⟩
      have s3 := same_new (o := .tup fv) hu
      exact q u _ (s2.trans s3) (.tup (SqT.of upd_same) (dpAll_same s3 _ hd2))
def sp_belongs (K : PySem.W.Frag) : Sp := fun vs H Q _ => ∃ (t : Addr) (ps : List Per.Piece) (d : Nat), vs = [.ref t, .int d] ∧ Dp K H (.ref t) (patD ps) ∧ (∀ p ∈ ps, PcOk p) ∧ ps.length ≤ 1000 ∧ (∃ p, ps[0]? = some p ∧ p.1 ≤ d) ∧ Q (.bl (Per.inP ps d)) H
theorem ok_belongs (T : Txt K mg a) : FnOk P w K mg base CX0 3 a.f_belongs a.d_belongs ["pattern", "day"] (sp_belongs K) := by
  refine T.F_belongs.ok sc_belongs (fun vs H Q E h => ?_) (fun cdv A outer s H vs Q E hr h => ?_)
  · obtain ⟨t, ps, d, rfl, _⟩ := h
    rfl
  · obtain ⟨t, ps, d, rfl, hd, ho, hn, ⟨p0, hp0, hp00⟩, q⟩ := h
    refine ⟨_, (pss_cons (ps_if (pt_cmpR op_lt (pv 1) pe_int (nomark _))
       (pss_one (ps_ret pe_bl))
       pss_nil)
       (pss_cons (ps_set (i := 2) sc_belongs.nd rfl (.inl rfl) (pe_op op_sub (pe_callB call_len_seq (by rfl) T.z_len (by decide +kernel) (pa_cons (pv 0) pa_nil)) pe_int))
       (pss_cons (ps_while PassesOwn.never (pt_cmpR op_gt (pe_ix ix_tup (pe_ix ix_tup (pv 0) (pv 2) (fun _ _ => rfl)) pe_int (fun _ _ => rfl)) (pv 1) (nomark _))
       (pss_one (ps_aug (i := 2) sc_belongs.nd rfl (.inl rfl) pe_int ip_sub)))
       (pss_one (ps_ret (pe_call (ok_has T) (hr.mono (by decide)) (by rfl) T.g_has T.F_has.kp T.b_has .nil pass0 (pa_cons (pe_ix ix_tup (pe_ix ix_tup (pv 0) (pv 2) (fun _ _ => rfl)) pe_int (fun _ _ => rfl)) (pa_cons (pe_ix ix_tup (pe_ix ix_tup (pv 0) (pv 2) (fun _ _ => rfl)) pe_int (fun _ _ => rfl)) (pa_cons (pv 1) pa_nil))))))))), ?_⟩
    refine red (σ' := [some (.ref t), some (.int d), none]) rfl ?_
    try dsimp only [cxOf]
    obtain ⟨xs, ht, hxs⟩ : ∃ xs, SqT K H t xs ∧ DpAll K H xs (ps.map pcD) := by
      cases hd with
      | tup s d => exact ⟨_, s, d⟩
    have hlen : xs.length = ps.length := by have := dpAll_len hxs; rw [List.length_map] at this; exact this
    have at_ : ∀ (k : Nat) (p : Per.Piece), ps[k]? = some p → ∃ a t', atI xs ((k : Nat) : Int) = some (.ref a) ∧ SqT K H a [.int (p.1 : Nat), .int (p.2.1 : Nat), .ref t'] ∧ SqT K H t' (ni p.2.2) := fun k p hp => by
      obtain ⟨v, hv, hd⟩ := dpAll_at hxs (i := k) (d := pcD p) (by rw [List.getElem?_map, hp]; rfl)
      obtain ⟨a, t', rfl, h1, h2⟩ := pc_inv hd
      exact ⟨a, t', atI_nat hv, h1, h2⟩
    have hpos := (List.getElem?_eq_some_iff.mp hp0).1
    walk_at "go"
    refine iteK (fun h => absurd h (by omega)) (fun _ => ?_)
    walk_at "go"
    rw [hlen]
    have e0 : ((ps.length : Nat) : Int) - 1 = ((ps.length - 1 : Nat) : Int) := by omega
    rw [e0]
    refine ⟨fun m σ' H' => ∃ k : Nat, σ' = [some (.ref t), some (.int d), some (.int k)] ∧ H' = H ∧ k < ps.length ∧ (∀ (j : Nat) (q : Per.Piece), k < j → ps[j]? = some q → d < q.1) ∧ k = m, ⟨_, ps.length - 1, rfl, rfl, by omega, fun j q hj hq => absurd (List.getElem?_eq_some_iff.mp hq).1 (by omega), rfl⟩, ?_⟩
    rintro m σ' H' ⟨k, rfl, rfl, hk, hab, rfl⟩
    have hp : ps[k]? = some ps[k] := List.getElem?_eq_getElem hk
    have hpo := ho _ (List.getElem_mem hk)
    generalize ps[k] = p at hp hpo
    obtain ⟨pa, pt, e1, e2, e3⟩ := at_ k p hp
    walk_at "go"
    refine g_ixT ht e1 ?_
    walk_at "go"
    refine iteK (fun h => ?_) (fun h => ?_)
    · have k0 : k ≠ 0 := fun e => by
        subst e
        rw [hp0] at hp
        cases hp
        omega
      refine ⟨fun σ' H'' => σ' = [some (.ref t), some (.int d), some (.int (k - 1 : Nat))] ∧ H'' = H', ?_, ?_⟩
      · rintro σ' H'' ⟨rfl, rfl⟩
        refine ⟨k - 1, by omega, k - 1, rfl, rfl, by omega, fun j q hj hq => ?_, rfl⟩
        rcases Nat.lt_or_ge k j with g | g
        · exact hab j q g hq
        · have : j = k := by omega
          subst this
          rw [hp] at hq
          cases hq
          omega
      walk_at "go"
      have e4 : ((k : Nat) : Int) - 1 = ((k - 1 : Nat) : Int) := by omega
      rw [e4]
      exact ⟨rfl, rfl⟩
    · walk_at "go"
      refine g_ixT ht e1 ?_
      walk_at "go"
      refine g_ixT ht e1 ?_
      walk_at "go"
      refine ⟨p.2.1, pt, p.2.2, d, rfl, hpo.ok.pos, e3, by have := hpo.few; omega, hpo.ok.asc, ?_⟩
      have := Per.inP_at hp (d := d) (by omega) hab
      rw [this] at q
      exact q
end
section
theorem getD_at {l : List Nat} {n : Nat} (h : n < l.length) : atI l ((n : Nat) : Int) = some (l.getD n 0) := by
  refine atI_nat ?_
  rw [List.getD_eq_getElem?_getD, List.getElem?_eq_getElem h]; rfl
end
section
variable {P : Program} {w : World} {K : PySem.W.Frag} {mg : Str → Option Value} {base : Heap} {a : Adr}
theorem cutL_toA (l : List Nat) (n : Nat) : cutL l none (some (n : Int)) = l.take n := by
  unfold cutL
  rw [HT.sIx_none, HT.sIx_nat, List.drop_zero, Nat.sub_zero]
  by_cases h : n ≤ l.length
  · rw [Nat.min_eq_left h]
  · rw [Nat.min_eq_right (by omega), List.take_of_length_le (Nat.le_refl _), List.take_of_length_le (by omega)]
theorem cutL_fromA (l : List Nat) (n : Nat) : cutL l (some (n : Int)) none = l.drop n := by
  unfold cutL
  rw [HT.sIx_none, HT.sIx_nat]
  by_cases h : n ≤ l.length
  · rw [Nat.min_eq_left h]
    exact List.take_of_length_le (by rw [List.length_drop]; exact Nat.le_refl _)
  · rw [Nat.min_eq_right (by omega), List.drop_of_length_le (Nat.le_refl _), List.drop_of_length_le (by omega)]
    simp
def sp_read_integer : Sp := fun vs H Q _ => ∃ l : List Nat, vs = [.str (S l)] ∧ l.length ≤ 1000 ∧ ∀ H', Same H H' → Q (((Wd.rint l).map V.int).getD .non) H'
theorem ok_read_integer (T : Txt K mg a) : FnOk P w K mg base CX0 1 a.f_read_integer a.d_read_integer ["word"] sp_read_integer := by
  refine T.F_read_integer.ok sc_read_integer (fun vs H Q E h => ?_) (fun cdv A outer s H vs Q E hr h => ?_)
  · obtain ⟨l, rfl, _⟩ := h
    rfl
  · obtain ⟨l, rfl, hl, q⟩ := h
    refine ⟨_, (pss_cons (ps_set (i := 1) sc_read_integer.nd rfl (.inl rfl) (pv 0))
       (C8.pss_cut (ps_if (pt_cmpR op_eq (pe_slice sl_str (pv 0) po_none (po_some pe_int)) pe_str (nomark _))
       (pss_one (ps_set (i := 1) sc_read_integer.nd rfl (.inl rfl) (pe_slice sl_str (pv 0) (po_some pe_int) po_none)))
       pss_nil)
       (pss_cons (ps_if (PW.pt (pw_or (pt_cmpR op_eq (pv 1) pe_str (nomark _)) (pw_or (pt_cmpR op_gt (pe_callB call_len_str (by rfl) T.z_len (by decide +kernel) (pa_cons (pv 1) pa_nil)) (C8.pe_gc (v := .int 18) (by rfl) T.g_DIGITS_MOST) (nomark _)) (pw_or1 (pt_not (pt_val (pe_callB (cr_all rfl) (by rfl) T.z_all (by decide +kernel) (pa_cons (pe_lc (own := [("sign", 2)]) (g := (gName 2)) rfl sc_read_integer.nd (pi_str (pv 1)) (blkOk_by (own := [("sign", 2)]) (N := ["word", "digits", "sign"]) (sc := defScope s_read_integer) (by decide +kernel)) (fun _ _ _ _ _ => (pg_name (i := 2) sc_read_integer.nd rfl (.inl rfl))) (fun _ _ _ _ _ => pts_nil) (fun _ _ _ _ _ => (pe_cmpR op_in_sign (pv 2) (C8.pe_gc (v := .str "0123456789") (by rfl) T.g_DIGITS) rfl))) pa_nil))))))))
       (pss_one (ps_ret pe_non))
       pss_nil)
       (pss_cons (ps_if (PW.pt (pw_and (pt_cmpR op_eq (pe_ix ix_str (pv 1) pe_int (fun _ _ => rfl)) pe_str (nomark _)) (pw_and1 (pt_cmpR op_ne (pv 0) pe_str (nomark _)))))
       (pss_one (ps_ret pe_non))
       pss_nil)
       (pss_one (ps_ret (pe_callTy call_int_str (by rfl) T.z_int (by decide +kernel) (pa_cons (pv 0) pa_nil)))))))), ?_⟩
    refine red (σ' := [some (.str (S l)), none, none]) rfl ?_
    try dsimp only [cxOf]
    have no : ∀ {H'}, Same H H' → Wd.rint l = none → Q .non H' := fun {H'} sm h => by
      have := q H' sm
      rw [h] at this
      exact this
    have dl : (Wd.dash l).length ≤ l.length := by
      unfold Wd.dash
      split
      · rw [List.length_drop]; omega
      · omega
    walk_at "go"
    refine ⟨fun σ' H' => σ' = [some (.str (S l)), some (.str (S (Wd.dash l))), none] ∧ H' = H, ?_, ?_⟩
    · walk_at "go"
      refine g_slS (by omega) ?_
      rw [show cutL l none (some (1 : Int)) = l.take 1 from cutL_toA l 1]
      walk_at "go"
      have e0 : decide (V.str (S (l.take 1)) = V.str "-") = decide (l.take 1 = [45]) := dec_str (l.take 1) [45]
      rw [e0]
      unfold Wd.dash
      refine iteK (fun h => ?_) (fun h => ?_)
      · walk_at "go"
        refine g_slS (by omega) ?_
        rw [show cutL l (some (1 : Int)) none = l.drop 1 from cutL_fromA l 1]
        rw [if_pos h]
        exact ⟨rfl, rfl⟩
      · walk_at "go"
        rw [if_neg h]
        exact ⟨rfl, rfl⟩
    rintro σ' H' ⟨rfl, rfl⟩
    generalize hd : Wd.dash l = d at dl
    walk_at "go"
    have e0 : decide (V.str (S d) = V.str "") = decide (d = []) := dec_str d []
    rw [e0]
    refine iteK (fun h => ?_) (fun h1 => ?_)
    · refine iteT ?_
      walk_at "go"
      refine no (Same.refl _) ?_
      unfold Wd.rint
      rw [hd, if_pos (.inl h)]
    walk_at "go"
    refine g_lenS (by omega) ?_
    rw [S_len]
    walk_at "go"
    refine iteK (fun h => ?_) (fun h2 => ?_)
    · refine iteT ?_
      walk_at "go"
      refine no (Same.refl _) ?_
      unfold Wd.rint
      rw [hd, if_pos (.inr (.inl (by omega)))]
    refine g_not (g_tB (g_cb (g_cons (digs (i := 2) (j := 1) (by omega) rfl (fun _ => rfl) (fun _ => rfl) fun D H1 sm hL => g_nil ⟨D, _, rfl, SqL.of hL, ?_⟩))))
    rw [isDig_all h1]
    walk_at "go"
    cases h3 : Dg.isDig d with
    | false =>
      refine ite_y rfl ?_
      walk_at "go"
      refine no sm ?_
      unfold Wd.rint
      rw [hd, if_pos (.inr (.inr h3))]
    | true =>
    refine ite_n rfl ?_
    have hf : ¬ (d = [] ∨ 18 < d.length ∨ Dg.isDig d = false) := fun z => z.elim h1 fun z => z.elim (fun z => h2 (by omega)) fun z => by rw [h3] at z; cases z
    have d0 : 0 < d.length := by
      cases d with
      | nil => exact absurd rfl h1
      | cons c r => exact Nat.succ_pos _
    walk_at "go"
    refine g_ixS (n := ((0 : Nat) : Int)) (by omega) (getD_at d0) ?_
    walk_at "go"
    have e0 : decide (V.str (S [d.getD 0 0]) = V.str "0") = decide (d.getD 0 0 = 48) := by
      refine (dec_str [d.getD 0 0] [48]).trans ?_
      simp
    rw [e0]
    have fin : ¬ (d.getD 0 0 = 48 ∧ l ≠ [48]) → ∃ b n, [V.str (S l)] = [V.str b] ∧ PySem.intText? b = some n ∧ b.length ≤ 640 ∧ Q (.int n) H1 := fun hz => by
      have q' := q H1 sm
      unfold Wd.rint at q'
      rw [hd, if_neg hf, if_neg hz] at q'
      have dd := (Dg.isDig_iff.mp h3).2
      have dn := (Dg.isDig_iff.mp h3).1
      by_cases hm : l.take 1 = [45]
      · rw [if_pos hm] at q'
        have el : l = 45 :: d := by
          cases l with
          | nil => cases hm
          | cons c r =>
            have hc : c = 45 := by simpa using hm
            unfold Wd.dash at hd
            rw [if_pos hm] at hd
            rw [hc, ← hd]; rfl
        have hlen : (S l).length ≤ 640 := by rw [S_len, el, List.length_cons]; omega
        exact ⟨S l, _, rfl, PySem.intText_neg (x := S l) (cs := d) el dd dn (by omega), hlen, q'⟩
      · rw [if_neg hm] at q'
        have el : l = d := by
          unfold Wd.dash at hd
          rw [if_neg hm] at hd
          exact hd
        have hlen : (S l).length ≤ 640 := by rw [S_len, el]; omega
        rw [← el] at q' h3 dn
        refine ⟨S l, _, rfl, int_S ?_ dn (by rw [el]; omega), hlen, q'⟩
        unfold Dg.isDig at h3
        rw [Bool.and_eq_true] at h3
        exact h3.2
    refine iteK (fun g1 => ?_) (fun g1 => ?_)
    · walk_at "go"
      have e0 : decide (V.str (S l) = V.str "0") = decide (l = [48]) := dec_str l [48]
      rw [e0]
      refine iteNK (fun g2 => ?_) (fun g2 => ?_)
      · walk_at "go"
        refine no sm ?_
        unfold Wd.rint
        rw [hd, if_neg hf, if_pos ⟨g1, g2⟩]
      · walk_at "go"
        exact fin fun z => z.2 g2
    · refine iteF ?_
      walk_at "go"
      exact fin fun z => g1 z.1
end
section
variable {P : Program} {w : World} {K : PySem.W.Frag} {mg : Str → Option Value} {base : Heap} {a : Adr}
/-! ### a line of words -/
abbrev sv (ws : List (List Nat)) : List V := ws.map fun z => V.str (S z)
abbrev lf (W : Addr) (l p : Int) : List (Str × V) := [("words", .ref W), ("line", .int l), ("place", .int p)]
theorem lf_words (W : Addr) (l p : Int) : (lf W l p).lookup ("words" : Str) = some (.ref W) := lk_hd
theorem lf_line (W : Addr) (l p : Int) : (lf W l p).lookup ("line" : Str) = some (.int l) := by
  rw [lk_tl (by decide +kernel)]; exact lk_hd
theorem lf_place (W : Addr) (l p : Int) : (lf W l p).lookup ("place" : Str) = some (.int p) := by
  rw [lk_tl (by decide +kernel), lk_tl (by decide +kernel)]; exact lk_hd
theorem lf_no (W : Addr) (l p : Int) {f : Str} (h1 : ¬ f = "words") (h2 : ¬ f = "line") (h3 : ¬ f = "place") : (lf W l p).lookup f = none := by
  rw [lk_tl h1, lk_tl h2, lk_tl h3]; rfl
theorem lf_put (W : Addr) (l p v : Int) : putF "place" (.int v) (lf W l p) = lf W l v := by
  show (if ("words" : Str) = "place" then _ else (("words" : Str), V.ref W) :: (if ("line" : Str) = "place" then _ else (("line" : Str), V.int l) :: (if ("place" : Str) = "place" then _ else _))) = lf W l v
  rw [if_neg (by decide +kernel), if_neg (by decide +kernel), if_pos rfl]
theorem lf_made (W : Addr) (l : Int) : putF "place" (.int 0) (putF "line" (.int l) (putF "words" (.ref W) [])) = lf W l 0 := by
  have e1 : putF "words" (.ref W) [] = [(("words" : Str), V.ref W)] := rfl
  have e2 : putF "line" (.int l) [(("words" : Str), V.ref W)] = [(("words" : Str), V.ref W), (("line" : Str), V.int l)] := by
    show (if ("words" : Str) = "line" then _ else (("words" : Str), V.ref W) :: putF "line" (.int l) []) = _
    rw [if_neg (by decide +kernel)]; rfl
  rw [e1, e2]
  show (if ("words" : Str) = "place" then _ else (("words" : Str), V.ref W) :: (if ("line" : Str) = "place" then _ else (("line" : Str), V.int l) :: putF "place" (.int 0) [])) = lf W l 0
  rw [if_neg (by decide +kernel), if_neg (by decide +kernel)]; rfl
structure Ln (a : Adr) (x dx W : Addr) (ws : List (List Nat)) (l : Int) (p : Nat) (H : Hp) : Prop where
  x_ : H x = some (.ins a.C_Line dx (lf W l p))
  W_ : H W = some (.lst (sv ws))
theorem Ln.same {x dx W : Addr} {ws : List (List Nat)} {l : Int} {p : Nat} {H H' : Hp} (I : Ln a x dx W ws l p H) (h : Same H H') : Ln a x dx W ws l p H' := ⟨h _ _ I.x_, h _ _ I.W_⟩
theorem Ln.ne {x dx W : Addr} {ws : List (List Nat)} {l : Int} {p : Nat} {H : Hp} (I : Ln a x dx W ws l p H) : W ≠ x := ne_of I.W_ I.x_ (by intro z; cases z)
theorem Ln.rel {x dx W : Addr} {ws : List (List Nat)} {l : Int} {p p' : Nat} {H H' : Hp} (I : Ln a x dx W ws l p H) (h : RelT x H H') (hx : H' x = some (.ins a.C_Line dx (lf W l p'))) : Ln a x dx W ws l p' H' := ⟨hx, h _ _ I.ne I.W_⟩
theorem rel_upd {x : Addr} {H : Hp} {o : HO} : RelT x H (upd H x o) := fun b u hb h => (upd_ne hb).trans h
theorem Ln.step {x dx W : Addr} {ws : List (List Nat)} {l : Int} {p p' : Nat} {H : Hp} (I : Ln a x dx W ws l p H) : Ln a x dx W ws l p' (upd H x (.ins a.C_Line dx (lf W l p'))) := I.rel rel_upd upd_same
theorem inV_sv (x : List Nat) : ∀ es : List (List Nat), inV (.str (S x)) (sv es) = decide (x ∈ es)
  | [] => rfl
  | y :: es => by
    have ih := inV_sv x es
    unfold inV at ih ⊢
    rw [sv, List.map_cons, List.any_cons, ih]
    show (S y == S x || decide (x ∈ es)) = decide (x ∈ y :: es)
    rw [S_beq_eq]
    by_cases h : y = x
    · subst h; simp
    · have h'' : ¬ x = y := fun q => h q.symm
      rw [decide_eq_false h, Bool.false_or]
      simp [h'']
theorem inV_non : ∀ es : List (List Nat), inV .non (sv es) = false
  | [] => rfl
  | y :: es => by
    have ih := inV_non es
    unfold inV at ih ⊢
    rw [sv, List.map_cons, List.any_cons, ih]; rfl
theorem flat_sv (es : List (List Nat)) : (sv es).all flatV = true := by
  rw [List.all_map]; simp [flatV, Function.comp_def]
theorem sv_at {ws : List (List Nat)} {p : Nat} {x : List Nat} (h : ws[p]? = some x) : atI (sv ws) ((p : Nat) : Int) = some (.str (S x)) := atI_nat (by rw [List.getElem?_map, h]; rfl)
theorem split_sv {t : List Nat} : Txt.split (S t) (S [32]) = (Wd.cutw t).map S := split_S (by decide) (by decide)
def sp_Line_init (a : Adr) : Sp := fun vs H Q _ => ∃ (x dx : Addr) (t : List Nat) (l : Int), vs = [.ref x, .str (S t), .int l] ∧ t.length ≤ 100000 ∧ H x = some (.ins a.C_Line dx []) ∧
  ∀ W H', Ln a x dx W (Wd.cutw t) l 0 H' → RelT x H H' → Q .non H'
theorem ok_Line_init (T : Txt K mg a) : FnOk P w K mg base CX0 1 a.f_Line_init a.d_Line_init ["self", "text", "line"] (sp_Line_init a) := by
  refine T.F_Line_init.ok sc_Line_init (fun vs H Q E h => ?_) (fun cdv A outer s H vs Q E hr h => ?_)
  · obtain ⟨x, dx, t, l, rfl, _⟩ := h
    rfl
  · obtain ⟨x, dx, t, l, rfl, ht, hx, q⟩ := h
    refine ⟨_, (pss_cons (ps_fld (pv 0) (pe_split (pv 1) pe_str) rfl)
       (pss_cons (ps_fld (pv 0) (pv 2) rfl)
       (pss_one (ps_fld (pv 0) pe_int rfl)))), ?_⟩
    refine red (σ' := [some (.ref x), some (.str (S t)), some (.int l)]) rfl ?_
    try dsimp only [cxOf]
    have e2 : sizeLine = 16777216 := sizeLine_eq
    walk_at "go"
    refine ⟨⟨_, rfl⟩, ?_⟩
    walk_at "go"
    refine ⟨S t, " ", rfl, rfl, by decide, by rw [S_len]; omega, fun W hW => ?_⟩
    have es : Txt.split (S t) (Str.ofString " ") = (Wd.cutw t).map S := split_sv
    rw [es, List.map_map]
    have Wx : W ≠ x := (ne_of_none hx hW).symm
    walk_at "go"
    refine ⟨x, _, dx, [], rfl, (upd_ne Wx.symm).trans hx, T.c_Line, T.n_Line_words, by decide, ?_⟩
    walk_at "go"
    refine ⟨x, _, dx, _, rfl, upd_same, T.c_Line, T.n_Line_line, by show 1 < 1000; decide, ?_⟩
    walk_at "go"
    refine ⟨x, _, dx, _, rfl, upd_same, T.c_Line, T.n_Line_place, by show 2 < 1000; decide, ?_⟩
    rw [lf_made, upd_upd, upd_upd]
    exact q W _ ⟨upd_same, (upd_ne Wx).trans upd_same⟩ fun b o hb h => (upd_ne hb).trans ((upd_ne (ne_of_none h hW)).trans h)
def sp_Line_upcoming (a : Adr) : Sp := fun vs H Q _ => ∃ (x dx W : Addr) (ws : List (List Nat)) (l : Int) (p : Nat), vs = [.ref x] ∧ Ln a x dx W ws l p H ∧ Q ((ws[p]?.map fun z => V.str (S z)).getD .non) H
theorem fld {x dx W : Addr} {l p : Int} {H : Hp} {f : Str} {v : V} {R : V → Prop} (T : Txt K mg a) (h : H x = some (.ins a.C_Line dx (lf W l p))) (n : NoAttr K a.C_Line f) (e : (lf W l p).lookup f = some v) (q : R v) :
    ∃ b C dx fs v, V.ref x = .ref b ∧ H b = some (.ins C dx fs) ∧ Cls K C ∧ NoAttr K C f ∧ fs.lookup f = some v ∧ R v := ⟨x, _, _, _, _, rfl, h, T.c_Line, n, e, q⟩
theorem ok_Line_upcoming (T : Txt K mg a) : FnOk P w K mg base CX0 1 a.f_Line_upcoming a.d_Line_upcoming ["self"] (sp_Line_upcoming a) := by
  refine T.F_Line_upcoming.ok sc_Line_upcoming (fun vs H Q E h => ?_) (fun cdv A outer s H vs Q E hr h => ?_)
  · obtain ⟨x, dx, W, ws, l, p, rfl, _⟩ := h
    rfl
  · obtain ⟨x, dx, W, ws, l, p, rfl, I, q⟩ := h
    refine ⟨_, (pss_cons (ps_if (pt_cmpR op_lt (pe_fld (pv 0) rfl) (pe_callB call_len_seq (by rfl) T.z_len (by decide +kernel) (pa_cons (pe_fld (pv 0) rfl) pa_nil)) (nomark _))
       (pss_one (ps_ret (pe_ix ix_list (pe_fld (pv 0) rfl) (pe_fld (pv 0) rfl) (fun _ _ => rfl))))
       pss_nil)
       (pss_one (ps_ret pe_non))), ?_⟩
    refine red (σ' := [some (.ref x)]) rfl ?_
    try dsimp only [cxOf]
    walk_at "go"
    refine fld T I.x_ T.n_Line_place (lf_place W l p) ?_
    walk_at "go"
    refine fld T I.x_ T.n_Line_words (lf_words W l p) ?_
    walk_at "go"
    refine ⟨W, _, rfl, .inl (SqL.of I.W_), ?_⟩
    walk_at "go"
    rw [List.length_map]
    refine iteK (fun h => ?_) (fun h => ?_)
    · have hp : p < ws.length := by omega
      rw [List.getElem?_eq_getElem hp] at q
      walk_at "go"
      refine fld T I.x_ T.n_Line_words (lf_words W l p) ?_
      walk_at "go"
      refine fld T I.x_ T.n_Line_place (lf_place W l p) ?_
      refine g_ixL (SqL.of I.W_) (sv_at (List.getElem?_eq_getElem hp)) ?_
      exact q
    · walk_at "go"
      rw [List.getElem?_eq_none (by omega)] at q
      exact q
/-- a method that takes a word: what it gives, or the error at its place -/
def Takes1 (a : Adr) (x dx W : Addr) (ws : List (List Nat)) (l : Int) (H : Hp) (E : XK) {α : Type} (r : Except Nat (α × Nat)) (Q : α → Hp → Prop) : Prop :=
  (∀ e, r = .error e → BadAt a.C_BadText E H l e) ∧ ∀ v p', r = .ok (v, p') → ∀ H', Ln a x dx W ws l p' H' → RelT x H H' → Q v H'
end
section
variable {P : Program} {w : World} {K : PySem.W.Frag} {mg : Str → Option Value} {base : Heap} {a : Adr}
def sp_Line_take_integer (a : Adr) : Sp := fun vs H Q E => ∃ (x dx W : Addr) (ws : List (List Nat)) (l lo hi : Int) (p : Nat), vs = [.ref x, .int lo, .int hi] ∧ l.natAbs < 1000000 ∧ p ≤ 1000000 ∧ Ln a x dx W ws l p H ∧ (∀ z ∈ ws, z.length ≤ 1000) ∧
  ∀ H1, Same H H1 → Takes1 a x dx W ws l H1 E (Wd.int lo hi ws p) fun v H' => Q (.int v) H'
theorem ok_Line_take_integer (T : Txt K mg a) : FnOk P w K mg base (L2.CX P w) 3 a.f_Line_take_integer a.d_Line_take_integer ["self", "least", "most"] (sp_Line_take_integer a) := by
  refine T.F_Line_take_integer.okX sc_Line_take_integer (fun vs H Q E h => ?_) (fun cdv A outer s H vs Q E hr h => ?_)
  · obtain ⟨x, dx, W, ws, l, lo, hi, p, rfl, _⟩ := h
    rfl
  · obtain ⟨x, dx, W, ws, l, lo, hi, p, rfl, hl, hp, I, hws, q⟩ := h
    refine ⟨_, (pss_cons (ps_set (i := 3) sc_Line_take_integer.nd rfl (.inl rfl) (pe_meth0 (pv 0) T.c_Line T.m_Line_upcoming (ok_Line_upcoming T) (hr.mono (by decide)) T.b_Line_upcoming .nil pass0))
       (pss_cons (ps_set (i := 4) sc_Line_take_integer.nd rfl (.inl rfl) pe_non)
       (C8.pss_cut (ps_if (pt_cmpR op_notN (pv 3) pe_non (nomark _))
       (pss_one (ps_set (i := 4) sc_Line_take_integer.nd rfl (.inl rfl) (pe_call (ok_read_integer T) (hr.mono (by decide)) (by rfl) T.g_read_integer T.F_read_integer.kp T.b_read_integer .nil pass0 (pa_cons (pv 3) pa_nil))))
       pss_nil)
       (pss_cons (ps_if (PW.pt (pw_or (pt_cmpR op_isN (pv 4) pe_non (nomark _)) (pw_or1 (pt_not (pt_chain op_le op_le (pv 1) (pv 4) (pv 2))))))
       (pss_one (ps_raise rfl (takes_of rfl rfl rfl rfl) (pmk_oex T.x_BadText T.i_BadText T.u_BadText (ok_BadText_init T) (hr.mono (by decide)) T.b_BadText_init .nil pass0 rfl T.g_BadText (pa_cons (pe_fld (pv 0) rfl) (pa_cons (pe_fld (pv 0) rfl) pa_nil)))))
       pss_nil)
       (pss_cons (ps_fldaug (pv 0) pe_int in_add)
       (pss_one (ps_ret (pv 4)))))))), ?_⟩
    refine red (σ' := [some (.ref x), some (.int lo), some (.int hi), none, none]) rfl ?_
    try dsimp only [cxOf]
    walk_at "go"
    refine ⟨x, _, _, rfl, I.x_, lf_no _ _ _ (by decide +kernel) (by decide +kernel) (by decide +kernel), ?_⟩
    walk_at "go"
    refine ⟨x, dx, W, ws, l, p, rfl, I, ?_⟩
    walk_at "go"
    refine ⟨fun σ' H' => ∃ y3, σ' = [some (.ref x), some (.int lo), some (.int hi), y3, some (((ws[p]?.bind Wd.rint).map V.int).getD .non)] ∧ Same H H', ?_, ?_⟩
    · walk_at "go"
      cases ew : ws[p]? with
      | none =>
        refine ite_n rfl ?_
        walk_at "go"
        exact ⟨_, rfl, Same.refl H⟩
      | some v =>
        refine ite_y rfl ?_
        walk_at "go"
        refine ⟨v, rfl, hws v (List.mem_of_getElem? ew), fun H1 sm => ?_⟩
        walk_at "go"
        exact ⟨_, rfl, sm⟩
    rintro σ' H1 ⟨y3, rfl, sm⟩
    obtain ⟨q1, q2⟩ := q H1 sm
    replace I := I.same sm
    unfold Wd.int at q1 q2
    walk_at "go"
    cases ew : ws[p]?.bind Wd.rint with
    | none =>
      rw [ew] at q1
      refine ite_y rfl ?_
      refine iteT ?_
      walk_at "go"
      refine fld T I.x_ T.n_Line_line (lf_line W l p) ?_
      walk_at "go"
      refine fld T I.x_ T.n_Line_place (lf_place W l p) ?_
      exact mk_bad T (by omega) (by omega) (q1 p rfl)
    | some n =>
      rw [ew] at q1 q2
      refine ite_n rfl ?_
      dsimp only [Option.map, Option.getD]
      have bad : ¬ (lo ≤ n ∧ n ≤ hi) → BadAt a.C_BadText E H1 l p := fun h => q1 p (if_neg h)
      walk_at "go"
      refine iteK (fun h1 => ?_) (fun h1 => ?_)
      · walk_at "go"
        refine iteNK (fun h2 => ?_) (fun h2 => ?_)
        · walk_at "go"
          refine fld T I.x_ T.n_Line_line (lf_line W l p) ?_
          walk_at "go"
          refine fld T I.x_ T.n_Line_place (lf_place W l p) ?_
          exact mk_bad T (by omega) (by omega) (bad fun z => h2 z.2)
        · have q2' := q2 n (p + 1) (if_pos ⟨h1, h2⟩)
          walk_at "go"
          refine ⟨x, _, dx, _, .int p, rfl, I.x_, T.c_Line, T.n_Line_place, lf_place W l p, ?_⟩
          walk_at "go"
          refine ⟨(p : Int), 1, rfl, rfl, ?_⟩
          refine ⟨dx, _, I.x_, by show 3 < 1000; decide, ?_⟩
          rw [lf_put]
          have e1 : ((p : Nat) : Int) + 1 = ((p + 1 : Nat) : Int) := by omega
          rw [e1]
          walk_at "go"
          exact q2' _ I.step rel_upd
      · walk_at "go"
        refine ite_y rfl ?_
        walk_at "go"
        refine fld T I.x_ T.n_Line_line (lf_line W l p) ?_
        walk_at "go"
        refine fld T I.x_ T.n_Line_place (lf_place W l p) ?_
        exact mk_bad T (by omega) (by omega) (bad fun z => h1 z.1)
end
section
variable {P : Program} {w : World} {K : PySem.W.Frag} {mg : Str → Option Value} {base : Heap} {a : Adr}
/-! ### residues taken out of a line -/
/-- a line of a row -/
structure LnR (a : Adr) (x dx W : Addr) (row : List Int) (l : Int) (p : Nat) (H : Hp) : Prop where
  ln : Ln a x dx W (Wd.wr row) l p H
theorem wr_len {row : List Int} (h : ∀ n ∈ row, n.natAbs < 10 ^ 18) : ∀ z ∈ Wd.wr row, z.length ≤ 1000 := fun z hz => by
  unfold Wd.wr at hz
  split at hz
  · rw [List.mem_singleton.mp hz]; decide
  · obtain ⟨n, hn, rfl⟩ := List.mem_map.mp hz
    have := Wd.itxt_len (k := 18) (by decide) (h n hn)
    omega
def sp_take_residues (K : PySem.W.Frag) (a : Adr) : Sp := fun vs H Q E => ∃ (x dx W : Addr) (row : List Int) (l per : Int), vs = [.ref x, .int per] ∧ l.natAbs < 1000000 ∧ row.length ≤ 1000 ∧ 2 ≤ row.length ∧ (∀ n ∈ row, n.natAbs < 10 ^ 18) ∧ Ln a x dx W (Wd.wr row) l 2 H ∧
  ∀ H', RelT x H H' → (∀ e, Wd.resBad per none (row.drop 2) 2 = some e → BadAt a.C_BadText E H' l e) ∧ (Wd.resBad per none (row.drop 2) 2 = none → ∀ t, SqT K H' t ((row.drop 2).map V.int) → Q (.ref t) H')
theorem ok_take_residues (T : Txt K mg a) : FnOk P w K mg base (L2.CX P w) 4 a.f_take_residues a.d_take_residues ["line", "period"] (sp_take_residues K a) := by
  refine T.F_take_residues.okX sc_take_residues (fun vs H Q E h => ?_) (fun cdv A outer s H vs Q E hr h => ?_)
  · obtain ⟨x, dx, W, row, l, per, rfl, _⟩ := h
    rfl
  · obtain ⟨x, dx, W, row, l, per, rfl, hl, hn, h2, hb, I, q⟩ := h
    refine ⟨_, (pss_cons (ps_set (i := 2) sc_take_residues.nd rfl (.inl rfl) (pe_lst pa_nil))
       (pss_cons (ps_while (passes_of rfl) (pt_cmpR op_notN (pe_meth0 (pv 0) T.c_Line T.m_Line_upcoming (ok_Line_upcoming T) (hr.mono (by decide)) T.b_Line_upcoming .nil pass0) pe_non (nomark _))
       (C8.pss_cut (ps_set (i := 3) sc_take_residues.nd rfl (.inl rfl) (pe_ifExp (pt_cmpR op_gt (pe_callB call_len_seq (by rfl) T.z_len (by decide +kernel) (pa_cons (pv 2) pa_nil)) pe_int (nomark _)) (pe_op op_add (pe_ix ix_list (pv 2) (pe_un un_neg pe_int) (fun _ _ => rfl)) pe_int) pe_int))
       (pss_cons (ps_if (pt_cmpR op_ge (pe_callB call_len_seq (by rfl) T.z_len (by decide +kernel) (pa_cons (pv 2) pa_nil)) (C8.pe_gc (v := .int 200000) (by rfl) T.g_RESIDUES_MOST) (nomark _))
       (pss_one ps_never)
       pss_nil)
       (pss_one (ps_expr (pe_bm PySem.F.plainAttrs_list PySem.F.slot_list_append PySem.F.type_list_append mt_append (pv 2) (pa_cons (pe_meth (pv 0) T.c_Line T.m_Line_take_integer (ok_Line_take_integer T) (hr.mono (by decide)) T.b_Line_take_integer .nil (passes_call (takes_of rfl rfl rfl rfl) (fun _ _ _ _ h => h)) (pa_cons (pv 3) (pa_cons (pe_op op_sub (pv 1) pe_int) pa_nil))) pa_nil)))))))
       (pss_one (ps_ret (pe_callTy call_tuple_of (by rfl) T.z_tuple (by decide +kernel) (pa_cons (pv 2) pa_nil)))))), ?_⟩
    refine red (σ' := [some (.ref x), some (.int per), none, none]) rfl ?_
    try dsimp only [cxOf]
    have hrow : row ≠ [] := fun e => by rw [e] at h2; simp at h2
    walk_at "go"
    refine nwL (ys := []) rfl (by decide) fun F H1 hF sm hFF => ?_
    walk_at "go"
    have hxF : F ≠ x := (ne_of_none I.x_ hF).symm
    refine ⟨fun m σ' H' => ∃ (k : Nat) (y : Option V), σ' = [some (.ref x), some (.int per), some (.ref F), y] ∧ 2 ≤ k ∧ k ≤ row.length ∧ RelT x H H' ∧ Ln a x dx W (Wd.wr row) l k H' ∧ H' F = some (.lst (((row.take k).drop 2).map V.int)) ∧
      Wd.resBad per none (row.drop 2) 2 = Wd.resBad per (if k = 2 then none else row[k - 1]?) (row.drop k) k ∧ (∀ q, (if k = 2 then none else row[k - 1]?) = some q → 0 ≤ q) ∧ m = row.length - k,
      ⟨_, 2, _, rfl, Nat.le_refl _, h2, RelT.of sm, I.same sm, ?_, rfl, fun q e => (by cases e), rfl⟩, ?_⟩
    · rw [hFF, List.drop_take]; rfl
    rintro m σ' H2 ⟨k, y, rfl, k2, kn, r2, I2, hF2, hres, hprev, rfl⟩
    walk_at "go"
    refine ⟨x, _, _, rfl, I2.x_, lf_no _ _ _ (by decide +kernel) (by decide +kernel) (by decide +kernel), ?_⟩
    walk_at "go"
    refine ⟨x, dx, W, Wd.wr row, l, k, rfl, I2, ?_⟩
    walk_at "go"
    cases er : row[k]? with
    | none =>
      have e1 : (Wd.wr row)[k]? = none := (Wd.wr_none (by omega)).mpr er
      rw [e1]
      refine ite_n rfl ?_
      walk_at "go"
      have ek : k = row.length := by
        have := List.getElem?_eq_none_iff.mp er
        omega
      subst ek
      rw [List.take_length] at hF2
      rw [List.drop_length] at hres
      refine ⟨F, _, rfl, .inl ⟨SqL.of hF2, fun t ht => ?_⟩⟩
      exact (q _ (r2.trans (RelT.of (same_new ht)))).2 hres t (SqT.of upd_same)
    | some n =>
      obtain ⟨z, e1⟩ : ∃ z, (Wd.wr row)[k]? = some z := by
        cases e : (Wd.wr row)[k]? with
        | none => rw [(Wd.wr_none (by omega)).mp e] at er; cases er
        | some z => exact ⟨z, rfl⟩
      rw [e1]
      refine ite_y rfl ?_
      have hkl := (List.getElem?_eq_some_iff.mp er).1
      refine ⟨fun σ' H' => ∃ y : Option V, σ' = [some (.ref x), some (.int per), some (.ref F), y] ∧ RelT x H H' ∧ Ln a x dx W (Wd.wr row) l (k + 1 : Nat) H' ∧ H' F = some (.lst (((row.take (k + 1)).drop 2).map V.int)) ∧
        Wd.resBad per none (row.drop 2) 2 = Wd.resBad per (some n) (row.drop (k + 1)) (k + 1) ∧ 0 ≤ n, ?_, ?_⟩
      · rintro σ' H' ⟨y, rfl, b1, b2, b3, b4, b5⟩
        refine ⟨row.length - (k + 1), by omega, k + 1, y, rfl, by omega, by omega, b1, b2, b3, ?_, ?_, rfl⟩
        · rw [if_neg (by omega), Nat.add_sub_cancel, er]; exact b4
        · rw [if_neg (by omega), Nat.add_sub_cancel, er]
          intro q e; cases e; exact b5
      have hfl : ((row.take k).drop 2).length = k - 2 := by rw [List.length_drop, List.length_take]; omega
      have hdk : row.drop k = n :: row.drop (k + 1) := by
        obtain ⟨h1, rfl⟩ := List.getElem?_eq_some_iff.mp er
        exact List.drop_eq_getElem_cons h1
      have htk : (row.take (k + 1)).drop 2 = (row.take k).drop 2 ++ [n] := by
        rw [take_more er, List.drop_append_of_le_length (by rw [List.length_take]; omega)]
      rw [hdk, Wd.resBad] at hres
      obtain ⟨lo, hlo, hcond⟩ : ∃ lo : Int, lo = Wd.leastOf (if k = 2 then none else row[k - 1]?) ∧ (Wd.RBad per (if k = 2 then none else row[k - 1]?) n ↔ ¬ (lo ≤ n ∧ n ≤ per - 1)) := ⟨_, rfl, Wd.rbad_iff hprev⟩
      have hint : Wd.int lo (per - 1) (Wd.wr row) k = if lo ≤ n ∧ n ≤ per - 1 then .ok (n, k + 1) else .error k := by
        rw [Wd.int_row hb (.inr hrow)]
        unfold Wd.gi
        rw [er]
      have hn18 := hb n (List.mem_of_getElem? er)
      refine ⟨fun σ' H' => σ' = [some (.ref x), some (.int per), some (.ref F), some (.int lo)] ∧ H' = H2, ?_, ?_⟩
      · walk_at "go"
        rw [List.length_map, hfl]
        refine iteK (fun h => ?_) (fun h => ?_)
        · have hk2 : ¬ k = 2 := by omega
          rw [if_neg hk2] at hlo
          have hkk : k - 1 < row.length := by omega
          rw [List.getElem?_eq_getElem hkk] at hlo
          have hlo : lo = row[k - 1] + 1 := hlo
          have e5 : ((row.take k).drop 2).map V.int = ((row.take (k - 1)).drop 2).map V.int ++ [V.int row[k - 1]] := by
            have := take_more (List.getElem?_eq_getElem hkk)
            rw [Nat.sub_add_cancel (by omega)] at this
            rw [this, List.drop_append_of_le_length (by rw [List.length_take]; omega), List.map_append]; rfl
          rw [e5] at hF2
          walk_at "go"
          refine g_ixL (SqL.of hF2) (atI_last _ _) ?_
          walk_at "go"
          rw [hlo]
          exact ⟨rfl, rfl⟩
        · have hk2 : k = 2 := by omega
          rw [if_pos hk2] at hlo
          have hlo : lo = 0 := hlo
          walk_at "go"
          rw [hlo]
          exact ⟨rfl, rfl⟩
      rintro σ' H3 ⟨rfl, rfl⟩
      walk_at "go"
      rw [List.length_map, hfl]
      refine iteK (fun h => absurd h (by omega)) (fun _ => ?_)
      walk_at "go"
      refine ⟨.inl ⟨rfl, _, SqL.of hF2⟩, ?_⟩
      walk_at "go"
      refine ⟨x, _, _, rfl, I2.x_, lf_no _ _ _ (by decide +kernel) (by decide +kernel) (by decide +kernel), ?_⟩
      walk_at "go"
      refine ⟨x, dx, W, Wd.wr row, l, lo, per - 1, k, rfl, hl, by omega, I2, wr_len hb, fun H4 sm4 => ⟨fun e he => ?_, fun v p' hv H5 I5 r5 => ?_⟩⟩
      · rw [hint] at he
        by_cases c : lo ≤ n ∧ n ≤ per - 1
        · rw [if_pos c] at he; cases he
        · rw [if_neg c] at he
          cases he
          rw [if_pos (hcond.mpr c)] at hres
          exact (q H4 (r2.trans (RelT.of sm4))).1 k hres
      · rw [hint] at hv
        by_cases c : lo ≤ n ∧ n ≤ per - 1
        · rw [if_pos c] at hv
          cases hv
          rw [if_neg (fun z => hcond.mp z c)] at hres
          have hF5 := r5 _ _ hxF (sm4 _ _ hF2)
          refine ⟨F, _, _, rfl, rfl, hF5, by rw [List.length_map, hfl]; have := sizeBig; omega, ?_⟩
          refine ⟨_, rfl, fun b o hb ho => ?_, ?_, ?_, hres, ?_⟩
          · rw [upd_ne (ne_of_none ho hF)]
            exact r5 b o hb (sm4 b o (r2 b o hb ho))
          · exact ⟨(upd_ne hxF.symm).trans I5.x_, (upd_ne (ne_of_none I.W_ hF)).trans I5.W_⟩
          · rw [upd_same, htk, List.map_append]; rfl
          · exact Int.not_lt.mp fun z => (hcond.mp (.inr (.inl z))) c
        · rw [if_neg c] at hv; cases hv
end
section
variable {P : Program} {w : World} {K : PySem.W.Frag} {mg : Str → Option Value} {base : Heap} {a : Adr}
structure RowsIn (rows : List (List Int)) : Prop where
  ne : rows ≠ []
  few : rows.length ≤ 20
  row : ∀ row ∈ rows, row.length ≤ 40 ∧ ∀ n ∈ row, n.natAbs < 10 ^ 18 ∧ (n ≤ 1000000000000 → n < 1073741824)
theorem joinL_len (sep : List Nat) (m : Nat) : ∀ ws : List (List Nat), (∀ w ∈ ws, w.length ≤ m) → (TL.joinL sep ws).length ≤ (m + sep.length) * ws.length
  | [], _ => by simp [TL.joinL]
  | [w], h => by
    have := h w List.mem_cons_self
    show w.length ≤ _
    simp; omega
  | w :: v :: r, h => by
    have h1 := h w List.mem_cons_self
    have ih := joinL_len sep m (v :: r) fun x hx => h x (List.mem_cons_of_mem _ hx)
    show (w ++ (sep ++ TL.joinL sep (v :: r))).length ≤ _
    rw [List.length_append, List.length_append, List.length_cons, Nat.mul_succ]
    omega
theorem rowT_len {row : List Int} (h1 : row.length ≤ 40) (h2 : ∀ n ∈ row, n.natAbs < 10 ^ 18) : (Wd.rowT row).length ≤ 800 := by
  have := joinL_len [32] 19 (row.map Wd.itxt) fun w hw => by
    obtain ⟨n, hn, rfl⟩ := List.mem_map.mp hw
    exact Wd.itxt_len (k := 18) (by decide) (h2 n hn)
  rw [List.length_map] at this
  have e : 19 + [32].length = 20 := rfl
  rw [e] at this
  unfold Wd.rowT Wd.txt
  omega
theorem RowsIn.len {rows : List (List Int)} (h : RowsIn rows) : (Wd.rowsT rows).length ≤ 20000 := by
  have := joinL_len [10] 800 (rows.map Wd.rowT) fun w hw => by
    obtain ⟨row, hr, rfl⟩ := List.mem_map.mp hw
    exact rowT_len (h.row row hr).1 fun n hn => ((h.row row hr).2 n hn).1
  rw [List.length_map] at this
  have e : 800 + [10].length = 801 := rfl
  rw [e] at this
  have := h.few
  unfold Wd.rowsT
  omega
def sp_read_pattern (K : PySem.W.Frag) (a : Adr) : Sp := fun vs H Q E => ∃ rows : List (List Int), vs = [.str (S (Wd.rowsT rows))] ∧ RowsIn rows ∧
  ∀ H', Same H H' → (∀ l e, Wd.wrong rows = some (l, e) → BadAt a.C_BadText E H' l e) ∧ (Wd.wrong rows = none → ∀ u, Dp K H' (.ref u) (patD (Per.tid (rows.map Wd.pcOf))) → Q (.ref u) H')
theorem ok_read_pattern (T : Txt K mg a) : FnOk P w K mg base (L2.CX P w) 5 a.f_read_pattern a.d_read_pattern ["text"] (sp_read_pattern K a) := by
  refine T.F_read_pattern.okX sc_read_pattern (fun vs H Q E h => ?_) (fun cdv A outer s H vs Q E hr h => ?_)
  · obtain ⟨rows, rfl, _⟩ := h
    rfl
  · obtain ⟨rows, rfl, hR, q⟩ := h
    refine ⟨_, (pss_cons (ps_set (i := 1) sc_read_pattern.nd rfl (.inl rfl) (pe_lst pa_nil))
       (pss_cons (ps_for (passes_of rfl) rfl (pi_enum (by rfl) T.z_enumerate (pa_cons (pe_split (pv 0) pe_str) pa_nil)) (pg_tup (by rfl) (pgs_cons (pg_name (i := 2) sc_read_pattern.nd rfl (.inl rfl)) (pgs_cons (pg_name (i := 3) sc_read_pattern.nd rfl (.inl rfl)) pgs_nil)))
       (pss_cons (ps_set (i := 4) sc_read_pattern.nd rfl (.inl rfl) (pe_make T.M_Line (ok_Line_init T) (hr.mono (by decide)) (by rfl) T.g_Line T.b_Line_init .nil pass0 (pa_cons (pv 3) (pa_cons (pe_op op_add (pv 2) pe_int) pa_nil))))
       (C8.pss_cut (ps_set (i := 5) sc_read_pattern.nd rfl (.inl rfl) (pe_ifExp (pt_cmpR op_gt (pe_callB call_len_seq (by rfl) T.z_len (by decide +kernel) (pa_cons (pv 1) pa_nil)) pe_int (nomark _)) (pe_op op_add (pe_ix ix_tup (pe_ix ix_list (pv 1) (pe_un un_neg pe_int) (fun _ _ => rfl)) pe_int (fun _ _ => rfl)) pe_int) pe_int))
       (pss_cons (ps_set (i := 6) sc_read_pattern.nd rfl (.inl rfl) (pe_meth (pv 4) T.c_Line T.m_Line_take_integer (ok_Line_take_integer T) (hr.mono (by decide)) T.b_Line_take_integer .nil (passes_call (takes_of rfl rfl rfl rfl) (fun _ _ _ _ h => h)) (pa_cons (pv 5) (pa_cons (C8.pe_gc (v := .int 1000000000000) (by rfl) T.g_PERIOD_MOST) pa_nil))))
       (C8.pss_cut (ps_if (PW.pt (pw_and (pt_cmpR op_eq (pv 2) pe_int (nomark _)) (pw_and1 (pt_cmpR op_ne (pv 6) pe_int (nomark _)))))
       (pss_one (ps_raise rfl (takes_of rfl rfl rfl rfl) (pmk_oex T.x_BadText T.i_BadText T.u_BadText (ok_BadText_init T) (hr.mono (by decide)) T.b_BadText_init .nil pass0 rfl T.g_BadText (pa_cons pe_int (pa_cons pe_int pa_nil)))))
       pss_nil)
       (pss_cons (ps_set (i := 7) sc_read_pattern.nd rfl (.inl rfl) (pe_meth (pv 4) T.c_Line T.m_Line_take_integer (ok_Line_take_integer T) (hr.mono (by decide)) T.b_Line_take_integer .nil (passes_call (takes_of rfl rfl rfl rfl) (fun _ _ _ _ h => h)) (pa_cons pe_int (pa_cons (C8.pe_gc (v := .int 1000000000000) (by rfl) T.g_PERIOD_MOST) pa_nil))))
       (pss_one (ps_expr (pe_bm PySem.F.plainAttrs_list PySem.F.slot_list_append PySem.F.type_list_append mt_append (pv 1) (pa_cons (pe_tup (pa_cons (pv 6) (pa_cons (pv 7) (pa_cons (pe_call (ok_take_residues T) (hr.mono (by decide)) (by rfl) T.g_take_residues T.F_take_residues.kp T.b_take_residues .nil (passes_call (takes_of rfl rfl rfl rfl) (fun _ _ _ _ h => h)) (pa_cons (pv 4) (pa_cons (pv 7) pa_nil))) pa_nil)))) pa_nil))))))))))
       (pss_one (ps_ret (pe_call (ok_tidied T) (hr.mono (by decide)) (by rfl) T.g_tidied T.F_tidied.kp T.b_tidied .nil pass0 (pa_cons (pv 1) pa_nil)))))), ?_⟩
    refine red (σ' := [some (.str (S (Wd.rowsT rows))), none, none, none, none, none, none, none]) rfl ?_
    try dsimp only [cxOf]
    walk_at "go"
    refine nwL (ys := []) rfl (by decide) fun F H1 hF sm hFF => ?_
    walk_at "go"
    have hlen := hR.len
    have esl := sizeLine_eq
    refine ⟨⟨_, rfl⟩, ?_⟩
    walk_at "go"
    refine ⟨S (Wd.rowsT rows), S [10], rfl, rfl, by rw [S_len]; rfl, by rw [S_len]; omega, ?_⟩
    rw [show Txt.split (S (Wd.rowsT rows)) (S [10]) = (rows.map Wd.rowT).map S by rw [split_S (by decide) (by decide), Wd.cut_rows hR.ne]]
    refine fun Ls hLs => ?_
    have sm2 : Same H1 _ := same_new (o := .lst (((rows.map Wd.rowT).map S).map V.str)) hLs
    have hLL : upd H1 Ls (.lst (((rows.map Wd.rowT).map S).map V.str)) Ls = some (.lst (sv (rows.map Wd.rowT))) := by rw [upd_same, sv, List.map_map]; rfl
    generalize upd H1 Ls (.lst (((rows.map Wd.rowT).map S).map V.str)) = H2 at sm2 hLL
    replace sm := sm.trans sm2
    have hFF0 := hFF
    replace hFF := sm2 _ _ hFF
    have hFL : Ls ≠ F := (ne_of_none hFF0 hLs).symm
    clear sm2 hLs hFF0
    walk_at "go"
    refine ⟨Ls, _, rfl, SqL.of hLL, ?_⟩
    refine for_it (walk_enum (K := K) (a := Ls) (xs := sv (rows.map Wd.rowT))) (fun i σ' H' => ∃ (fv : List V) (y2 y3 y4 y5 y6 y7 : Option V), σ' = [some (.str (S (Wd.rowsT rows))), some (.ref F), y2, y3, y4, y5, y6, y7] ∧ Same H H' ∧ KeepT H2 H' ∧ H' Ls = some (.lst (sv (rows.map Wd.rowT))) ∧ H' F = some (.lst fv) ∧
      DpAll K H' fv (((rows.take i).map Wd.pcOf).map pcD) ∧ (∀ row ∈ rows.take i, Wd.POkR row) ∧ Wd.wrong rows = Wd.wrongGo i (Wd.leastAt rows i) (rows.drop i))
      ⟨[], _, _, _, _, _, _, rfl, sm, KeepT.refl _, hLL, hFF, .nil, fun r hr => (by cases hr), rfl⟩ (fun i σ' H' _ h => ?_) ?_ ?_
    · obtain ⟨fv, _, _, _, _, _, _, _, _, _, h, _⟩ := h
      exact SqL.of h
    · rintro i v σ' H3 H4 hi ⟨fv, y2, y3, y4, y5, y6, y7, rfl, s3, k3, hL3, hF3, hd3, ho3, hw3⟩ ⟨t, x, y, rfl, ht, rfl, hx, hy⟩
      rw [List.length_map, List.length_map] at hi
      cases hx
      obtain ⟨row, hrow, rfl⟩ : ∃ row, rows[i]? = some row ∧ y = .str (S (Wd.rowT row)) := by
        have hy : (sv (rows.map Wd.rowT))[i]? = some y := hy
        rw [List.getElem?_map, List.getElem?_map] at hy
        cases e : rows[i]? with
        | none => rw [e] at hy; cases hy
        | some r => rw [e] at hy; exact ⟨r, rfl, (Option.some.inj hy).symm⟩
      have s4 := same_new (o := .tup [.int (i : Nat), .str (S (Wd.rowT row))]) ht
      refine g_gtup ⟨t, _, rfl, SqT.of upd_same, rfl, ?_⟩
      replace s3 := s3.trans s4
      replace k3 := k3.trans (KeepT.of s4)
      replace hL3 := s4 _ _ hL3
      replace hF3 := s4 _ _ hF3
      replace hd3 := dpAll_same s4 _ hd3
      generalize upd H3 t (.tup [.int (i : Nat), .str (S (Wd.rowT row))]) = H5 at s3 k3 hL3 hF3 hd3
      clear s4 ht
      obtain ⟨hr1, hr2⟩ := hR.row row (List.mem_of_getElem? hrow)
      have hb : ∀ n ∈ row, n.natAbs < 10 ^ 18 := fun n hn => (hr2 n hn).1
      have hfew := hR.few
      walk_at "go"
      intro x dx hx hdx dxx
      refine ⟨x, dx, Wd.rowT row, (i : Nat) + 1, rfl, by have := rowT_len hr1 hb; omega, upd_same, fun W H6 I rel => ⟨rfl, ?_⟩⟩
      rw [Wd.cut_row] at I
      have rel' : RelT x H5 H6 := fun b o hb h => by
        have hb2 : b ≠ dx := ne_of_none h hdx
        exact rel b o hb ((upd_ne hb).trans ((upd_ne hb2).trans h))
      have hxn : ∀ {b o}, H5 b = some o → b ≠ x := fun h => ne_of_none h hx
      walk_at "go"
      have fr : ∀ {H'}, RelT x H6 H' → Same H5 H' := fun r b o h => r b o (hxn h) (rel' b o (hxn h) h)
      have sm6 := fr (RelT.refl x H6)
      obtain ⟨wErr, wOk⟩ := Wd.wrong_at hrow hw3
      have hlo0 := Wd.leastAt_nonneg (Nat.le_of_lt hi) ho3
      have hfl : fv.length = i := by
        have := dpAll_len hd3
        rw [List.length_map, List.length_map, List.length_take] at this
        omega
      have bad : ∀ {H' : Hp} {e : Nat}, RelT x H6 H' → Wd.rowErr (decide (i = 0)) (Wd.leastAt rows i) row = some e → BadAt a.C_BadText E H' ((i : Nat) + 1) e := fun {H' e} r he => by
        have := (q H' (s3.trans (fr r))).1 (i + 1) e (wErr e he)
        rw [Int.natCast_add] at this
        exact this
      refine ⟨fun σ' H' => σ' = [some (.str (S (Wd.rowsT rows))), some (.ref F), some (.int (i : Nat)), some (.str (S (Wd.rowT row))), some (.ref x), some (.int (Wd.leastAt rows i)), y6, y7] ∧ H' = H6, ?_, ?_⟩
      · walk_at "go"
        refine ⟨F, _, rfl, .inl (SqL.of (sm6 _ _ hF3)), ?_⟩
        walk_at "go"
        rw [hfl]
        refine iteK (fun h => ?_) (fun h => ?_)
        · have hl : i - 1 < rows.length := by omega
          have e5 : rows.take i = rows.take (i - 1) ++ [rows[i - 1]] := by
            have := take_more (List.getElem?_eq_getElem hl)
            rwa [Nat.sub_add_cancel (by omega)] at this
          rw [e5, List.map_append, List.map_append] at hd3
          obtain ⟨us, v, rfl, _, hd4⟩ := dpAll_last hd3
          obtain ⟨la, lt, rfl, hla, _⟩ := pc_inv (dp_same sm6 _ hd4)
          have hpos := (ho3 rows[i - 1] (by rw [e5]; exact List.mem_append_right _ List.mem_cons_self)).pos
          walk_at "go"
          refine g_ixL (SqL.of (sm6 _ _ hF3)) (atI_last us _) ?_
          walk_at "go"
          refine ⟨?_, rfl⟩
          have e6 : (((Wd.pcOf rows[i - 1]).1 : Nat) : Int) + 1 = Wd.leastAt rows i := by
            unfold Wd.leastAt
            rw [if_neg (by omega), List.getD_eq_getElem?_getD, List.getElem?_eq_getElem hl]
            show (((rows[i - 1].getD 0 0).toNat : Nat) : Int) + 1 = rows[i - 1].headD 0 + 1
            rw [Wd.head_getD] at hpos ⊢
            omega
          rw [e6]; rfl
        · have h0 : i = 0 := by omega
          walk_at "go"
          refine ⟨?_, rfl⟩
          have e6 : Wd.leastAt rows i = 0 := by unfold Wd.leastAt; rw [if_pos h0]
          rw [e6]; rfl
      rintro σ' H7 ⟨rfl, rfl⟩
      walk_at "go"
      refine ⟨x, _, _, rfl, I.x_, lf_no _ _ _ (by decide +kernel) (by decide +kernel) (by decide +kernel), ?_⟩
      walk_at "go"
      refine ⟨x, dx, W, Wd.wr row, (i : Nat) + 1, Wd.leastAt rows i, Wd.MOST, 0, rfl, by omega, by omega, I, wr_len hb, fun H8 sm8 => ⟨fun e he => ?_, fun st p' hv H9 I9 r9 => ?_⟩⟩
      · rw [Wd.int_row hb (.inl rfl)] at he
        obtain ⟨rfl, hbad⟩ := Wd.gi_err he
        exact bad (RelT.of sm8) (Wd.rowErr0 hbad)
      rw [Wd.int_row hb (.inl rfl)] at hv
      obtain ⟨rfl, hst, hst1, hst2⟩ := Wd.gi_ok hv
      have hne : row ≠ [] := fun e => by rw [e] at hst; cases hst
      replace r9 := (RelT.of sm8).trans r9
      clear sm8 hv
      refine g_next ?_
      refine ⟨fun σ' H' => σ' = [some (.str (S (Wd.rowsT rows))), some (.ref F), some (.int (i : Nat)), some (.str (S (Wd.rowT row))), some (.ref x), some (.int (Wd.leastAt rows i)), some (.int st), y7] ∧ H' = H9 ∧ (decide (i = 0) = true → st = 0), ?_, ?_⟩
      · walk_at "go"
        rw [dec_int]
        refine iteK (fun h => ?_) (fun h => ?_)
        · have hi0 : i = 0 := by omega
          walk_at "go"
          rw [dec_int]
          refine iteNK (fun h2 => ?_) (fun h2 => ?_)
          · walk_at "go"
            have hb0 := bad (e := 0) r9 (by rw [decide_eq_true hi0]; exact Wd.rowErr0' hst h2)
            rw [hi0] at hb0
            exact mk_bad T (by decide) (by decide) hb0
          · walk_at "go"
            exact ⟨rfl, rfl, fun _ => h2⟩
        · refine iteF ?_
          walk_at "go"
          exact ⟨rfl, rfl, fun z => absurd (of_decide_eq_true z) (by omega)⟩
      rintro σ' H10 ⟨rfl, rfl, hz⟩
      walk_at "go"
      refine ⟨x, _, _, rfl, I9.x_, lf_no _ _ _ (by decide +kernel) (by decide +kernel) (by decide +kernel), ?_⟩
      walk_at "go"
      refine ⟨x, dx, W, Wd.wr row, (i : Nat) + 1, 1, Wd.MOST, 1, rfl, by omega, by omega, I9, wr_len hb, fun H11 sm11 => ⟨fun e he => ?_, fun per p' hv H12 I12 r12 => ?_⟩⟩
      · rw [Wd.int_row hb (.inr hne)] at he
        obtain ⟨rfl, hbad⟩ := Wd.gi_err he
        exact bad (r9.trans (RelT.of sm11)) (Wd.rowErr1 hst ⟨hst1, hst2⟩ hz hbad)
      rw [Wd.int_row hb (.inr hne)] at hv
      obtain ⟨rfl, hper, hper1, hper2⟩ := Wd.gi_ok hv
      have h2 : 2 ≤ row.length := (List.getElem?_eq_some_iff.mp hper).1
      replace r12 := (r9.trans (RelT.of sm11)).trans r12
      clear sm11 hv r9
      have s12 := fr r12
      walk_at "go"
      refine ⟨.inl ⟨rfl, _, SqL.of (s12 _ _ hF3)⟩, ?_⟩
      walk_at "go"
      refine ⟨x, dx, W, row, (i : Nat) + 1, per, rfl, by omega, by omega, h2, hb, I12, fun H13 r13 => ?_⟩
      replace r13 := r12.trans r13
      have s13 := fr r13
      refine ⟨fun e he => bad r13 ((Wd.rowErr2 hst ⟨hst1, hst2⟩ hz hper ⟨hper1, hper2⟩).trans he), fun he t3 ht3 => ?_⟩
      have hok := Wd.pokR_of hst hlo0 ⟨hst1, hst2⟩ hz hper ⟨hper1, hper2⟩ he
      have hnx := wOk ((Wd.rowErr2 hst ⟨hst1, hst2⟩ hz hper ⟨hper1, hper2⟩).trans he)
      walk_at "go"
      refine nwT (ys := [.int st, .int per, .ref t3]) rfl (by show 3 ≤ 1000000; decide) fun u H14 _ s14 hu => ?_
      replace ht3 := SqT.ext ht3 s14
      replace s14 := s13.trans s14
      have hF14 := s14 _ _ hF3
      refine ⟨F, _, _, rfl, rfl, hF14, by rw [hfl]; have := sizeBig; omega, ?_⟩
      have kp : KeepT H14 (upd H14 F (.lst (fv ++ [.ref u]))) := KeepT.putL hF14
      have hrs : ∀ r ∈ row.drop 2, 0 ≤ r := fun r hr => (((Wd.resBad_none (fun q hq => by cases hq)).mp he).1 r hr).1
      refine ⟨_, _, _, _, _, _, _, rfl, same_put hF (s3.trans s14), (k3.trans (KeepT.of s14)).trans kp, ?_, upd_same, ?_, ?_, hnx⟩
      · exact (upd_ne hFL).trans (s14 _ _ hL3)
      · rw [take_more hrow, List.map_append, List.map_append]
        refine dpAll_app (dpAll_keep kp _ (noL_pcs _) (dpAll_same s14 _ hd3)) (.cons ?_ .nil)
        refine dp_keep kp _ (noL_pc _) (pc_mk (t := t3) (p := Wd.pcOf row) ?_ ?_)
        · have e1 : (((Wd.pcOf row).1 : Nat) : Int) = st := by
            show (((row.getD 0 0).toNat : Nat) : Int) = st
            rw [List.getD_eq_getElem?_getD, hst]
            show ((st.toNat : Nat) : Int) = st
            omega
          have e2 : (((Wd.pcOf row).2.1 : Nat) : Int) = per := by
            show (((row.getD 1 0).toNat : Nat) : Int) = per
            rw [List.getD_eq_getElem?_getD, hper]
            show ((per.toNat : Nat) : Int) = per
            omega
          rw [e1, e2]
          exact SqT.of hu
        · have e3 : ni (Wd.pcOf row).2.2 = (row.drop 2).map V.int := by
            show ((row.drop 2).map Int.toNat).map _ = _
            rw [List.map_map]
            exact List.map_congr_left fun r hr => by
              have := hrs r hr
              show V.int ((r.toNat : Nat) : Int) = V.int r
              rw [Int.toNat_of_nonneg this]
          rw [e3]
          exact ht3
      · rw [take_more hrow]
        intro r hr
        rcases List.mem_append.mp hr with hr | hr
        · exact ho3 r hr
        · rw [List.mem_singleton.mp hr]; exact hok
    · rintro σ' H3 ⟨fv, y2, y3, y4, y5, y6, y7, rfl, s3, k3, hL3, hF3, hd3, ho3, hw3⟩
      rw [List.length_map, List.length_map, List.take_length] at hd3 ho3
      rw [List.drop_of_length_le (by rw [List.length_map, List.length_map]; exact Nat.le_refl _)] at hw3
      have hw : Wd.wrong rows = none := hw3
      walk_at "go"
      have hfew := hR.few
      refine ⟨F, fv, rows.map Wd.pcOf, rfl, hF3, hd3, fun p hp => ?_, by rw [List.length_map]; omega, fun u H4 s4 hd => (q H4 (s3.trans s4)).2 hw u hd⟩
      obtain ⟨row, hrow, rfl⟩ := List.mem_map.mp hp
      obtain ⟨hr1, hr2⟩ := hR.row row hrow
      have hok := ho3 row hrow
      refine ⟨hok.ok, ?_, ?_⟩
      · have hp1 := hok.ok.pos
        show (row.getD 1 0).toNat < 1073741824
        have hp1 : 1 ≤ (row.getD 1 0).toNat := hp1
        cases e : row[1]? with
        | none => rw [List.getD_eq_getElem?_getD, e] at hp1; exact absurd hp1 (by decide)
        | some n =>
          have hsm := hok.small
          rw [List.getD_eq_getElem?_getD, e] at hsm ⊢
          have := (hr2 n (List.mem_of_getElem? e)).2 hsm
          show n.toNat < 1073741824
          omega
      · show ((row.drop 2).map Int.toNat).length ≤ 1000
        rw [List.length_map, List.length_drop]
        omega
end
section
variable {P : Program} {w : World} {K : PySem.W.Frag} {mg : Str → Option Value} {base : Heap} {a : Adr}
def sp_law_mod : Sp := fun vs H Q _ => ∃ i n : Int, vs = [.int i, .int n] ∧ 0 < n ∧ n < 1073741824 ∧ Q (.int (i % n)) H
theorem ok_law_mod (T : Txt K mg a) : FnOk P w K mg base CX0 1 a.f_law_mod a.d_law_mod ["a", "n"] sp_law_mod := by
  refine T.F_law_mod.ok sc_law_mod (fun vs H Q E h => ?_) (fun cdv A outer s H vs Q E hr h => ?_)
  · obtain ⟨i, n, rfl, _⟩ := h
    rfl
  · obtain ⟨i, n, rfl, n0, n1, q⟩ := h
    refine ⟨_, (pss_one (ps_ret (pe_op op_sub (pv 0) (pe_op op_mul (pe_op op_fdivE (pv 0) (pv 1)) (pv 1))))), ?_⟩
    refine red (σ' := [some (.int i), some (.int n)]) rfl ?_
    try dsimp only [cxOf]
    walk_at "go"
    try refine g_I (cmul_r (by omega) (by omega)) ?_
    try walk_at "go"
    have e : i - i / n * n = i % n := by rw [Int.emod_def, Int.mul_comm]
    show Q (.int (i - i / n * n)) H
    rw [e]
    exact q
end
section
variable {P : Program} {w : World} {K : PySem.W.Frag} {mg : Str → Option Value} {base : Heap} {a : Adr}
/-! ### a pattern's text; the law's own pieces -/
theorem sv_app (ws vs : List Wd.W) : sv ws ++ sv vs = sv (ws ++ vs) := List.map_append.symm
theorem itxt_S (n : Int) : Str.ofString (toString n) = S (Wd.itxt n) := by
  unfold Wd.itxt
  by_cases h : n < 0
  · rw [if_pos h]
    obtain ⟨k, rfl⟩ : ∃ k : Nat, n = -((k : Int) + 1) := ⟨(-n - 1).toNat, by omega⟩
    have e : (toString (-((k : Int) + 1)) : String) = "-" ++ toString ((k + 1 : Nat) : Int) := by
      have : -((k : Int) + 1) = Int.negSucc k := by omega
      rw [this]; rfl
    have e3 : (-(-((k : Int) + 1))).toNat = k + 1 := by omega
    rw [e, e3]
    have e2 : Str.ofString ("-" ++ toString ((k + 1 : Nat) : Int)) = S ([45] ++ TL.numL (k + 1)) := by
      rw [← S_cat, ← num_S]
      exact TL.ext_tl (by rw [TL.tl_append]; first | rfl | simp [TL.tl, Str.ofString])
    exact e2
  · rw [if_neg h]
    obtain ⟨k, rfl⟩ := Int.eq_ofNat_of_zero_le (by omega : 0 ≤ n)
    rw [Int.toNat_natCast, num_S]
theorem sum_le {m : Nat} : ∀ ws : List (List Nat), (∀ z ∈ ws, z.length ≤ m) → (((ws.map S).map (·.length)).sum : Nat) ≤ m * ws.length
  | [], _ => by simp
  | p :: r, h => by
    have h1 := h p List.mem_cons_self
    have ih := sum_le r fun z hz => h z (List.mem_cons_of_mem _ hz)
    rw [List.map_cons, List.map_cons, List.sum_cons, S_len, List.length_cons, Nat.mul_succ]
    omega
theorem join1 {ws : List Wd.W} {p : Addr} {H : Hp} (hp : H p = some (.lst (sv ws))) : SqL K H p ((ws.map S).map V.str) ∨ SqT K H p ((ws.map S).map V.str) := .inl (by rw [List.map_map]; exact SqL.of hp)
theorem join2 {ws : List Wd.W} {m : Nat} {sep : List Nat} (h : ∀ z ∈ ws, z.length ≤ m) (hs : sep.length ≤ 2) (hm : (m + 2) * ws.length ≤ 1000000) : ((ws.map S).map (·.length)).sum + (ws.map S).length * (S sep).length ≤ 16777216 := by
  have := sum_le ws h
  rw [List.length_map, S_len]
  have h2 := Nat.mul_le_mul_left ws.length hs
  rw [Nat.add_mul] at hm
  omega
structure PcSm (p : Per.Piece) : Prop where
  st : p.1 < 10000000
  per : p.2.1 < 10000000
  few : p.2.2.length ≤ 30
  rs : ∀ r ∈ p.2.2, r < 10000000
def sp_pattern_text (K : PySem.W.Frag) : Sp := fun vs H Q _ => ∃ (t : Addr) (ps : List Per.Piece), vs = [.ref t] ∧ Dp K H (.ref t) (patD ps) ∧ ps.length ≤ 20 ∧ (∀ p ∈ ps, PcSm p) ∧ ∀ H', Same H H' → Q (.str (S (Wd.rowsT (ps.map Wd.rowOf)))) H'
theorem ok_pattern_text (T : Txt K mg a) : FnOk P w K mg base CX0 1 a.f_pattern_text a.d_pattern_text ["pattern"] (sp_pattern_text K) := by
  refine T.F_pattern_text.ok sc_pattern_text (fun vs H Q E h => ?_) (fun cdv A outer s H vs Q E hr h => ?_)
  · obtain ⟨t, ps, rfl, _⟩ := h
    rfl
  · obtain ⟨t, ps, rfl, hd, hn, hs, q⟩ := h
    refine ⟨_, (pss_cons (ps_set (i := 1) sc_pattern_text.nd rfl (.inl rfl) (pe_lst pa_nil))
       (pss_cons (ps_for PassesOwn.never rfl (pi_tup (pv 0)) (pg_tup (by rfl) (pgs_cons (pg_name (i := 2) sc_pattern_text.nd rfl (.inl rfl)) (pgs_cons (pg_name (i := 3) sc_pattern_text.nd rfl (.inl rfl)) (pgs_cons (pg_name (i := 4) sc_pattern_text.nd rfl (.inl rfl)) pgs_nil))))
       (pss_one (ps_expr (pe_bm PySem.F.plainAttrs_list PySem.F.slot_list_append PySem.F.type_list_append mt_append (pv 1) (pa_cons (pe_join pe_str (pe_lc (own := [("n", 5)]) (g := (gName 5)) rfl sc_pattern_text.nd (pi_tup (pe_op op_catT (pe_tup (pa_cons (pv 2) (pa_cons (pv 3) pa_nil))) (pv 4))) (blkOk_by (own := [("n", 5)]) (N := ["pattern", "lines", "start", "period", "residues", "n"]) (sc := defScope s_pattern_text) (by decide +kernel)) (fun _ _ _ _ _ => (pg_name (i := 5) sc_pattern_text.nd rfl (.inl rfl))) (fun _ _ _ _ _ => pts_nil) (fun _ _ _ _ _ => (pe_callTy call_str_int (by rfl) T.z_str (by decide +kernel) (pa_cons (pv 5) pa_nil))))) pa_nil)))))
       (pss_one (ps_ret (pe_join pe_str (pv 1)))))), ?_⟩
    refine red (σ' := [some (.ref t), none, none, none, none, none]) rfl ?_
    try dsimp only [cxOf]
    obtain ⟨xs, ht, hxs⟩ : ∃ xs, SqT K H t xs ∧ DpAll K H xs (ps.map pcD) := by
      cases hd with
      | tup s d => exact ⟨_, s, d⟩
    have hlen : xs.length = ps.length := by have := dpAll_len hxs; rw [List.length_map] at this; exact this
    walk_at "go"
    refine nwL (ys := []) rfl (by decide) fun F H1 hF sm hFF => ?_
    walk_at "go"
    refine ⟨t, rfl, ⟨_, SqT.ext ht sm⟩, ?_⟩
    refine for_tup (K := K) (a := t) (xs := xs) (fun i σ' H' => ∃ (y2 y3 y4 : Option V), σ' = [some (.ref t), some (.ref F), y2, y3, y4, none] ∧ Same H H' ∧ H' F = some (.lst (sv ((ps.take i).map fun p => Wd.rowT (Wd.rowOf p)))))
      ⟨_, _, _, rfl, sm, hFF⟩ (fun i σ' H' _ h => ?_) ?_ ?_
    · obtain ⟨_, _, _, _, h, _⟩ := h
      exact SqT.ext ht h
    · rintro i x σ' H2 hi ⟨y2, y3, y4, rfl, s2, hF2⟩
      obtain ⟨d, hd', hx⟩ := dpAll_at' hxs hi
      obtain ⟨p, hp, rfl⟩ : ∃ p, ps[i]? = some p ∧ d = pcD p := by
        rw [List.getElem?_map] at hd'
        cases e : ps[i]? with
        | none => rw [e] at hd'; cases hd'
        | some p => rw [e] at hd'; exact ⟨p, rfl, (Option.some.inj hd').symm⟩
      obtain ⟨pa, pt, rfl, hpa, hpt⟩ := pc_inv (dp_same s2 _ hx)
      have hps := hs p (List.mem_of_getElem? hp)
      have hi' := (List.getElem?_eq_some_iff.mp hp).1
      refine g_gtup ⟨pa, _, rfl, hpa, rfl, ?_⟩
      walk_at "go"
      refine ⟨.inl ⟨rfl, _, SqL.of hF2⟩, ?_⟩
      walk_at "go"
      refine ⟨⟨_, rfl⟩, ?_⟩
      walk_at "go"
      refine nwT (ys := [.int (p.1 : Nat), .int (p.2.1 : Nat)]) rfl (by show 2 ≤ 1000000; decide) fun u H3 _ s3 hu => ?_
      replace s2 := s2.trans s3
      replace hF2 := s3 _ _ hF2
      replace hpt := SqT.ext hpt s3
      walk_at "go"
      have hfew := hps.few
      have ell : (Wd.rowOf p).length = p.2.2.length + 2 := by show (p.2.2.map _).length + 1 + 1 = _; rw [List.length_map]
      refine g_catT (ys := (Wd.rowOf p).map V.int) (SqT.of hu) hpt (by show _ :: _ :: ni _ = _ :: _ :: ((p.2.2.map _).map V.int); rw [List.map_map]; rfl) (by simp) (by rw [List.length_map, ell]; omega) fun v H4 s4 hv => ?_
      replace s2 := s2.trans s4
      replace hF2 := s4 _ _ hF2
      refine ⟨v, rfl, ⟨_, hv⟩, fun D hD => ?_⟩
      have hn18 : ∀ n ∈ Wd.rowOf p, n.natAbs < 10 ^ 8 := fun n hn => by
        rcases List.mem_cons.mp hn with rfl | hn
        · have := hps.st; omega
        · rcases List.mem_cons.mp hn with rfl | hn
          · have := hps.per; omega
          · obtain ⟨r, hr, rfl⟩ := List.mem_map.mp hn
            have := hps.rs r hr; omega
      refine lc_tup (K := K) (a := v) (xs := (Wd.rowOf p).map V.int) (fun i H' => Same H4 H' ∧ H' D = some (.lst (sv (((Wd.rowOf p).take i).map Wd.itxt)))) ⟨same_new hD, upd_same⟩ (fun i H' _ h => SqT.ext hv h.1) ?_ ?_
      · rintro j x H5 hj ⟨s5, hD5⟩
        obtain ⟨n, hnn, rfl⟩ : ∃ n, (Wd.rowOf p)[j]? = some n ∧ x = .int n := by
          rw [List.getElem?_map] at hj
          cases e : (Wd.rowOf p)[j]? with
          | none => rw [e] at hj; cases hj
          | some r => rw [e] at hj; exact ⟨r, rfl, (Option.some.inj hj).symm⟩
        have hn8 := hn18 n (List.mem_of_getElem? hnn)
        walk_at "go"
        refine ⟨rfl, ?_⟩
        refine g_yes (iteT ?_)
        walk_at "go"
        refine g_strI (by omega) ?_
        rw [itxt_S]
        refine ⟨_, hD5, ?_, same_put hD s5, ?_⟩
        · have := sizeBig
          rw [List.length_map, List.length_map, List.length_take]
          omega
        · rw [upd_same, take_more hnn, List.map_append]
          exact congrArg (fun z => some (HO.lst z)) (sv_app _ [Wd.itxt n])
      · rintro H5 ⟨s5, hD5⟩
        rw [List.length_map, List.take_length] at hD5
        replace s2 := s2.trans s5
        replace hF2 := s5 _ _ hF2
        refine ⟨S [32], D, ((Wd.rowOf p).map Wd.itxt).map S, rfl, rfl, join1 hD5, join2 (m := 9) (fun z hz => ?_) (by decide) (by rw [List.length_map, ell]; omega), ?_⟩
        · obtain ⟨n, hn, rfl⟩ := List.mem_map.mp hz
          exact Wd.itxt_len (k := 8) (by decide) (hn18 n hn)
        rw [join_S]
        refine ⟨F, _, _, rfl, rfl, hF2, by rw [List.length_map, List.length_map, List.length_take]; have := sizeBig; omega, ?_⟩
        refine ⟨_, _, _, rfl, same_put hF s2, ?_⟩
        rw [upd_same, take_more hp, List.map_append]
        exact congrArg (fun z => some (HO.lst z)) (sv_app _ [Wd.rowT (Wd.rowOf p)])
    · rintro σ' H2 ⟨y2, y3, y4, rfl, s2, hF2⟩
      rw [hlen, List.take_length] at hF2
      walk_at "go"
      refine ⟨⟨_, rfl⟩, ?_⟩
      walk_at "go"
      refine ⟨S [10], F, (ps.map fun p => Wd.rowT (Wd.rowOf p)).map S, rfl, rfl, join1 hF2, ?_, ?_⟩
      · refine join2 (m := 800) (fun z hz => ?_) (by decide) (by rw [List.length_map]; omega)
        obtain ⟨p, hp, rfl⟩ := List.mem_map.mp hz
        have hps := hs p hp
        have hfew := hps.few
        refine rowT_len ?_ fun n hn => ?_
        · show (p.2.2.map _).length + 1 + 1 ≤ 40
          rw [List.length_map]; omega
        · rcases List.mem_cons.mp hn with rfl | hn
          · have := hps.st; omega
          · rcases List.mem_cons.mp hn with rfl | hn
            · have := hps.per; omega
            · obtain ⟨r, hr, rfl⟩ := List.mem_map.mp hn
              have := hps.rs r hr; omega
      · rw [join_S]
        have := q _ s2
        unfold Wd.rowsT at this
        rw [List.map_map] at this
        exact this
end
section
variable {P : Program} {w : World} {K : PySem.W.Frag} {mg : Str → Option Value} {base : Heap} {a : Adr}
/-! ### the law's own pieces -/
theorem flat_ni (R : List Nat) : (ni R).all flatV = true := by
  rw [List.all_map]; simp [flatV, Function.comp_def]
theorem inV_ni (r : Nat) : ∀ R : List Nat, inV (.int (r : Nat)) (ni R) = decide (r ∈ R)
  | [] => rfl
  | x :: R => by
    have ih := inV_ni r R
    unfold inV at ih ⊢
    rw [ni, List.map_cons, List.any_cons, ih]
    show (((x : Nat) : Int) == ((r : Nat) : Int) || decide (r ∈ R)) = decide (r ∈ x :: R)
    by_cases h : x = r
    · subst h; simp
    · have h' : ¬ r = x := fun z => h z.symm
      have h2 : ¬ ((x : Nat) : Int) = ((r : Nat) : Int) := by omega
      simp [h, h', h2]
structure Sub (R : List Nat) (size most : Nat) : Prop where
  asc : R.Pairwise (· < ·)
  bd : ∀ r ∈ R, r < size
  few : R.length ≤ most
def sp_law_subset (K : PySem.W.Frag) : Sp := fun vs H Q _ => ∃ (t c : Addr) (ns : List Int) (size most : Nat), vs = [.ref t, .int size, .int most] ∧ Tp t c ns H ∧ 0 < size ∧ size < 1073741824 ∧ most ≤ 30 ∧
  ∀ (p : Addr) (R : List Nat) (H' : Hp), Tp t c ns H' → RelT t H H' → Sub R size most → SqT K H' p (ni R) → Q (.ref p) H'
theorem ok_law_subset (T : Txt K mg a) : FnOk P w K mg base CX0 2 a.f_law_subset a.d_law_subset ["tape", "size", "most"] (sp_law_subset K) := by
  refine T.F_law_subset.ok sc_law_subset (fun vs H Q E h => ?_) (fun cdv A outer s H vs Q E hr h => ?_)
  · obtain ⟨t, c, ns, size, most, rfl, _⟩ := h
    rfl
  · obtain ⟨t, c, ns, size, most, rfl, I, s0, s1, m0, q⟩ := h
    refine ⟨_, (pss_cons (ps_set (i := 3) sc_law_subset.nd rfl (.inl rfl) (pe_lst pa_nil))
       (pss_cons (ps_for PassesOwn.never rfl (pi_range1 (by rfl) T.z_range (pa_cons (pe_call (ok_law_draw T) (hr.mono (by decide)) (by rfl) T.g_law_draw T.F_law_draw.kp T.b_law_draw .nil pass0 (pa_cons (pv 0) (pa_cons (pe_op op_add (pv 2) pe_int) pa_nil))) pa_nil)) (pg_name (i := 4) sc_law_subset.nd rfl (.inl rfl))
       (pss_cons (ps_set (i := 5) sc_law_subset.nd rfl (.inl rfl) (pe_call (ok_law_draw T) (hr.mono (by decide)) (by rfl) T.g_law_draw T.F_law_draw.kp T.b_law_draw .nil pass0 (pa_cons (pv 0) (pa_cons (pv 1) pa_nil))))
       (pss_one (ps_if (pt_cmpR op_notIn_seq (pv 5) (pv 3) rfl)
       (pss_one (ps_expr (pe_bm PySem.F.plainAttrs_list PySem.F.slot_list_append PySem.F.type_list_append mt_append (pv 3) (pa_cons (pv 5) pa_nil))))
       pss_nil))))
       (pss_one (ps_ret (pe_callTy call_tuple_of (by rfl) T.z_tuple (by decide +kernel) (pa_cons (pe_callB cr_sorted (by rfl) T.z_sorted (by decide +kernel) (pa_cons (pv 3) pa_nil)) pa_nil)))))), ?_⟩
    refine red (σ' := [some (.ref t), some (.int size), some (.int most), none, none, none]) rfl ?_
    try dsimp only [cxOf]
    walk_at "go"
    refine nwL (ys := []) rfl (by decide) fun F H1 hF sm hFF => ?_
    have hcF : c ≠ F := ne_of_none I.2 hF
    replace I := I.same sm
    walk_at "go"
    refine I.draw (by omega) (by omega) fun n H2 n0 n1 I2 rel => ?_
    have hFt : F ≠ t := I.ne hFF fun _ _ e => by cases e
    have rel0 : RelT t H H2 := (RelT.of sm).trans rel
    replace hFF := rel _ _ hFt hFF
    clear I sm
    obtain ⟨n, rfl⟩ := Int.eq_ofNat_of_zero_le n0
    refine ⟨_, rfl, by omega, by omega, ?_⟩
    rw [Int.toNat_natCast]
    refine for_range (lo := 0) (n := n) (fun i σ' H' => ∃ (R : List Nat) (y4 y5 : Option V), σ' = [some (.ref t), some (.int size), some (.int most), some (.ref F), y4, y5] ∧ Tp t c ns H' ∧ RelT t H H' ∧ H' F = some (.lst (ni R)) ∧ R.Nodup ∧ (∀ r ∈ R, r < size) ∧ R.length ≤ i)
      ⟨[], _, _, rfl, I2, rel0, hFF, List.nodup_nil, fun r hr => (by cases hr), Nat.le_refl _⟩ ?_ ?_
    · rintro i σ' H3 hi ⟨R, y4, y5, rfl, I3, rel3, hF3, nd, bd, few⟩
      walk_at "go"
      refine I3.draw (by omega) (by omega) fun r H4 r0 r1 I4 rel4 => ?_
      replace hF3 := rel4 _ _ hFt hF3
      replace rel3 := rel3.trans rel4
      obtain ⟨r, rfl⟩ := Int.eq_ofNat_of_zero_le r0
      walk_at "go"
      refine ⟨F, _, rfl, .inl (SqL.of hF3), rfl, flat_ni _, _, rfl, ?_⟩
      show if (!inV _ _) = true then _ else _
      rw [inV_ni]
      refine iteNK (fun h => ?_) (fun h => ?_)
      · walk_at "go"
        refine ⟨.inl ⟨rfl, _, SqL.of hF3⟩, ?_⟩
        walk_at "go"
        refine ⟨F, _, _, rfl, rfl, hF3, by rw [List.length_map]; have := sizeBig; omega, ?_⟩
        have e : HO.lst (ni R ++ [V.int (r : Nat)]) = .lst (ni (R ++ [r])) := by rw [ni, ni, List.map_append]; rfl
        rw [e]
        refine ⟨R ++ [r], _, _, rfl, ?_, fun b o hb ho => ?_, upd_same, ?_, ?_, by rw [List.length_append, List.length_singleton]; omega⟩
        · obtain ⟨⟨k, z, k0, z0, ht⟩, hc⟩ := I4
          exact ⟨⟨k, z, k0, z0, (upd_ne hFt.symm).trans ht⟩, (upd_ne hcF).trans hc⟩
        · rw [upd_ne (ne_of_none ho hF)]; exact rel3 b o hb ho
        · rw [List.nodup_append]
          exact ⟨nd, by simp, fun x hx y hy => by rw [List.mem_singleton.mp hy]; exact fun e => h (e ▸ hx)⟩
        · intro x hx
          rcases List.mem_append.mp hx with hx | hx
          · exact bd x hx
          · rw [List.mem_singleton.mp hx]; omega
      · walk_at "go"
        exact ⟨R, _, _, rfl, I4, rel3, hF3, nd, bd, by omega⟩
    · rintro σ' H3 ⟨R, y4, y5, rfl, I3, rel3, hF3, nd, bd, few⟩
      walk_at "go"
      refine ⟨F, R.map fun (r : Nat) => (r : Int), rfl, by rw [List.map_map]; exact SqL.of hF3, by rw [List.length_map]; omega, fun ns' p hp1 hp2 hp => ?_⟩
      have hmem : ∀ x ∈ ns', ∃ r ∈ R, x = (r : Int) := fun x hx => by
        obtain ⟨r, hr, e⟩ := List.mem_map.mp (hp1.mem_iff.mp hx)
        exact ⟨r, hr, e.symm⟩
      have hback : ns' = (ns'.map Int.toNat).map fun (r : Nat) => (r : Int) := by
        rw [List.map_map]
        conv => lhs; rw [← List.map_id ns']
        exact List.map_congr_left fun x hx => by
          obtain ⟨r, _, rfl⟩ := hmem x hx
          rfl
      have hnd : ns'.Nodup := hp1.nodup_iff.mpr (by
        rw [List.nodup_iff_pairwise_ne, List.pairwise_map]
        exact (List.nodup_iff_pairwise_ne.mp nd).imp fun h => by omega)
      have hlt : (ns'.map Int.toNat).Pairwise (· < ·) := by
        rw [List.pairwise_map]
        refine List.Pairwise.imp_of_mem (fun {x y} hx hy hxy => ?_) ((List.nodup_iff_pairwise_ne.mp hnd).and hp2)
        obtain ⟨r, _, rfl⟩ := hmem x hx
        obtain ⟨r2, _, rfl⟩ := hmem y hy
        obtain ⟨h1, h2⟩ := hxy
        rw [Int.toNat_natCast, Int.toNat_natCast]
        omega
      have s5 := same_new (o := .lst (ns'.map V.int)) hp
      walk_at "go"
      refine ⟨p, _, rfl, .inl ⟨SqL.of upd_same, fun l hl => ?_⟩⟩
      have s6 := s5.trans (same_new (o := .tup (ns'.map V.int)) hl)
      refine q l (ns'.map Int.toNat) _ (I3.same s6) (rel3.trans (RelT.of s6)) ⟨hlt, fun r hr => ?_, ?_⟩ ?_
      · obtain ⟨x, hx, rfl⟩ := List.mem_map.mp hr
        obtain ⟨r2, hr2, rfl⟩ := hmem x hx
        rw [Int.toNat_natCast]
        exact bd r2 hr2
      · have := hp1.length_eq
        rw [List.length_map] at this ⊢
        omega
      · rw [ni_ints, ← hback]
        exact SqT.of upd_same
theorem Tp.keep {t c : Addr} {ns : List Int} {H H' : Hp} (I : Tp t c ns H) (r : RelT t H H') : KeepT H H' := fun b o h tt => by
  by_cases e : b = t
  · subst e
    obtain ⟨⟨k, z, _, _, ht⟩, _⟩ := I
    rw [ht] at h
    cases h
    rcases tt with ⟨xs, e⟩ | ⟨q, xs, e⟩
    · cases e
    · cases e
  · exact r b o e h
structure LawPc (p : Per.Piece) : Prop where
  ok : Per.POk p
  st : p.1 ≤ 1000100
  per : p.2.1 ≤ 146097
  few : p.2.2.length ≤ 12
structure LawPs (ps : List Per.Piece) : Prop where
  all : ∀ p ∈ ps, LawPc p
  asc : Per.Asc ps
  head : ∃ p, ps[0]? = some p ∧ p.1 = 0
  few : ps.length ≤ 4
theorem Tp.putF {t c F : Addr} {ns : List Int} {H : Hp} {o : HO} (I : Tp t c ns H) (h1 : F ≠ t) (h2 : F ≠ c) : Tp t c ns (upd H F o) := by
  obtain ⟨⟨k, z, k0, z0, ht⟩, hc⟩ := I
  exact ⟨⟨k, z, k0, z0, (upd_ne h1.symm).trans ht⟩, (upd_ne h2.symm).trans hc⟩
def sp_law_pieces (K : PySem.W.Frag) : Sp := fun vs H Q _ => ∃ (t c : Addr) (ns : List Int), vs = [.ref t] ∧ Tp t c ns H ∧
  ∀ (L : Addr) (xs : List V) (ps : List Per.Piece) (H' : Hp), Tp t c ns H' → RelT t H H' → H' L = some (.lst xs) → DpAll K H' xs (ps.map pcD) → LawPs ps → Q (.ref L) H'
theorem ok_law_pieces (T : Txt K mg a) : FnOk P w K mg base CX0 3 a.f_law_pieces a.d_law_pieces ["tape"] (sp_law_pieces K) := by
  refine T.F_law_pieces.ok sc_law_pieces (fun vs H Q E h => ?_) (fun cdv A outer s H vs Q E hr h => ?_)
  · obtain ⟨t, c, ns, rfl, _⟩ := h
    rfl
  · obtain ⟨t, c, ns, rfl, I, q⟩ := h
    refine ⟨_, (pss_cons (ps_set (i := 1) sc_law_pieces.nd rfl (.inl rfl) pe_int)
       (pss_cons (ps_set (i := 2) sc_law_pieces.nd rfl (.inl rfl) (pe_lst pa_nil))
       (pss_cons (ps_for PassesOwn.never rfl (pi_range1 (by rfl) T.z_range (pa_cons (pe_op op_add pe_int (pe_call (ok_law_draw T) (hr.mono (by decide)) (by rfl) T.g_law_draw T.F_law_draw.kp T.b_law_draw .nil pass0 (pa_cons (pv 0) (pa_cons pe_int pa_nil)))) pa_nil)) (pg_name (i := 3) sc_law_pieces.nd rfl (.inl rfl))
       (pss_cons (ps_set (i := 4) sc_law_pieces.nd rfl (.inl rfl) (pe_op op_add pe_int (pe_call (ok_law_draw T) (hr.mono (by decide)) (by rfl) T.g_law_draw T.F_law_draw.kp T.b_law_draw .nil pass0 (pa_cons (pv 0) (pa_cons pe_int pa_nil)))))
       (pss_cons (ps_expr (pe_bm PySem.F.plainAttrs_list PySem.F.slot_list_append PySem.F.type_list_append mt_append (pv 2) (pa_cons (pe_tup (pa_cons (pv 1) (pa_cons (pv 4) (pa_cons (pe_call (ok_law_subset T) (hr.mono (by decide)) (by rfl) T.g_law_subset T.F_law_subset.kp T.b_law_subset .nil pass0 (pa_cons (pv 0) (pa_cons (pv 4) (pa_cons (pv 4) pa_nil)))) pa_nil)))) pa_nil)))
       (pss_one (ps_set (i := 1) sc_law_pieces.nd rfl (.inl rfl) (pe_op op_add (pe_op op_add (pv 1) pe_int) (pe_call (ok_law_draw T) (hr.mono (by decide)) (by rfl) T.g_law_draw T.F_law_draw.kp T.b_law_draw .nil pass0 (pa_cons (pv 0) (pa_cons pe_int pa_nil)))))))))
       (C8.pss_cut (ps_if (pt_cmpR op_eq (pe_call (ok_law_draw T) (hr.mono (by decide)) (by rfl) T.g_law_draw T.F_law_draw.kp T.b_law_draw .nil pass0 (pa_cons (pv 0) (pa_cons pe_int pa_nil))) pe_int (nomark _))
       (pss_cons (ps_set (i := 4) sc_law_pieces.nd rfl (.inl rfl) (pe_ix ix_list (pe_lst (pa_cons pe_int (pa_cons pe_int (pa_cons pe_int (pa_cons pe_int (pa_cons pe_int (pa_cons pe_int pa_nil))))))) (pe_call (ok_law_draw T) (hr.mono (by decide)) (by rfl) T.g_law_draw T.F_law_draw.kp T.b_law_draw .nil pass0 (pa_cons (pv 0) (pa_cons pe_int pa_nil))) (fun _ _ => rfl)))
       (pss_one (ps_expr (pe_bm PySem.F.plainAttrs_list PySem.F.slot_list_append PySem.F.type_list_append mt_append (pv 2) (pa_cons (pe_tup (pa_cons (pe_op op_add (pv 1) (pe_call (ok_law_draw T) (hr.mono (by decide)) (by rfl) T.g_law_draw T.F_law_draw.kp T.b_law_draw .nil pass0 (pa_cons (pv 0) (pa_cons (pe_op op_pow pe_int pe_int) pa_nil)))) (pa_cons (pv 4) (pa_cons (pe_call (ok_law_subset T) (hr.mono (by decide)) (by rfl) T.g_law_subset T.F_law_subset.kp T.b_law_subset .nil pass0 (pa_cons (pv 0) (pa_cons (pv 4) (pa_cons pe_int pa_nil)))) pa_nil)))) pa_nil)))))
       pss_nil)
       (pss_one (ps_ret (pv 2))))))), ?_⟩
    refine red (σ' := [some (.ref t), none, none, none, none]) rfl ?_
    try dsimp only [cxOf]
    walk_at "go"
    refine nwL (ys := []) rfl (by decide) fun F H1 hF sm hFF => ?_
    have hFc : F ≠ c := (ne_of_none I.2 hF).symm
    have k1 := KeepT.of sm
    replace I := I.same sm
    have hFt : F ≠ t := I.ne hFF fun _ _ e => by cases e
    walk_at "go"
    refine I.draw (by decide) (by decide) fun n H2 n0 n1 I2 rel => ?_
    replace hFF := rel _ _ hFt hFF
    have rel0 : RelT t H H2 := (RelT.of sm).trans rel
    clear I sm k1 rel
    obtain ⟨n, rfl⟩ := Int.eq_ofNat_of_zero_le n0
    walk_at "go"
    refine ⟨_, rfl, by omega, by omega, ?_⟩
    rw [show ((1 : Int) + (n : Nat)).toNat = n + 1 by omega]
    refine for_range (lo := 0) (n := n + 1) (fun i σ' H' => ∃ (s : Nat) (fv : List V) (ps : List Per.Piece) (y3 y4 : Option V), σ' = [some (.ref t), some (.int s), some (.ref F), y3, y4] ∧ Tp t c ns H' ∧ RelT t H H' ∧ H' F = some (.lst fv) ∧ DpAll K H' fv (ps.map pcD) ∧
      (∀ p ∈ ps, LawPc p ∧ p.1 < s) ∧ Per.Asc ps ∧ ps.length = i ∧ s ≤ 31 * i ∧ (i = 0 → s = 0) ∧ (0 < i → ∃ p, ps[0]? = some p ∧ p.1 = 0))
      ⟨0, [], [], _, _, rfl, I2, rel0, hFF, .nil, fun p hp => (by cases hp), List.Pairwise.nil, rfl, Nat.le_refl _, fun _ => rfl, fun h => absurd h (by decide)⟩ ?_ ?_
    · rintro i σ' H3 hi ⟨s, fv, ps, y3, y4, rfl, I3, rel3, hF3, hd3, ho3, ha3, hl3, hs3, hs0, hh3⟩
      walk_at "go"
      refine I3.draw (by decide) (by decide) fun p H4 p0 p1 I4 rel4 => ?_
      have k4 := I3.keep rel4
      replace hF3 := rel4 _ _ hFt hF3
      replace rel3 := rel3.trans rel4
      replace hd3 := dpAll_keep k4 _ (noL_pcs _) hd3
      clear I3 rel4 k4
      obtain ⟨p, rfl⟩ := Int.eq_ofNat_of_zero_le p0
      walk_at "go"
      refine ⟨.inl ⟨rfl, _, SqL.of hF3⟩, ?_⟩
      walk_at "go"
      have e1 : (1 : Int) + (p : Nat) = ((p + 1 : Nat) : Int) := by omega
      rw [e1]
      refine ⟨t, c, ns, p + 1, p + 1, rfl, I4, by omega, by omega, by omega, fun u R H5 I5 rel5 hsub hu => ?_⟩
      have k5 := I4.keep rel5
      replace hF3 := rel5 _ _ hFt hF3
      replace rel3 := rel3.trans rel5
      replace hd3 := dpAll_keep k5 _ (noL_pcs _) hd3
      clear I4 rel5 k5
      walk_at "go"
      refine nwT (ys := [.int (s : Nat), .int (p + 1 : Nat), .ref u]) rfl (by show 3 ≤ 1000000; decide) fun v H6 _ s6 hv => ?_
      replace I5 := I5.same s6
      replace hF3 := s6 _ _ hF3
      replace rel3 := rel3.trans (RelT.of s6)
      replace hd3 := dpAll_same s6 _ hd3
      replace hu := SqT.ext hu s6
      have hfl := dpAll_len hd3
      rw [List.length_map] at hfl
      refine ⟨F, _, _, rfl, rfl, hF3, by rw [hfl, hl3]; have := sizeBig; omega, ?_⟩
      have kp : KeepT H6 (upd H6 F (.lst (fv ++ [.ref v]))) := KeepT.putL hF3
      have I7 := I5.putF (o := .lst (fv ++ [.ref v])) hFt hFc
      have rel7 : RelT t H (upd H6 F (.lst (fv ++ [.ref v]))) := fun b o hb ho => by
        rw [upd_ne (ne_of_none ho hF)]; exact rel3 b o hb ho
      have hF7 : upd H6 F (.lst (fv ++ [.ref v])) F = some (.lst (fv ++ [.ref v])) := upd_same
      have hpc : LawPc ((s, p + 1, R) : Per.Piece) := ⟨⟨by show 1 ≤ p + 1; omega, hsub.asc, hsub.bd⟩, by show s ≤ 1000100; omega, by show p + 1 ≤ 146097; omega, by have := hsub.few; show R.length ≤ 12; omega⟩
      have hd7 : DpAll K (upd H6 F (.lst (fv ++ [.ref v]))) (fv ++ [.ref v]) ((ps ++ [(s, p + 1, R)]).map pcD) := by
        rw [List.map_append]
        exact dpAll_app (dpAll_keep kp _ (noL_pcs _) hd3) (.cons (pc_mk (p := (s, p + 1, R)) (sqT_keep (SqT.of hv) kp) (sqT_keep hu kp)) .nil)
      generalize upd H6 F (.lst (fv ++ [.ref v])) = H7 at I7 rel7 hF7 hd7
      clear kp I5 rel3 hF3 hd3
      walk_at "go"
      refine I7.draw (by decide) (by decide) fun d H8 d0 d1 I8 rel8 => ?_
      obtain ⟨d, rfl⟩ := Int.eq_ofNat_of_zero_le d0
      walk_at "go"
      refine ⟨s + 1 + d, _, ps ++ [(s, p + 1, R)], _, _, by rw [Int.natCast_add, Int.natCast_add]; rfl, I8, rel7.trans rel8, rel8 _ _ hFt hF7, dpAll_keep (I7.keep rel8) _ (noL_pcs _) hd7, ?_, ?_, ?_, by omega, by omega, fun _ => ?_⟩
      · intro x hx
        rcases List.mem_append.mp hx with hx | hx
        · have := ho3 x hx; exact ⟨this.1, by omega⟩
        · rw [List.mem_singleton.mp hx]; exact ⟨hpc, by show s < _; omega⟩
      · rw [Per.Asc, List.pairwise_append]
        exact ⟨ha3, List.pairwise_singleton _ _, fun x hx y hy => by rw [List.mem_singleton.mp hy]; exact (ho3 x hx).2⟩
      · rw [List.length_append, List.length_singleton, hl3]
      · rcases Nat.eq_zero_or_pos i with h0 | h0
        · have : ps = [] := List.length_eq_zero_iff.mp (by omega)
          subst this
          exact ⟨_, rfl, hs0 h0⟩
        · obtain ⟨x, hx, hx0⟩ := hh3 h0
          exact ⟨x, by rw [List.getElem?_append_left (by omega)]; exact hx, hx0⟩
    · rintro σ' H3 ⟨s, fv, ps, y3, y4, rfl, I3, rel3, hF3, hd3, ho3, ha3, hl3, hs3, hs0, hh3⟩
      refine ⟨fun σ' H' => ∃ (x1 y3 y4 : Option V) (fv : List V) (ps : List Per.Piece), σ' = [some (.ref t), x1, some (.ref F), y3, y4] ∧ Tp t c ns H' ∧ RelT t H H' ∧ H' F = some (.lst fv) ∧ DpAll K H' fv (ps.map pcD) ∧ LawPs ps, ?_, ?_⟩
      · walk_at "go"
        refine I3.draw (by decide) (by decide) fun z H4 _ _ I4 rel4 => ?_
        have k4 := I3.keep rel4
        replace hF3 := rel4 _ _ hFt hF3
        replace rel3 := rel3.trans rel4
        replace hd3 := dpAll_keep k4 _ (noL_pcs _) hd3
        clear I3 rel4 k4
        walk_at "go"
        rw [dec_int]
        refine iteK (fun h => ?_) (fun h => ?_)
        · walk_at "go"
          refine nwL (ys := ni [1461, 997, 730, 10631, 1461, 146097]) rfl (by show 6 ≤ 1000000; decide) fun L6 H5 _ s5 h6 => ?_
          replace I4 := I4.same s5
          replace hF3 := s5 _ _ hF3
          replace rel3 := rel3.trans (RelT.of s5)
          replace hd3 := dpAll_same s5 _ hd3
          walk_at "go"
          refine I4.draw (by decide) (by decide) fun j H6 j0 j1 I6 rel6 => ?_
          have hL6 := rel6 _ _ (I4.ne h6 fun _ _ e => by cases e) h6
          have k6 := I4.keep rel6
          replace hF3 := rel6 _ _ hFt hF3
          replace rel3 := rel3.trans rel6
          replace hd3 := dpAll_keep k6 _ (noL_pcs _) hd3
          clear I4 rel6 k6 h6 s5
          obtain ⟨j, rfl⟩ := Int.eq_ofNat_of_zero_le j0
          have hjl : j < [1461, 997, 730, 10631, 1461, 146097].length := by show j < 6; omega
          refine g_ixL (SqL.of hL6) (ni_at hjl) ?_
          have hx : 1 ≤ [1461, 997, 730, 10631, 1461, 146097][j] ∧ [1461, 997, 730, 10631, 1461, 146097][j] ≤ 146097 := by
            have hall : ∀ x ∈ [1461, 997, 730, 10631, 1461, 146097], 1 ≤ x ∧ x ≤ 146097 := by decide
            exact hall _ (List.getElem_mem hjl)
          generalize [1461, 997, 730, 10631, 1461, 146097][j] = p at hx
          clear hL6
          walk_at "go"
          refine ⟨.inl ⟨rfl, _, SqL.of hF3⟩, ?_⟩
          walk_at "go"
          refine I6.draw (by decide) (by decide) fun d H7 d0 d1 I7 rel7 => ?_
          have d1 : d < 1000000 := d1
          obtain ⟨d, rfl⟩ := Int.eq_ofNat_of_zero_le d0
          have k7 := I6.keep rel7
          replace hF3 := rel7 _ _ hFt hF3
          replace rel3 := rel3.trans rel7
          replace hd3 := dpAll_keep k7 _ (noL_pcs _) hd3
          clear I6 rel7 k7
          walk_at "go"
          refine ⟨t, c, ns, p, 4, rfl, I7, by omega, by omega, by omega, fun u R H8 I8 rel8 hsub hu => ?_⟩
          have k8 := I7.keep rel8
          replace hF3 := rel8 _ _ hFt hF3
          replace rel3 := rel3.trans rel8
          replace hd3 := dpAll_keep k8 _ (noL_pcs _) hd3
          clear I7 rel8 k8
          walk_at "go"
          refine nwT (ys := [.int (s + d : Nat), .int (p : Nat), .ref u]) (by rw [Int.natCast_add]) (by show 3 ≤ 1000000; decide) fun v H9 _ s9 hv => ?_
          replace I8 := I8.same s9
          replace hF3 := s9 _ _ hF3
          replace rel3 := rel3.trans (RelT.of s9)
          replace hd3 := dpAll_same s9 _ hd3
          replace hu := SqT.ext hu s9
          have hfl := dpAll_len hd3
          rw [List.length_map] at hfl
          refine ⟨F, _, _, rfl, rfl, hF3, by rw [hfl, hl3]; have := sizeBig; omega, ?_⟩
          have kp : KeepT H9 (upd H9 F (.lst (fv ++ [.ref v]))) := KeepT.putL hF3
          have hpc : LawPc ((s + d, p, R) : Per.Piece) := ⟨⟨hx.1, hsub.asc, hsub.bd⟩, by show s + d ≤ 1000100; omega, hx.2, by have := hsub.few; show R.length ≤ 12; omega⟩
          refine ⟨_, _, _, _, ps ++ [(s + d, p, R)], rfl, I8.putF hFt hFc, fun b o hb ho => ?_, upd_same, ?_, ?_, ?_, ?_, ?_⟩
          · rw [upd_ne (ne_of_none ho hF)]; exact rel3 b o hb ho
          · rw [List.map_append]
            exact dpAll_app (dpAll_keep kp _ (noL_pcs _) hd3) (.cons (pc_mk (p := (s + d, p, R)) (sqT_keep (SqT.of hv) kp) (sqT_keep hu kp)) .nil)
          · intro x hx
            rcases List.mem_append.mp hx with hx | hx
            · exact (ho3 x hx).1
            · rw [List.mem_singleton.mp hx]; exact hpc
          · rw [Per.Asc, List.pairwise_append]
            exact ⟨ha3, List.pairwise_singleton _ _, fun x hx y hy => by rw [List.mem_singleton.mp hy]; have := (ho3 x hx).2; show x.1 < s + d; omega⟩
          · obtain ⟨x, hx, hx0⟩ := hh3 (by omega)
            exact ⟨x, by rw [List.getElem?_append_left (by omega)]; exact hx, hx0⟩
          · rw [List.length_append, List.length_singleton]; omega
        · walk_at "go"
          exact ⟨_, _, _, fv, ps, rfl, I4, rel3, hF3, hd3, ⟨fun p hp => (ho3 p hp).1, ha3, hh3 (by omega), by omega⟩⟩
      · rintro σ' H4 ⟨x1, y3, y4, fv, ps, rfl, I4, rel4, hF4, hd4, hps⟩
        walk_at "go"
        exact q F fv ps H4 I4 rel4 hF4 hd4 hps
end
section
variable {P : Program} {w : World} {K : PySem.W.Frag} {mg : Str → Option Value} {base : Heap} {a : Adr}
/-! ### the law's own reading -/
def sp_law_in (K : PySem.W.Frag) : Sp := fun vs H Q _ => ∃ (L : Addr) (xs : List V) (ps : List Per.Piece) (d : Nat), vs = [.ref L, .int d] ∧ H L = some (.lst xs) ∧ DpAll K H xs (ps.map pcD) ∧ (∀ p ∈ ps, PcOk p) ∧ Q (.bl (Per.inP ps d)) H
theorem ok_law_in (T : Txt K mg a) : FnOk P w K mg base CX0 2 a.f_law_in a.d_law_in ["pieces", "day"] (sp_law_in K) := by
  refine T.F_law_in.ok sc_law_in (fun vs H Q E h => ?_) (fun cdv A outer s H vs Q E hr h => ?_)
  · obtain ⟨L, xs, ps, d, rfl, _⟩ := h
    rfl
  · obtain ⟨L, xs, ps, d, rfl, hL, hd, ho, q⟩ := h
    refine ⟨_, (pss_cons (ps_set (i := 2) sc_law_in.nd rfl (.inl rfl) pe_bl)
       (pss_cons (ps_for PassesOwn.never rfl (pi_list (pv 0)) (pg_tup (by rfl) (pgs_cons (pg_name (i := 3) sc_law_in.nd rfl (.inl rfl)) (pgs_cons (pg_name (i := 4) sc_law_in.nd rfl (.inl rfl)) (pgs_cons (pg_name (i := 5) sc_law_in.nd rfl (.inl rfl)) pgs_nil))))
       (pss_one (ps_if (pt_cmpR op_le (pv 3) (pv 1) (nomark _))
       (pss_one (ps_set (i := 2) sc_law_in.nd rfl (.inl rfl) (pe_cmpR op_in_seq (pe_call (ok_law_mod T) (hr.mono (by decide)) (by rfl) T.g_law_mod T.F_law_mod.kp T.b_law_mod .nil pass0 (pa_cons (pv 1) (pa_cons (pv 4) pa_nil))) (pv 5) rfl)))
       pss_nil)))
       (pss_one (ps_ret (pv 2))))), ?_⟩
    refine red (σ' := [some (.ref L), some (.int d), none, none, none, none]) rfl ?_
    try dsimp only [cxOf]
    have hlen : xs.length = ps.length := by have := dpAll_len hd; rw [List.length_map] at this; exact this
    walk_at "go"
    refine ⟨L, rfl, ⟨_, SqL.of hL⟩, ?_⟩
    refine for_list (K := K) (a := L) (xs := xs) (fun i σ' H' => ∃ (y3 y4 y5 : Option V), σ' = [some (.ref L), some (.int d), some (.bl (Per.inP (ps.take i) d)), y3, y4, y5] ∧ H' = H) ⟨_, _, _, rfl, rfl⟩ (fun i σ' H' _ h => ?_) ?_ ?_
    · obtain ⟨_, _, _, _, rfl⟩ := h
      exact SqL.of hL
    · rintro i x σ' H2 hi ⟨y3, y4, y5, rfl, rfl⟩
      obtain ⟨e, hd', hx⟩ := dpAll_at' hd hi
      obtain ⟨p, hp, rfl⟩ : ∃ p, ps[i]? = some p ∧ e = pcD p := by
        rw [List.getElem?_map] at hd'
        cases e : ps[i]? with
        | none => rw [e] at hd'; cases hd'
        | some p => rw [e] at hd'; exact ⟨p, rfl, (Option.some.inj hd').symm⟩
      obtain ⟨pa, pt, rfl, hpa, hpt⟩ := pc_inv hx
      have hpo := ho p (List.mem_of_getElem? hp)
      have hstep : Per.inP (ps.take (i + 1)) d = Per.inStep d (Per.inP (ps.take i) d) p := by rw [take_more hp, Per.inP_snoc]
      rw [hstep]
      unfold Per.inStep
      refine g_gtup ⟨pa, _, rfl, hpa, rfl, ?_⟩
      walk_at "go"
      refine iteK (fun h => ?_) (fun h => ?_)
      · have h : p.1 ≤ d := by omega
        rw [if_pos h]
        walk_at "go"
        have hpp := hpo.ok.pos
        have hps := hpo.small
        refine ⟨_, _, rfl, by omega, by omega, ?_⟩
        walk_at "go"
        refine ⟨pt, _, rfl, .inr hpt, rfl, flat_ni _, ?_⟩
        have em : ((d : Nat) : Int) % (p.2.1 : Nat) = ((d % p.2.1 : Nat) : Int) := (Int.natCast_emod d p.2.1).symm
        rw [em]
        rw [if_neg (by decide : ¬ (false = true)), inV_ni]
        walk_at "go"
        exact ⟨_, _, _, rfl, rfl⟩
      · have h : ¬ p.1 ≤ d := by omega
        rw [if_neg h]
        walk_at "go"
        exact ⟨_, _, _, rfl, rfl⟩
    · rintro σ' H2 ⟨y3, y4, y5, rfl, rfl⟩
      rw [hlen, List.take_length]
      walk_at "go"
      exact q
def sp_law_told (K : PySem.W.Frag) : Sp := fun vs H Q _ => ∃ rows : List (List Int), vs = [.str (S (Wd.rowsT rows))] ∧ RowsIn rows ∧
  ∀ H', Same H H' → (∀ l e, Wd.wrong rows = some (l, e) → ∀ r, H' r = some (.tup [.int (l : Nat), .int (e : Nat)]) → Q (.ref r) H') ∧ (Wd.wrong rows = none → ∀ u, Dp K H' (.ref u) (patD (Per.tid (rows.map Wd.pcOf))) → Q (.ref u) H')
theorem ok_law_told (T : Txt K mg a) : FnOk P w K mg base CX0 6 a.f_law_told a.d_law_told ["text"] (sp_law_told K) := by
  refine T.F_law_told.ok sc_law_told (fun vs H Q E h => ?_) (fun cdv A outer s H vs Q E hr h => ?_)
  · obtain ⟨rows, rfl, _⟩ := h
    rfl
  · obtain ⟨rows, rfl, hR, q⟩ := h
    refine ⟨_, (pss_one (ps_try_cl rfl rfl sc_law_told.nd takes0 (fun W pn xe tk _ => (pss_one (ps_ret (by exact (pe_callS (ok_read_pattern T) (hr.mono (by decide)) rfl T.g_read_pattern T.F_read_pattern.kp T.b_read_pattern (fun σ => passAt tk σ) (by exact (pa_cons (pv 0) pa_nil))))))) (ClOk.named (i := 1) ⟨rfl, by decide, .inl T.g_BadText⟩ rfl rfl (fun x oe cls d pn hz hf => (pss_one (ps_ret (pe_tup (pa_cons (pe_xf T.y_BadText (T.n_BadText_line) hz hf (pv 1)) (pa_cons (pe_xf T.y_BadText (T.n_BadText_word) hz hf (pv 1)) pa_nil)))))) ClOk.nil))), ?_⟩
    refine red (σ' := [some (.str (S (Wd.rowsT rows))), none]) rfl ?_
    try dsimp only [cxOf]
    walk_at "go"
    refine ⟨rows, rfl, hR, fun H' sm => ⟨fun l e he dd hd => ?_, fun hn u hu => (q H' sm).2 hn u hu⟩⟩
    refine ⟨true, T.e_BadText_BadText, fun _ b hb => ?_, (fun z => nomatch z)⟩
    have x1 : ∀ {f : Str} {v : V} {Q : VK}, List.lookup f (bx l e) = some v → Q v (upd H' dd (.xd (bx l e))) → tXf b (.ref a.C_BadText) (some dd) a.C_BadText f (tVar 1) (([some (.str (S (Wd.rowsT rows))), none] : L2.St).set 1 (some (.ref b))) (upd H' dd (.xd (bx l e))) Q := fun {f v Q} hl q => g_var rfl ⟨rfl, rfl, dd, _, v, rfl, upd_same, hl, q⟩
    refine g_ret (g_tup (g_cons (x1 (bx_line l e) (g_cons (x1 (bx_word l e) (g_nil ⟨two_le, fun r hr => ?_⟩))))))
    exact (q _ ((sm.trans (same_new hd)).trans (same_new hr))).1 l e he r upd_same
structure RowsAt (H : Hp) (L : Addr) (as : List Addr) (rows : List (List Int)) : Prop where
  lst : H L = some (.lst (as.map V.ref))
  len : as.length = rows.length
  row : ∀ (i : Nat) (r : Addr) (row : List Int), as[i]? = some r → rows[i]? = some row → H r = some (.lst (row.map V.int))
theorem RowsAt.same {H H' : Hp} {L : Addr} {as : List Addr} {rows : List (List Int)} (h : RowsAt H L as rows) (s : Same H H') : RowsAt H' L as rows := ⟨s _ _ h.lst, h.len, fun i r row h1 h2 => s _ _ (h.row i r row h1 h2)⟩
theorem RowsAt.at {H : Hp} {L : Addr} {as : List Addr} {rows : List (List Int)} (h : RowsAt H L as rows) {i : Nat} {row : List Int} (hi : rows[i]? = some row) : ∃ r, atI (as.map V.ref) ((i : Nat) : Int) = some (.ref r) ∧ as[i]? = some r ∧ H r = some (.lst (row.map V.int)) := by
  have hl : i < as.length := by rw [h.len]; exact (List.getElem?_eq_some_iff.mp hi).1
  exact ⟨as[i], atI_nat (by rw [List.getElem?_map, List.getElem?_eq_getElem hl]; rfl), List.getElem?_eq_getElem hl, h.row i _ row (List.getElem?_eq_getElem hl) hi⟩
def sp_law_wrong : Sp := fun vs H Q _ => ∃ (L : Addr) (as : List Addr) (rows : List (List Int)), vs = [.ref L] ∧ RowsAt H L as rows ∧ rows.length ≤ 20 ∧ (∀ row ∈ rows, row.length ≤ 40) ∧
  ∀ H', Same H H' → (Wd.wrong rows = none → Q .non H') ∧ ∀ l e, Wd.wrong rows = some (l, e) → ∀ r, H' r = some (.tup [.int (l : Nat), .int (e : Nat)]) → Q (.ref r) H'
theorem ok_law_wrong (T : Txt K mg a) : FnOk P w K mg base CX0 1 a.f_law_wrong a.d_law_wrong ["rows"] sp_law_wrong := by
  refine T.F_law_wrong.ok sc_law_wrong (fun vs H Q E h => ?_) (fun cdv A outer s H vs Q E hr h => ?_)
  · obtain ⟨L, as, rows, rfl, _⟩ := h
    rfl
  · obtain ⟨L, as, rows, rfl, hR, hn, hm, q⟩ := h
    refine ⟨_, (pss_cons (ps_for PassesOwn.never rfl (pi_range1 (by rfl) T.z_range (pa_cons (pe_callB call_len_seq (by rfl) T.z_len (by decide +kernel) (pa_cons (pv 0) pa_nil)) pa_nil)) (pg_name (i := 1) sc_law_wrong.nd rfl (.inl rfl))
       (pss_cons (ps_set (i := 2) sc_law_wrong.nd rfl (.inl rfl) (pe_ix ix_list (pv 0) (pv 1) (fun _ _ => rfl)))
       (C8.pss_cut (ps_set (i := 3) sc_law_wrong.nd rfl (.inl rfl) (pe_ifExp (pt_cmpR op_eq (pv 1) pe_int (nomark _)) pe_int (pe_op op_add (pe_ix ix_list (pe_ix ix_list (pv 0) (pe_op op_sub (pv 1) pe_int) (fun _ _ => rfl)) pe_int (fun _ _ => rfl)) pe_int)))
       (pss_cons (ps_if (pt_cmpR op_eq (pe_callB call_len_seq (by rfl) T.z_len (by decide +kernel) (pa_cons (pv 2) pa_nil)) pe_int (nomark _))
       (pss_one (ps_ret (pe_tup (pa_cons (pe_op op_add (pv 1) pe_int) (pa_cons pe_int pa_nil)))))
       pss_nil)
       (C8.pss_cut (ps_if (PW.pt (pw_or (pt_not (pt_chain op_le op_le (pv 3) (pe_ix ix_list (pv 2) pe_int (fun _ _ => rfl)) (pe_op op_pow pe_int pe_int))) (pw_or1 (PW.pt (pw_and (pt_cmpR op_eq (pv 1) pe_int (nomark _)) (pw_and1 (pt_cmpR op_ne (pe_ix ix_list (pv 2) pe_int (fun _ _ => rfl)) pe_int (nomark _))))))))
       (pss_one (ps_ret (pe_tup (pa_cons (pe_op op_add (pv 1) pe_int) (pa_cons pe_int pa_nil)))))
       pss_nil)
       (pss_cons (ps_if (pt_cmpR op_eq (pe_callB call_len_seq (by rfl) T.z_len (by decide +kernel) (pa_cons (pv 2) pa_nil)) pe_int (nomark _))
       (pss_one (ps_ret (pe_tup (pa_cons (pe_op op_add (pv 1) pe_int) (pa_cons pe_int pa_nil)))))
       pss_nil)
       (pss_cons (ps_if (pt_not (pt_chain op_le op_le pe_int (pe_ix ix_list (pv 2) pe_int (fun _ _ => rfl)) (pe_op op_pow pe_int pe_int)))
       (pss_one (ps_ret (pe_tup (pa_cons (pe_op op_add (pv 1) pe_int) (pa_cons pe_int pa_nil)))))
       pss_nil)
       (pss_one (ps_for PassesOwn.never rfl (pi_range2 (by rfl) T.z_range (pa_cons pe_int (pa_cons (pe_callB call_len_seq (by rfl) T.z_len (by decide +kernel) (pa_cons (pv 2) pa_nil)) pa_nil))) (pg_name (i := 4) sc_law_wrong.nd rfl (.inl rfl))
       (pss_one (ps_if (PW.pt (pw_or (pt_cmpR op_ge (pe_ix ix_list (pv 2) (pv 4) (fun _ _ => rfl)) (pe_ix ix_list (pv 2) pe_int (fun _ _ => rfl)) (nomark _)) (pw_or (pt_cmpR op_lt (pe_ix ix_list (pv 2) (pv 4) (fun _ _ => rfl)) pe_int (nomark _)) (pw_or1 (PW.pt (pw_and (pt_cmpR op_gt (pv 4) pe_int (nomark _)) (pw_and1 (pt_cmpR op_le (pe_ix ix_list (pv 2) (pv 4) (fun _ _ => rfl)) (pe_ix ix_list (pv 2) (pe_op op_sub (pv 4) pe_int) (fun _ _ => rfl)) (nomark _)))))))))
       (pss_one (ps_ret (pe_tup (pa_cons (pe_op op_add (pv 1) pe_int) (pa_cons (pv 4) pa_nil)))))
       pss_nil)))))))))))
       (pss_one (ps_ret pe_non))), ?_⟩
    refine red (σ' := [some (.ref L), none, none, none, none]) rfl ?_
    try dsimp only [cxOf]
    walk_at "go"
    refine ⟨L, _, rfl, .inl (SqL.of hR.lst), ?_⟩
    walk_at "go"
    refine ⟨_, rfl, ?_, ?_, ?_⟩
    · rw [List.length_map, hR.len]; omega
    · rw [List.length_map, hR.len]; omega
    rw [Int.toNat_natCast, List.length_map, hR.len]
    refine for_range (lo := 0) (n := rows.length) (fun i σ' H' => ∃ (y1 y2 y3 y4 : Option V), σ' = [some (.ref L), y1, y2, y3, y4] ∧ H' = H ∧ (∀ row ∈ rows.take i, row ≠ []) ∧ Wd.wrong rows = Wd.wrongGo i (Wd.leastAt rows i) (rows.drop i))
      ⟨_, _, _, _, rfl, rfl, fun r hr => (by cases hr), rfl⟩ ?_ ?_
    · rintro i σ' H2 hi ⟨y1, y2, y3, y4, rfl, rfl, hne, hw⟩
      have hrow : rows[i]? = some rows[i] := List.getElem?_eq_getElem hi
      have hr40 := hm _ (List.getElem_mem hi)
      generalize rows[i] = row at hrow hr40
      obtain ⟨wErr, wOk⟩ := Wd.wrong_at hrow hw
      obtain ⟨r, hr1, _, hr2⟩ := hR.at hrow
      have e0 : (0 : Int) + (i : Nat) = (i : Nat) := by omega
      have fin : ∀ (e : Nat) (H' : Hp) (u : Addr), Wd.rowErr (decide (i = 0)) (Wd.leastAt rows i) row = some e → Same H2 H' → H' u = some (.tup [.int (i + 1 : Nat), .int (e : Nat)]) → Q (.ref u) H' := fun e H' u he s hu => (q H' s).2 (i + 1) e (wErr e he) u hu
      have e01 : ((i : Nat) : Int) + 1 = ((i + 1 : Nat) : Int) := by omega
      walk_at "go"
      rw [e0]
      refine g_ixL (SqL.of hR.lst) hr1 ?_
      walk_at "go"
      refine g_next ?_
      refine ⟨fun σ' H' => σ' = [some (.ref L), some (.int (i : Nat)), some (.ref r), some (.int (Wd.leastAt rows i)), y4] ∧ H' = H2, ?_, ?_⟩
      · walk_at "go"
        rw [dec_int]
        refine iteK (fun h => ?_) (fun h => ?_)
        · walk_at "go"
          have : Wd.leastAt rows i = 0 := by unfold Wd.leastAt; rw [if_pos (by omega)]
          rw [this]
          exact ⟨rfl, rfl⟩
        · have hi0 : i ≠ 0 := by omega
          have hl : i - 1 < rows.length := by omega
          have hprev : rows[i - 1]? = some rows[i - 1] := List.getElem?_eq_getElem hl
          have hpm : rows[i - 1] ∈ rows.take i := by
            have := take_more hprev
            rw [Nat.sub_add_cancel (by omega)] at this
            rw [this]
            exact List.mem_append_right _ List.mem_cons_self
          have hpn := hne _ hpm
          have hle : Wd.leastAt rows i = rows[i - 1].headD 0 + 1 := by
            unfold Wd.leastAt
            rw [if_neg hi0, List.getD_eq_getElem?_getD, hprev]; rfl
          obtain ⟨pr, hp1, _, hp2⟩ := hR.at hprev
          generalize rows[i - 1] = prow at hpn hle hp2
          walk_at "go"
          rw [show ((i : Nat) : Int) - 1 = ((i - 1 : Nat) : Int) by omega]
          refine g_ixL (SqL.of hR.lst) hp1 ?_
          walk_at "go"
          cases prow with
          | nil => exact absurd rfl hpn
          | cons x xs =>
            refine g_ixL (n := ((0 : Nat) : Int)) (v := .int x) (SqL.of hp2) (atI_nat rfl) ?_
            walk_at "go"
            rw [hle]
            exact ⟨rfl, rfl⟩
      rintro σ' H3 ⟨rfl, rfl⟩
      have e10 : ((10 : Int) ^ (6 + 6)) = Wd.MOST := by decide
      clear e10
      walk_at "go"
      rw [List.length_map, dec_int]
      refine iteK (fun h => ?_) (fun h => ?_)
      · have hrn : row = [] := List.length_eq_zero_iff.mp (by omega)
        walk_at "go"
        rw [e01]
        refine nwT (ys := [.int (i + 1 : Nat), .int (0 : Nat)]) rfl (by show 2 ≤ 1000000; decide) fun u H4 _ s4 hu => ?_
        exact fin 0 H4 u (by rw [hrn]; rfl) s4 hu
      · obtain ⟨s0, rest, rfl⟩ : ∃ s0 rest, row = s0 :: rest := by
          cases row with
          | nil => exact absurd rfl h
          | cons x xs => exact ⟨x, xs, rfl⟩
        have a0 : atI ((s0 :: rest).map V.int) (0 : Int) = some (.int s0) := atI_nat (j := 0) rfl
        have emost : ((10 : Int) ^ (12 : Int).toNat) = Wd.MOST := by decide
        refine g_next ?_
        refine ⟨fun σ' H' => σ' = [some (.ref L), some (.int (i : Nat)), some (.ref r), some (.int (Wd.leastAt rows i)), y4] ∧ H' = H3 ∧ (Wd.leastAt rows i ≤ s0 ∧ s0 ≤ Wd.MOST) ∧ (decide (i = 0) = true → s0 = 0), ?_, ?_⟩
        · have ret0 : Wd.rowErr (decide (i = 0)) (Wd.leastAt rows i) (s0 :: rest) = some 0 → NewT [.int (i + 1 : Nat), .int 0] H3 Q := fun he =>
            nwT (ys := [.int (i + 1 : Nat), .int (0 : Nat)]) rfl (by show 2 ≤ 1000000; decide) fun u H4 _ s4 hu => fin 0 H4 u he s4 hu
          walk_at "go"
          try refine g_ixL (SqL.of hr2) a0 ?_
          try walk_at "go"
          refine iteK (fun h1 => ?_) (fun h1 => ?_)
          · walk_at "go"
            rw [emost]
            refine iteNK (fun h2 => ?_) (fun h2 => ?_)
            · refine iteT ?_
              walk_at "go"
              rw [e01]
              exact ret0 (Wd.rowErr0 fun n hn => by cases hn; exact fun z => h2 z.2)
            · walk_at "go"
              rw [dec_int]
              refine iteK (fun h3 => ?_) (fun h3 => ?_)
              · have hi0 : i = 0 := by omega
                walk_at "go"
                try refine g_ixL (SqL.of hr2) a0 ?_
                try walk_at "go"
                rw [dec_int]
                refine iteNK (fun h4 => ?_) (fun h4 => ?_)
                · walk_at "go"
                  rw [e01]
                  exact ret0 (by rw [decide_eq_true hi0]; exact Wd.rowErr0' rfl h4)
                · walk_at "go"
                  exact ⟨rfl, rfl, ⟨h1, h2⟩, fun _ => h4⟩
              · refine iteF ?_
                walk_at "go"
                exact ⟨rfl, rfl, ⟨h1, h2⟩, fun z => absurd (of_decide_eq_true z) (by omega)⟩
          · walk_at "go"
            refine iteT ?_
            refine iteT ?_
            walk_at "go"
            rw [e01]
            exact ret0 (Wd.rowErr0 fun n hn => by cases hn; exact fun z => h1 z.1)
        rintro σ' H4 ⟨rfl, rfl, hst, hz⟩
        walk_at "go"
        rw [List.length_map, dec_int]
        have ret1 : (∀ n, (s0 :: rest)[1]? = some n → ¬ (1 ≤ n ∧ n ≤ Wd.MOST)) → NewT [.int (i + 1 : Nat), .int 1] H4 Q := fun he =>
          nwT (ys := [.int (i + 1 : Nat), .int (1 : Nat)]) rfl (by show 2 ≤ 1000000; decide) fun u H5 _ s5 hu => fin 1 H5 u (Wd.rowErr1 (s := s0) rfl hst hz he) s5 hu
        refine iteK (fun h1 => ?_) (fun h1 => ?_)
        · have hrn : rest = [] := List.length_eq_zero_iff.mp (by rw [List.length_cons] at h1; omega)
          walk_at "go"
          rw [e01]
          exact ret1 fun n hn => by rw [hrn] at hn; cases hn
        · obtain ⟨per, rs, rfl⟩ : ∃ per rs, rest = per :: rs := by
            cases rest with
            | nil => exact absurd rfl h1
            | cons x xs => exact ⟨x, xs, rfl⟩
          have a1 : atI ((s0 :: per :: rs).map V.int) (1 : Int) = some (.int per) := atI_nat (j := 1) rfl
          walk_at "go"
          try refine g_ixL (SqL.of hr2) a1 ?_
          try walk_at "go"
          refine iteK (fun h2 => ?_) (fun h2 => ?_)
          · walk_at "go"
            rw [emost]
            refine iteNK (fun h3 => ?_) (fun h3 => ?_)
            · walk_at "go"
              rw [e01]
              exact ret1 fun n hn => by cases hn; exact fun z => h3 z.2
            · have her := Wd.rowErr2 (at0 := decide (i = 0)) (lo := Wd.leastAt rows i) (s := s0) (per := per) (row := s0 :: per :: rs) rfl hst hz rfl ⟨h2, h3⟩
              have her : Wd.rowErr (decide (i = 0)) (Wd.leastAt rows i) (s0 :: per :: rs) = Wd.resBad per none rs 2 := her
              rw [her] at wErr wOk fin
              walk_at "go"
              refine ⟨_, _, rfl, by rw [List.length_map, List.length_cons, List.length_cons] at *; omega, ?_⟩
              rw [List.length_map, List.length_cons, List.length_cons, show (((rs.length + 1 + 1 : Nat) : Int) - 2).toNat = rs.length by omega]
              refine for_range (lo := 2) (n := rs.length) (fun j σ' H' => ∃ (y4 : Option V), σ' = [some (.ref L), some (.int (i : Nat)), some (.ref r), some (.int (Wd.leastAt rows i)), y4] ∧ H' = H4 ∧
                Wd.resBad per none rs 2 = Wd.resBad per (if j = 0 then none else rs[j - 1]?) (rs.drop j) (j + 2)) ⟨_, rfl, rfl, rfl⟩ ?_ ?_
              · rintro j σ' H5 hj ⟨y4, rfl, rfl, hres⟩
                have hx : rs[j]? = some rs[j] := List.getElem?_eq_getElem hj
                have hdk : rs.drop j = rs[j] :: rs.drop (j + 1) := List.drop_eq_getElem_cons hj
                generalize rs[j] = x at hx hdk
                rw [hdk, Wd.resBad] at hres
                have ex : atI ((s0 :: per :: rs).map V.int) ((2 : Int) + (j : Nat)) = some (.int x) := by
                  rw [show (2 : Int) + (j : Nat) = ((j + 2 : Nat) : Int) by omega]
                  exact atI_nat (by rw [List.getElem?_map]; show (rs[j]?).map V.int = _; rw [hx]; rfl)
                have ej : (2 : Int) + (j : Nat) = ((j + 2 : Nat) : Int) := by omega
                have retk : Wd.RBad per (if j = 0 then none else rs[j - 1]?) x → NewT [.int (i + 1 : Nat), .int (2 + (j : Nat))] H5 Q := fun hb => by
                  rw [if_pos hb] at hres
                  exact nwT (ys := [.int (i + 1 : Nat), .int (j + 2 : Nat)]) (by rw [ej]) (by show 2 ≤ 1000000; decide) fun u H6 _ s6 hu => fin (j + 2) H6 u hres s6 hu
                have go : ¬ Wd.RBad per (if j = 0 then none else rs[j - 1]?) x → ∃ (y4 : Option V), [some (V.ref L), some (V.int (i : Nat)), some (V.ref r), some (V.int (Wd.leastAt rows i)), some (V.int (2 + (j : Nat)))] = [some (V.ref L), some (V.int (i : Nat)), some (V.ref r), some (V.int (Wd.leastAt rows i)), y4] ∧ H5 = H5 ∧
                    Wd.resBad per none rs 2 = Wd.resBad per (if j + 1 = 0 then none else rs[j + 1 - 1]?) (rs.drop (j + 1)) (j + 1 + 2) := fun hb => by
                  rw [if_neg hb] at hres
                  exact ⟨_, rfl, rfl, by rw [if_neg (by omega), Nat.add_sub_cancel, hx]; exact hres⟩
                walk_at "go"
                refine g_ixL (SqL.of hr2) ex ?_
                walk_at "go"
                try refine g_ixL (SqL.of hr2) a1 ?_
                try walk_at "go"
                refine iteK (fun g1 => ?_) (fun g1 => ?_)
                · refine iteT ?_
                  walk_at "go"
                  rw [e01]
                  exact retk (Or.inl g1)
                · walk_at "go"
                  refine g_ixL (SqL.of hr2) ex ?_
                  walk_at "go"
                  refine iteK (fun g2 => ?_) (fun g2 => ?_)
                  · refine iteT ?_
                    walk_at "go"
                    rw [e01]
                    exact retk (Or.inr (Or.inl g2))
                  · walk_at "go"
                    refine iteK (fun g3 => ?_) (fun g3 => ?_)
                    · have hj0 : j ≠ 0 := by omega
                      have hl : j - 1 < rs.length := by omega
                      have hpv : rs[j - 1]? = some rs[j - 1] := List.getElem?_eq_getElem hl
                      rw [if_neg hj0, hpv] at retk go
                      generalize rs[j - 1] = pv at hpv retk go
                      have ep : atI ((s0 :: per :: rs).map V.int) ((2 : Int) + (j : Nat) - 1) = some (.int pv) := by
                        rw [show (2 : Int) + (j : Nat) - 1 = ((j - 1 + 2 : Nat) : Int) by omega]
                        exact atI_nat (by rw [List.getElem?_map]; show (rs[j - 1]?).map V.int = _; rw [hpv]; rfl)
                      walk_at "go"
                      refine g_ixL (SqL.of hr2) ex ?_
                      walk_at "go"
                      refine g_ixL (SqL.of hr2) ep ?_
                      walk_at "go"
                      refine iteK (fun g4 => ?_) (fun g4 => ?_)
                      · walk_at "go"
                        rw [e01]
                        exact retk (Or.inr (Or.inr ⟨pv, rfl, g4⟩))
                      · walk_at "go"
                        refine go fun z => ?_
                        rcases z with z | z | ⟨q, e, z⟩
                        · exact g1 z
                        · exact g2 z
                        · cases e; exact g4 z
                    · have hj0 : j = 0 := by omega
                      refine iteF ?_
                      walk_at "go"
                      refine go fun z => ?_
                      rw [if_pos hj0] at z
                      rcases z with z | z | ⟨q, e, z⟩
                      · exact g1 z
                      · exact g2 z
                      · cases e
              · rintro σ' H5 ⟨y4, rfl, rfl, hres⟩
                rw [List.drop_length] at hres
                have hnone : Wd.resBad per none rs 2 = none := hres
                walk_at "go"
                refine ⟨_, _, _, _, rfl, rfl, fun row hr => ?_, wOk hnone⟩
                rw [take_more hrow] at hr
                rcases List.mem_append.mp hr with hr | hr
                · exact hne row hr
                · rw [List.mem_singleton.mp hr]; simp
          · walk_at "go"
            refine iteT ?_
            walk_at "go"
            rw [e01]
            exact ret1 fun n hn => by cases hn; exact fun z => h2 z.1
    · rintro σ' H2 ⟨y1, y2, y3, y4, rfl, rfl, hne, hw⟩
      rw [List.drop_length] at hw
      walk_at "go"
      exact (q _ (Same.refl _)).1 hw
end
section
variable {P : Program} {w : World} {K : PySem.W.Frag} {mg : Str → Option Value} {base : Heap} {a : Adr}
structure Bd (row : List Int) : Prop where
  len : row.length ≤ 20
  one : ∀ n ∈ row, n.natAbs < 10 ^ 18 ∧ (n ≤ 1000000000000 → n < 1073741824)
theorem refs_ne {c k r} {as : List Addr} : HO.lst (as.map V.ref) ≠ tp c k r := by
  intro z
  unfold tp at z
  cases as with
  | nil => simp at z
  | cons a as =>
    cases as with
    | nil => simp at z
    | cons b as => simp at z
theorem RowsAt.rel {t c : Addr} {ns : List Int} {H H' : Hp} {D : Addr} {as : List Addr} {rows : List (List Int)} (I : Tp t c ns H) (r : RelT t H H') (h : RowsAt H D as rows) : RowsAt H' D as rows :=
  ⟨r _ _ (I.ne h.lst fun _ _ => refs_ne) h.lst, h.len, fun i a row h1 h2 => r _ _ (I.ne (h.row i a row h1 h2) fun _ _ => ne_ints) (h.row i a row h1 h2)⟩
theorem RowsAt.set {H : Hp} {D r' : Addr} {as : List Addr} {rows : List (List Int)} {row' : List Int} {j : Nat} (h : RowsAt H D as rows) (hr : H r' = some (.lst (row'.map V.int))) (h1 : r' ≠ D) (h2 : ∀ r ∈ as, r ≠ D) :
    RowsAt (upd H D (.lst ((as.map V.ref).set j (.ref r')))) D (as.set j r') (rows.set j row') := by
  refine ⟨by rw [upd_same, List.map_set], by rw [List.length_set, List.length_set, h.len], fun i a row ha hrow => ?_⟩
  by_cases e : j = i
  · subst e
    rw [List.getElem?_set] at ha hrow
    simp only [if_true] at ha hrow
    split at ha
    · split at hrow
      · cases ha; cases hrow
        rw [upd_ne h1]; exact hr
      · cases hrow
    · cases ha
  · rw [List.getElem?_set_ne e] at ha hrow
    rw [upd_ne (h2 a (List.mem_of_getElem? ha))]
    exact h.row i a row ha hrow
theorem rowsOk_each : ∀ {rows : List (List Int)} {i : Nat} {least : Int}, 0 ≤ least → Wd.RowsOk i least rows → ∀ (j : Nat) (row : List Int), rows[j]? = some row → ∃ l, 0 ≤ l ∧ (j = 0 → l = least) ∧ (0 < j → l = (rows.getD (j - 1) []).headD 0 + 1) ∧ Wd.RowOk (decide (i + j = 0)) l row
  | [], _, _, _, _, j, row, h => by cases h
  | r :: rest, i, least, hl, hok, 0, row, h => by
    cases h
    exact ⟨least, hl, fun _ => rfl, fun h => absurd h (by decide), hok.1⟩
  | r :: rest, i, least, hl, hok, j + 1, row, h => by
    have h0 := hok.1.st
    rw [← Wd.head_getD] at h0
    obtain ⟨l, l0, l1, l2, l3⟩ := rowsOk_each (by omega) hok.2 j row h
    refine ⟨l, l0, fun e => (by cases e), fun _ => ?_, (by rw [show i + (j + 1) = i + 1 + j by omega]; exact l3)⟩
    cases j with
    | zero => rw [l1 rfl]; rfl
    | succ j => rw [l2 (by omega)]; rfl
theorem rows_each {rows : List (List Int)} (hw : Wd.wrong rows = none) {i : Nat} {row : List Int} (h : rows[i]? = some row) : Wd.RowOk (decide (i = 0)) (Wd.leastAt rows i) row := by
  obtain ⟨l, _, l1, l2, l3⟩ := rowsOk_each (Int.le_refl 0) (Wd.wrongGo_none.mp hw) i row h
  have : Wd.leastAt rows i = l := by
    unfold Wd.leastAt
    split
    · next e => rw [l1 e]
    · next e => rw [l2 (by omega)]
  rw [this]
  rw [Nat.zero_add] at l3
  exact l3
theorem leastAt_pos {rows : List (List Int)} (hw : Wd.wrong rows = none) {i : Nat} (h : i < rows.length) : 0 ≤ Wd.leastAt rows i := by
  obtain ⟨l, l0, l1, l2, l3⟩ := rowsOk_each (Int.le_refl 0) (Wd.wrongGo_none.mp hw) i _ (List.getElem?_eq_getElem h)
  have : Wd.leastAt rows i = l := by
    unfold Wd.leastAt
    split
    · next e => rw [l1 e]
    · next e => rw [l2 (by omega)]
  omega
theorem rows_lines {x0 x1 x2 x3 x5 x6 x7 x8 x9 x10 x11 x12 x13 x14 x15 x16 x17 : Option V} {H : Hp} {D : Addr} {as : List Addr} {rows : List (List Int)} (hR : RowsAt H D as rows) (hn : rows.length ≤ 20) (hb : ∀ row ∈ rows, row.length ≤ 40 ∧ ∀ n ∈ row, n.natAbs < 10 ^ 18) {Q : VK}
    (q : ∀ E H', Same H H' → H' E = some (.lst (sv (rows.map Wd.rowT))) → Q (.ref E) H') :
    tLc (iList K (tVar 4)) (gName 10) tYes
      (tM1 (rJoin K) (tC (V.str (Str.ofString " ")))
        (tLc (iList K (tVar 10)) (gName 8) tYes
          (tCB (fun xs H Q => ∃ i : Int, xs = [V.int i] ∧ i.natAbs.log2 < 1920 ∧ Q (V.str (Str.ofString (toString i))) H)
            (tCons (tVar 8) tNil))
          (List.map (fun x => x.snd) [(Str.ofString "n", 8)])))
      (List.map (fun x => x.snd) [(Str.ofString "row", 10)])
      [x0, x1, x2, x3, some (.ref D), x5, x6, x7, x8, x9, x10, x11, x12, x13, x14, x15, x16, x17] H Q := by
  walk_at "go"
  refine ⟨D, rfl, ⟨_, SqL.of hR.lst⟩, fun E hE => ?_⟩
  refine lc_list (K := K) (a := D) (xs := as.map V.ref) (fun i H' => Same H H' ∧ H' E = some (.lst (sv ((rows.take i).map Wd.rowT)))) ⟨same_new hE, upd_same⟩ (fun i H' _ h => SqL.of (h.1 _ _ hR.lst)) ?_ ?_
  · rintro i x H2 hi ⟨s2, hE2⟩
    obtain ⟨r, hr, rfl⟩ : ∃ r, as[i]? = some r ∧ x = .ref r := by
      rw [List.getElem?_map] at hi
      cases e : as[i]? with
      | none => rw [e] at hi; cases hi
      | some r => rw [e] at hi; exact ⟨r, rfl, (Option.some.inj hi).symm⟩
    have hil : i < rows.length := by rw [← hR.len]; exact (List.getElem?_eq_some_iff.mp hr).1
    have hrow : rows[i]? = some rows[i] := List.getElem?_eq_getElem hil
    obtain ⟨hb1, hb2⟩ := hb _ (List.getElem_mem hil)
    have hrr := s2 _ _ (hR.row i r _ hr hrow)
    generalize rows[i] = row at hrow hb1 hb2 hrr
    walk_at "go"
    refine ⟨rfl, ?_⟩
    refine g_yes (iteT ?_)
    walk_at "go"
    refine ⟨⟨_, rfl⟩, ?_⟩
    walk_at "go"
    refine ⟨r, rfl, ⟨_, SqL.of hrr⟩, fun F hF => ?_⟩
    refine lc_list (K := K) (a := r) (xs := row.map V.int) (fun i H' => Same H2 H' ∧ H' F = some (.lst (sv ((row.take i).map Wd.itxt)))) ⟨same_new hF, upd_same⟩ (fun i H' _ h => SqL.of (h.1 _ _ hrr)) ?_ ?_
    · rintro j x H3 hj ⟨s3, hF3⟩
      obtain ⟨n, hnn, rfl⟩ : ∃ n, row[j]? = some n ∧ x = .int n := by
        rw [List.getElem?_map] at hj
        cases e : row[j]? with
        | none => rw [e] at hj; cases hj
        | some r => rw [e] at hj; exact ⟨r, rfl, (Option.some.inj hj).symm⟩
      have hn8 := hb2 n (List.mem_of_getElem? hnn)
      walk_at "go"
      refine ⟨rfl, ?_⟩
      refine g_yes (iteT ?_)
      walk_at "go"
      refine g_strI (by omega) ?_
      rw [itxt_S]
      refine ⟨_, hF3, ?_, same_put hF s3, ?_⟩
      · have := sizeBig
        rw [List.length_map, List.length_map, List.length_take]
        omega
      · rw [upd_same, take_more hnn, List.map_append]
        exact congrArg (fun z => some (HO.lst z)) (sv_app _ [Wd.itxt n])
    · rintro H3 ⟨s3, hF3⟩
      rw [List.length_map, List.take_length] at hF3
      walk_at "go"
      refine ⟨S [32], F, (row.map Wd.itxt).map S, rfl, rfl, join1 hF3, join2 (m := 19) (fun z hz => ?_) (by decide) (by rw [List.length_map]; omega), ?_⟩
      · obtain ⟨n, hn, rfl⟩ := List.mem_map.mp hz
        exact Wd.itxt_len (k := 18) (by decide) (hb2 n hn)
      rw [join_S]
      refine ⟨_, s3 _ _ hE2, ?_, same_put hE (s2.trans s3), ?_⟩
      · have := sizeBig
        rw [List.length_map, List.length_map, List.length_take]
        omega
      · rw [upd_same, take_more hrow, List.map_append]
        exact congrArg (fun z => some (HO.lst z)) (sv_app _ [Wd.rowT row])
  · rintro H2 ⟨s2, hE2⟩
    rw [List.length_map, hR.len, List.take_length] at hE2
    exact q E H2 s2 hE2
def sp_law (K : PySem.W.Frag) : Sp := fun vs H Q _ => ∃ (a : Addr) (ns : List Int), vs = [.ref a] ∧ SqL K H a (ns.map V.int) ∧ ns.length ≤ 63 ∧ ∀ H', Q (.bl true) H'
theorem ok_law (T : Txt K mg a) : FnOk P w K mg base CX0 8 a.f_law a.d_law ["script"] (sp_law K) := by
  refine T.F_law.ok sc_law (fun vs H Q E h => ?_) (fun cdv A outer s H vs Q E hr h => ?_)
  · obtain ⟨b, ns, rfl, _⟩ := h
    rfl
  · obtain ⟨b, ns, rfl, hb, hl, q⟩ := h
    refine ⟨_, (pss_cons (ps_set (i := 1) sc_law.nd rfl (.inl rfl) (pe_call (ok_law_tape T) (hr.mono (by decide)) (by rfl) T.g_law_tape T.F_law_tape.kp T.b_law_tape .nil pass0 (pa_cons (pv 0) pa_nil)))
       (pss_cons (ps_set (i := 2) sc_law.nd rfl (.inl rfl) (pe_call (ok_law_pieces T) (hr.mono (by decide)) (by rfl) T.g_law_pieces T.F_law_pieces.kp T.b_law_pieces .nil pass0 (pa_cons (pv 1) pa_nil)))
       (pss_cons (ps_set (i := 3) sc_law.nd rfl (.inl rfl) (pe_call (ok_tidied T) (hr.mono (by decide)) (by rfl) T.g_tidied T.F_tidied.kp T.b_tidied .nil pass0 (pa_cons (pv 2) pa_nil)))
       (pss_cons (ps_setLc (i := 4) (own := [("start", 14), ("period", 15), ("residues", 16)]) (g := (gTup K 3 (gCons (gName 14) (gCons (gName 15) (gCons (gName 16) gNil))))) rfl sc_law.nd rfl rfl (sw_true rfl rfl rfl (by decide +kernel)) (pi_tup (pv 3)) (blkOk_by (own := [("start", 14), ("period", 15), ("residues", 16)]) (N := ["script", "tape", "pieces", "pattern", "rows", "text", "at", "k", "n", "way", "row", "told", "due", "other", "start", "period", "residues", "day"]) (sc := defScope s_law) (by decide +kernel)) (fun _ _ _ _ _ => (pg_tup (by rfl) (pgs_cons (pg_name (i := 14) sc_law.nd rfl (.inl rfl)) (pgs_cons (pg_name (i := 15) sc_law.nd rfl (.inl rfl)) (pgs_cons (pg_name (i := 16) sc_law.nd rfl (.inl rfl)) pgs_nil))))) (fun _ _ _ _ _ => pts_nil) (fun _ _ _ _ _ => (pe_op op_cat (pe_lst (pa_cons (pv 14) (pa_cons (pv 15) pa_nil))) (pe_callTy (show CallR _ _ (rListOf K) from call_list_ofK) (by rfl) T.z_list (by decide +kernel) (pa_cons (pv 16) pa_nil)))))
       (pss_cons (ps_set (i := 5) sc_law.nd rfl (.inl rfl) (pe_join pe_str (pe_lc (own := [("row", 10)]) (g := (gName 10)) rfl sc_law.nd (pi_list (pv 4)) (blkOk_by (own := [("row", 10)]) (N := ["script", "tape", "pieces", "pattern", "rows", "text", "at", "k", "n", "way", "row", "told", "due", "other", "start", "period", "residues", "day"]) (sc := defScope s_law) (by decide +kernel)) (fun _ _ _ _ _ => (pg_name (i := 10) sc_law.nd rfl (.inl rfl))) (fun _ _ _ _ _ => pts_nil) (fun _ _ _ _ _ => (show PE _ _ (tM1 (rJoin K) _ _) from pe_join pe_str (pe_lc (own := [("n", 8)]) (g := (gName 8)) rfl sc_law.nd (show PI _ _ _ (iList K _) from pi_list (pv 10)) (blkOk_by (own := [("n", 8)]) (N := ["script", "tape", "pieces", "pattern", "rows", "text", "at", "k", "n", "way", "row", "told", "due", "other", "start", "period", "residues", "day"]) (sc := { kind := ScopeKind.function, names := [(".0", NameKind.local), ("row", NameKind.local)], isGenerator := false, isCoroutine := false }) (by decide +kernel)) (fun _ _ _ _ _ => (pg_name (i := 8) sc_law.nd rfl (.inl rfl))) (fun _ _ _ _ _ => pts_nil) (fun _ _ _ _ _ => (pe_callTy call_str_int (by rfl) T.z_str (by decide +kernel) (pa_cons (pv 8) pa_nil)))))))))
       (pss_cons (ps_if (PW.pt (pw_or (pt_cmpR op_ne (pe_call (ok_pattern_text T) (hr.mono (by decide)) (by rfl) T.g_pattern_text T.F_pattern_text.kp T.b_pattern_text .nil pass0 (pa_cons (pv 3) pa_nil)) (pv 5) (nomark _)) (pw_or1 (pt_cmpR (op_neD (hr.units)) (pe_call (ok_read_pattern T) (hr.mono (by decide)) (by rfl) T.g_read_pattern T.F_read_pattern.kp T.b_read_pattern .nil passL (pa_cons (pv 5) pa_nil)) (pv 3) (nomark _)))))
       (pss_one (ps_ret pe_bl))
       pss_nil)
       (pss_cons (ps_set (i := 6) sc_law.nd rfl (.inl rfl) (pe_call (ok_law_draw T) (hr.mono (by decide)) (by rfl) T.g_law_draw T.F_law_draw.kp T.b_law_draw .nil pass0 (pa_cons (pv 1) (pa_cons (pe_callB call_len_seq (by rfl) T.z_len (by decide +kernel) (pa_cons (pv 4) pa_nil)) pa_nil))))
       (pss_cons (ps_set (i := 7) sc_law.nd rfl (.inl rfl) (pe_call (ok_law_draw T) (hr.mono (by decide)) (by rfl) T.g_law_draw T.F_law_draw.kp T.b_law_draw .nil pass0 (pa_cons (pv 1) (pa_cons (pe_callB call_len_seq (by rfl) T.z_len (by decide +kernel) (pa_cons (pe_ix ix_list (pv 4) (pv 6) (fun _ _ => rfl)) pa_nil)) pa_nil))))
       (pss_cons (ps_set (i := 8) sc_law.nd rfl (.inl rfl) (pe_ix ix_list (pe_lst (pa_cons pe_int (pa_cons pe_int (pa_cons pe_int (pa_cons (pe_op op_add (pe_ix ix_list (pe_ix ix_list (pv 4) (pv 6) (fun _ _ => rfl)) (pv 7) (fun _ _ => rfl)) pe_int) (pa_cons (pe_op op_sub (pe_ix ix_list (pe_ix ix_list (pv 4) (pv 6) (fun _ _ => rfl)) (pv 7) (fun _ _ => rfl)) pe_int) (pa_cons (pe_op op_pow pe_int pe_int) (pa_cons (pe_op op_sub pe_int pe_int) pa_nil)))))))) (pe_call (ok_law_draw T) (hr.mono (by decide)) (by rfl) T.g_law_draw T.F_law_draw.kp T.b_law_draw .nil pass0 (pa_cons (pv 1) (pa_cons pe_int pa_nil))) (fun _ _ => rfl)))
       (pss_cons (ps_set (i := 9) sc_law.nd rfl (.inl rfl) (pe_call (ok_law_draw T) (hr.mono (by decide)) (by rfl) T.g_law_draw T.F_law_draw.kp T.b_law_draw .nil pass0 (pa_cons (pv 1) (pa_cons pe_int pa_nil))))
       (pss_cons (ps_set (i := 10) sc_law.nd rfl (.inl rfl) (pe_op op_cat (pe_slice sl_list (pe_ix ix_list (pv 4) (pv 6) (fun _ _ => rfl)) po_none (po_some (pv 7))) (pe_slice sl_list (pe_ix ix_list (pv 4) (pv 6) (fun _ _ => rfl)) (po_some (pe_op op_add (pv 7) pe_int)) po_none)))
       (C8.pss_cut (ps_if (pt_cmpR op_eq (pv 9) pe_int (nomark _))
       (pss_one (ps_set (i := 10) sc_law.nd rfl (.inl rfl) (pe_op op_cat (pe_op op_cat (pe_slice sl_list (pe_ix ix_list (pv 4) (pv 6) (fun _ _ => rfl)) po_none (po_some (pv 7))) (pe_lst (pa_cons (pv 8) pa_nil))) (pe_slice sl_list (pe_ix ix_list (pv 4) (pv 6) (fun _ _ => rfl)) (po_some (pv 7)) po_none))))
       pss_nil)
       (C8.pss_cut (ps_if (pt_cmpR op_eq (pv 9) pe_int (nomark _))
       (pss_one (ps_set (i := 10) sc_law.nd rfl (.inl rfl) (pe_op op_cat (pe_op op_cat (pe_slice sl_list (pe_ix ix_list (pv 4) (pv 6) (fun _ _ => rfl)) po_none (po_some (pv 7))) (pe_lst (pa_cons (pv 8) pa_nil))) (pe_slice sl_list (pe_ix ix_list (pv 4) (pv 6) (fun _ _ => rfl)) (po_some (pe_op op_add (pv 7) pe_int)) po_none))))
       pss_nil)
       (pss_cons (ps_asg (pv 10) (pg_sub (pv 4) (pv 6) set_list))
       (pss_cons (ps_set (i := 5) sc_law.nd rfl (.inl rfl) (pe_join pe_str (pe_lc (own := [("row", 10)]) (g := (gName 10)) rfl sc_law.nd (pi_list (pv 4)) (blkOk_by (own := [("row", 10)]) (N := ["script", "tape", "pieces", "pattern", "rows", "text", "at", "k", "n", "way", "row", "told", "due", "other", "start", "period", "residues", "day"]) (sc := defScope s_law) (by decide +kernel)) (fun _ _ _ _ _ => (pg_name (i := 10) sc_law.nd rfl (.inl rfl))) (fun _ _ _ _ _ => pts_nil) (fun _ _ _ _ _ => (show PE _ _ (tM1 (rJoin K) _ _) from pe_join pe_str (pe_lc (own := [("n", 8)]) (g := (gName 8)) rfl sc_law.nd (show PI _ _ _ (iList K _) from pi_list (pv 10)) (blkOk_by (own := [("n", 8)]) (N := ["script", "tape", "pieces", "pattern", "rows", "text", "at", "k", "n", "way", "row", "told", "due", "other", "start", "period", "residues", "day"]) (sc := { kind := ScopeKind.function, names := [(".0", NameKind.local), ("row", NameKind.local)], isGenerator := false, isCoroutine := false }) (by decide +kernel)) (fun _ _ _ _ _ => (pg_name (i := 8) sc_law.nd rfl (.inl rfl))) (fun _ _ _ _ _ => pts_nil) (fun _ _ _ _ _ => (pe_callTy call_str_int (by rfl) T.z_str (by decide +kernel) (pa_cons (pv 8) pa_nil)))))))))
       (pss_cons (ps_set (i := 11) sc_law.nd rfl (.inr rfl) (pe_call (ok_law_told T) (hr.mono (by decide)) (by rfl) T.g_law_told T.F_law_told.kp T.b_law_told .nil pass0 (pa_cons (pv 5) pa_nil)))
       (pss_cons (ps_set (i := 12) sc_law.nd rfl (.inl rfl) (pe_call (ok_law_wrong T) (hr.mono (by decide)) (by rfl) T.g_law_wrong T.F_law_wrong.kp T.b_law_wrong .nil pass0 (pa_cons (pv 4) pa_nil)))
       (pss_cons (ps_if (pt_cmpR op_notN (pv 12) pe_non (nomark _))
       (pss_one (ps_ret (pe_cmpR (op_eqD (hr.units)) (pv 11) (pv 12) (nomark _))))
       pss_nil)
       (pss_cons (ps_set (i := 13) sc_law.nd rfl (.inr rfl) (pe_lc (own := [("row", 10)]) (g := (gName 10)) rfl sc_law.nd (pi_list (pv 4)) (blkOk_by (own := [("row", 10)]) (N := ["script", "tape", "pieces", "pattern", "rows", "text", "at", "k", "n", "way", "row", "told", "due", "other", "start", "period", "residues", "day"]) (sc := defScope s_law) (by decide +kernel)) (fun _ _ _ _ _ => (pg_name (i := 10) sc_law.nd rfl (.inl rfl))) (fun _ _ _ _ _ => pts_nil) (fun _ _ _ _ _ => (pe_tup (pa_cons (pe_ix (r := rIxL K) ix_list (pv 10) pe_int (fun _ _ => rfl)) (pa_cons (pe_ix (r := rIxL K) ix_list (pv 10) pe_int (fun _ _ => rfl)) (pa_cons (pe_callTy (show CallR _ _ (rTupOf K) from call_tuple_ofK) (by rfl) T.z_tuple (by decide +kernel) (pa_cons (pe_slice (show SlR _ (rSlL K) from sl_list) (pv 10) (po_some pe_int) po_none) pa_nil)) pa_nil)))))))
       (pss_cons (ps_if (pt_cmpR (op_neD (hr.units)) (pv 11) (pe_call (ok_tidied T) (hr.mono (by decide)) (by rfl) T.g_tidied T.F_tidied.kp T.b_tidied .nil pass0 (pa_cons (pv 13) pa_nil)) (nomark _))
       (pss_one (ps_ret pe_bl))
       pss_nil)
       (pss_one (ps_ret (pe_cmpR op_notIn_seq pe_bl (pe_lc (own := [("day", 17)]) (g := (gName 17)) rfl sc_law.nd (pi_range1 (by rfl) T.z_range (pa_cons pe_int pa_nil)) (blkOk_by (own := [("day", 17)]) (N := ["script", "tape", "pieces", "pattern", "rows", "text", "at", "k", "n", "way", "row", "told", "due", "other", "start", "period", "residues", "day"]) (sc := defScope s_law) (by decide +kernel)) (fun _ _ _ _ _ => (pg_name (i := 17) sc_law.nd rfl (.inl rfl))) (fun _ _ _ _ _ => pts_nil) (fun _ _ _ _ _ => (pe_cmpR op_eq (pe_call (ok_belongs T) (hr.mono (by decide)) (by rfl) T.g_belongs T.F_belongs.kp T.b_belongs .nil pass0 (pa_cons (pv 11) (pa_cons (pv 17) pa_nil))) (pe_call (ok_law_in T) (hr.mono (by decide)) (by rfl) T.g_law_in T.F_law_in.kp T.b_law_in .nil pass0 (pa_cons (pv 13) (pa_cons (pv 17) pa_nil))) (nomark _)))) rfl))))))))))))))))))))))), ?_⟩
    refine red (σ' := [some (.ref b), none, none, none, none, none, none, none, none, none, none, none, none, none, none, none, none, none]) rfl ?_
    try dsimp only [cxOf]
    walk_at "go"
    refine ⟨b, _, rfl, hb, by rw [List.length_map]; omega, fun t c hc ht ct => ?_⟩
    have I : Tp t c ns _ := Tp.made hc ht ct
    generalize upd (upd H c (.lst (ns.map V.int))) t (tp c 0 0) = H1 at I
    clear hc ht
    walk_at "go"
    refine ⟨t, c, ns, rfl, I, fun L xs ps H2 I rel hL hd hps => ?_⟩
    clear rel
    walk_at "go"
    refine ⟨L, xs, ps, rfl, hL, hd, fun p hp => ?_, by have := hps.few; omega, fun u H3 s3 hu => ?_⟩
    · have := hps.all p hp
      exact ⟨this.ok, by have := this.per; omega, by have := this.few; omega⟩
    replace I := I.same s3
    clear hL hd s3
    obtain ⟨to, tf, ta, tas, tfr, th, tsm, tln⟩ := Per.tid_ok ps (fun p hp => (hps.all p hp).ok) hps.asc
    have htt := Per.tid_fix _ tf ta
    have tpc : ∀ p ∈ Per.tid ps, LawPc p := fun p hp => by
      obtain ⟨q, hq, e1, e2, e3⟩ := tfr p hp
      have := hps.all q hq
      exact ⟨to p hp, by have := this.st; omega, by have := this.per; omega, by have := this.few; omega⟩
    have th0 : ∃ p, (Per.tid ps)[0]? = some p ∧ p.1 = 0 := by
      obtain ⟨p0, hp0, hp00⟩ := hps.head
      have e1 : ps.head? = some p0 := by rw [List.head?_eq_getElem?]; exact hp0
      rw [e1] at th
      cases hh : (Per.tid ps).head? with
      | none => rw [hh] at th; cases th
      | some q =>
        rw [hh] at th
        refine ⟨q, by rw [← List.head?_eq_getElem?]; exact hh, ?_⟩
        have : q.1 = p0.1 := Option.some.inj th
        omega
    have tln4 : (Per.tid ps).length ≤ 4 := by have := hps.few; omega
    generalize Per.tid ps = ts at *
    clear hps tf ta tfr th tln to
    walk_at "go"
    obtain ⟨txs, hut, hux⟩ : ∃ xs, SqT K H3 u xs ∧ DpAll K H3 xs (ts.map pcD) := by
      cases hu with
      | tup s d => exact ⟨_, s, d⟩
    have htl : txs.length = ts.length := by have := dpAll_len hux; rw [List.length_map] at this; exact this
    refine ⟨u, rfl, ⟨_, hut⟩, fun D hD => ?_⟩
    have hDc : D ≠ c := (ne_of_none I.2 hD).symm
    have hDt : D ≠ t := I.ne_none hD
    refine lc_tup (K := K) (a := u) (xs := txs) (fun i H' => Same H3 H' ∧ ∃ as : List Addr, RowsAt H' D as ((ts.take i).map Wd.rowOf) ∧ ∀ r ∈ as, r ≠ D) ⟨same_new hD, [], ⟨upd_same, rfl, fun i r row h => (by cases h)⟩, fun r h => (by cases h)⟩ (fun i H' _ h => SqT.ext hut h.1) ?_ ?_
    · rintro i x H4 hi ⟨s4, as, hR, hnD⟩
      obtain ⟨d, hd', hx⟩ := dpAll_at' hux hi
      obtain ⟨p, hp, rfl⟩ : ∃ p, ts[i]? = some p ∧ d = pcD p := by
        rw [List.getElem?_map] at hd'
        cases e : ts[i]? with
        | none => rw [e] at hd'; cases hd'
        | some p => rw [e] at hd'; exact ⟨p, rfl, (Option.some.inj hd').symm⟩
      obtain ⟨pa, pt, rfl, hpa, hpt⟩ := pc_inv (dp_same s4 _ hx)
      have hpo := tpc p (List.mem_of_getElem? hp)
      have hpf := hpo.few
      have hil := (List.getElem?_eq_some_iff.mp hp).1
      refine g_gtup ⟨pa, _, rfl, hpa, rfl, ?_⟩
      walk_at "go"
      refine ⟨rfl, ?_⟩
      refine g_yes (iteT ?_)
      walk_at "go"
      refine nwL (ys := [.int (p.1 : Nat), .int (p.2.1 : Nat)]) rfl (by show 2 ≤ 1000000; decide) fun l1 H5 _ s5 h5 => ?_
      walk_at "go"
      refine g_listOf (.inr (SqT.ext hpt s5)) fun l2 H6 _ s6 h6 => ?_
      refine g_cat (ys := (Wd.rowOf p).map V.int) (s6 _ _ h5) h6 (by show _ :: _ :: ni _ = _ :: _ :: ((p.2.2.map _).map V.int); rw [List.map_map]; rfl) (by rw [List.length_map]; show (p.2.2.map _).length + 1 + 1 ≤ 1000000; rw [List.length_map]; omega) fun l3 H7 hl3 s7 h7 => ?_
      have s47 := s5.trans (s6.trans s7)
      have hR7 := hR.same s47
      have hDl : l3 ≠ D := (ne_of_none ((s5.trans s6) _ _ hR.lst) hl3).symm
      refine ⟨_, hR7.lst, ?_, same_put hD (s4.trans s47), as ++ [l3], ⟨?_, ?_, ?_⟩, ?_⟩
      · have := sizeBig
        rw [List.length_map, hR.len, List.length_map, List.length_take]
        omega
      · rw [upd_same, List.map_append]; rfl
      · rw [take_more hp, List.length_append, List.map_append, List.length_append, hR.len]; rfl
      · intro j r row h1 h2
        have hlen := hR.len
        rw [take_more hp, List.map_append] at h2
        by_cases hj : j < as.length
        · rw [List.getElem?_append_left hj] at h1
          rw [List.getElem?_append_left (by omega)] at h2
          rw [upd_ne (hnD r (List.mem_of_getElem? h1))]
          exact hR7.row j r row h1 h2
        · have hj2 := (List.getElem?_eq_some_iff.mp h1).1
          rw [List.length_append, List.length_singleton] at hj2
          have e : j = as.length := by omega
          subst e
          rw [List.getElem?_append_right (Nat.le_refl _), Nat.sub_self] at h1
          rw [List.getElem?_append_right (by omega), hlen, Nat.sub_self] at h2
          cases h1
          cases h2
          rw [upd_ne hDl]
          exact h7
      · intro r hr
        rcases List.mem_append.mp hr with hr | hr
        · exact hnD r hr
        · rw [List.mem_singleton.mp hr]; exact hDl
    rintro H4 ⟨s4, as, hR, hnD⟩
    rw [htl, List.take_length] at hR
    replace I := I.same s4
    replace hu := dp_same s4 _ hu
    clear hut hux htl
    walk_at "go"
    have hrb : ∀ row ∈ ts.map Wd.rowOf, row.length ≤ 14 ∧ ∀ n ∈ row, 0 ≤ n ∧ n ≤ 1000100 := fun row hrow => by
      obtain ⟨p, hp, rfl⟩ := List.mem_map.mp hrow
      have hpo := tpc p hp
      refine ⟨?_, fun n hn => ?_⟩
      · have := hpo.few
        show (p.2.2.map _).length + 1 + 1 ≤ 14
        rw [List.length_map]; omega
      · have h1 := hpo.st
        have h2 := hpo.per
        rcases List.mem_cons.mp hn with rfl | hn
        · omega
        · rcases List.mem_cons.mp hn with rfl | hn
          · omega
          · obtain ⟨r, hr, rfl⟩ := List.mem_map.mp hn
            have := hpo.ok.bd r hr
            omega
    have hrl : (ts.map Wd.rowOf).length ≤ 4 := by rw [List.length_map]; exact tln4
    refine ⟨⟨_, rfl⟩, ?_⟩
    refine rows_lines hR (by omega) (fun row hrow => ⟨by have := (hrb row hrow).1; omega, fun n hn => by have := (hrb row hrow).2 n hn; omega⟩) fun E H5 s5 hE => ?_
    refine ⟨S [10], E, ((ts.map Wd.rowOf).map Wd.rowT).map S, rfl, rfl, join1 hE, join2 (m := 800) (fun z hz => ?_) (by decide) (by rw [List.length_map]; omega), ?_⟩
    · obtain ⟨row, hrow, rfl⟩ := List.mem_map.mp hz
      exact rowT_len (by have := (hrb row hrow).1; omega) fun n hn => by have := (hrb row hrow).2 n hn; omega
    rw [join_S]
    replace I := I.same s5
    replace hu := dp_same s5 _ hu
    replace hR := hR.same s5
    clear s5 hE
    walk_at "go"
    have hnone : Wd.wrong (ts.map Wd.rowOf) = none := Wd.wrongGo_none.mpr (Wd.rowsOk_pieces (fun p hp => ⟨(tpc p hp).ok, by have := (tpc p hp).st; unfold Wd.MOST; omega, by have := (tpc p hp).per; unfold Wd.MOST; omega⟩) tas fun p hp => ⟨by omega, fun _ => by
      obtain ⟨p0, hp0, h0⟩ := th0
      rw [hp] at hp0
      cases hp0
      exact h0⟩)
    have hback : (ts.map Wd.rowOf).map Wd.pcOf = ts := by
      rw [List.map_map]
      exact (List.map_congr_left fun p _ => Wd.pcOf_rowOf p).trans (List.map_id _)
    have hpos : 0 < ts.length := by
      obtain ⟨p0, hp0, _⟩ := th0
      exact (List.getElem?_eq_some_iff.mp hp0).1
    have hin : RowsIn (ts.map Wd.rowOf) := ⟨fun e => by rw [List.map_eq_nil_iff] at e; rw [e] at hpos; simp at hpos, by omega, fun row hrow => ⟨by have := (hrb row hrow).1; omega, fun n hn => by have := (hrb row hrow).2 n hn; exact ⟨by omega, fun _ => by omega⟩⟩⟩
    refine ⟨u, ts, rfl, hu, by omega, fun p hp => ⟨by have := (tpc p hp).st; omega, by have := (tpc p hp).per; omega, by have := (tpc p hp).few; omega, fun r hr => by have := (tpc p hp).ok.bd r hr; have := (tpc p hp).per; omega⟩, fun H6 s6 => ?_⟩
    replace I := I.same s6
    replace hu := dp_same s6 _ hu
    replace hR := hR.same s6
    clear s6
    walk_at "go"
    refine iteNK (fun h => absurd rfl h) (fun _ => ?_)
    walk_at "go"
    refine ⟨ts.map Wd.rowOf, rfl, hin, fun H7 s7 => ⟨fun l e he => (by rw [hnone] at he; cases he), fun _ u2 hu2 => ?_⟩⟩
    rw [hback, htt] at hu2
    replace I := I.same s7
    replace hu := dp_same s7 _ hu
    replace hR := hR.same s7
    clear s7
    walk_at "go"
    refine g_neD hu2 hu (pl_pat _) (pl_pat _) (Nat.le_trans (dep_pat _) (by decide)) (Nat.le_trans (dep_pat _) (by decide)) (fun _ => ?_) (fun e => absurd rfl e)
    clear hu hu2 hnone hback hin htt
    walk_at "go"
    refine iteF ?_
    walk_at "go"
    refine ⟨D, _, rfl, .inl (SqL.of hR.lst), ?_⟩
    walk_at "go"
    rw [List.length_map, hR.len]
    refine I.draw (by rw [List.length_map]; omega) (by omega) fun at_ H8 a0 a1 I2 rel => ?_
    replace hR := hR.rel I rel
    replace I := I2
    clear I2 rel
    obtain ⟨j, rfl⟩ := Int.eq_ofNat_of_zero_le a0
    have hj : j < (ts.map Wd.rowOf).length := by omega
    clear a0 a1
    have hrow : (ts.map Wd.rowOf)[j]? = some (ts.map Wd.rowOf)[j] := List.getElem?_eq_getElem hj
    obtain ⟨hw1, hw2⟩ := hrb _ (List.getElem_mem hj)
    have hw0 : 2 ≤ (ts.map Wd.rowOf)[j].length := by
      rw [List.getElem_map]
      show 2 ≤ (_ :: _ :: _).length
      simp
    generalize (ts.map Wd.rowOf)[j] = row at hrow hw1 hw2 hw0
    obtain ⟨r, ar, hr1, hr2⟩ := hR.at hrow
    walk_at "go"
    refine g_ixL (SqL.of hR.lst) ar ?_
    walk_at "go"
    rw [List.length_map]
    refine I.draw (by omega) (by omega) fun k H9 k0 k1 I2 rel => ?_
    replace hr2 := rel _ _ (I.ne hr2 fun _ _ => ne_ints) hr2
    replace hR := hR.rel I rel
    replace I := I2
    clear I2 rel
    obtain ⟨k, rfl⟩ := Int.eq_ofNat_of_zero_le k0
    have hk : k < row.length := by omega
    clear k0 k1
    have hx : row[k]? = some row[k] := List.getElem?_eq_getElem hk
    have hx2 := hw2 _ (List.getElem_mem hk)
    generalize row[k] = x at hx hx2
    have ax : atI (row.map V.int) ((k : Nat) : Int) = some (.int x) := atI_nat (by rw [List.getElem?_map, hx]; rfl)
    walk_at "go"
    refine g_ixL (SqL.of hR.lst) ar ?_
    walk_at "go"
    refine g_ixL (SqL.of hr2) ax ?_
    walk_at "go"
    refine g_ixL (SqL.of hR.lst) ar ?_
    walk_at "go"
    refine g_ixL (SqL.of hr2) ax ?_
    walk_at "go"
    refine nwL (ys := ([0, 1, 5, x + 1, x - 1, 10000000000000, -1]).map V.int) rfl (by show 7 ≤ 1000000; decide) fun L7 H10 _ sm h7 => ?_
    replace I := I.same sm
    replace hR := hR.same sm
    replace hr2 := sm _ _ hr2
    clear sm
    walk_at "go"
    refine I.draw (by decide) (by decide) fun d H11 d0 d1 I2 rel => ?_
    replace h7 := rel _ _ (I.ne h7 fun _ _ => ne_ints) h7
    replace hr2 := rel _ _ (I.ne hr2 fun _ _ => ne_ints) hr2
    replace hR := hR.rel I rel
    replace I := I2
    clear I2 rel
    obtain ⟨d, rfl⟩ := Int.eq_ofNat_of_zero_le d0
    have hdl : d < [0, 1, 5, x + 1, x - 1, 10000000000000, -1].length := by show d < 7; omega
    have hnv : ∀ n ∈ [0, 1, 5, x + 1, x - 1, 10000000000000, -1], n.natAbs < 10 ^ 18 ∧ (n ≤ 1000000000000 → n < 1073741824) := fun n hn => by
      simp only [List.mem_cons, List.not_mem_nil, or_false] at hn
      rcases hn with rfl | rfl | rfl | rfl | rfl | rfl | rfl <;> exact ⟨by omega, fun _ => by omega⟩
    have hn := hnv _ (List.getElem_mem hdl)
    have hnx : [0, 1, 5, x + 1, x - 1, 10000000000000, -1][d]? = some [0, 1, 5, x + 1, x - 1, 10000000000000, -1][d] := List.getElem?_eq_getElem hdl
    have an : atI (([0, 1, 5, x + 1, x - 1, 10000000000000, -1]).map V.int) ((d : Nat) : Int) = some (.int [0, 1, 5, x + 1, x - 1, 10000000000000, -1][d]) := atI_nat (by rw [List.getElem?_map, hnx]; rfl)
    generalize [0, 1, 5, x + 1, x - 1, 10000000000000, -1][d] = n at hn an
    refine g_ixL (SqL.of h7) an ?_
    clear h7 hnv hnx an ax
    walk_at "go"
    refine I.draw (by decide) (by decide) fun way H12 w0 w1 I2 rel => ?_
    replace hr2 := rel _ _ (I.ne hr2 fun _ _ => ne_ints) hr2
    replace hR := hR.rel I rel
    replace I := I2
    clear I2 rel
    have hbr : ∀ n ∈ row, n.natAbs < 10 ^ 18 ∧ (n ≤ 1000000000000 → n < 1073741824) := fun n hn => by have := hw2 n hn; exact ⟨by omega, fun _ => by omega⟩
    walk_at "go"
    refine g_ixL (SqL.of hR.lst) ar ?_
    walk_at "go"
    refine g_slL (ys := (row.take k).map V.int) (SqL.of hr2) (by rw [cutV_to (by rw [List.length_map]; omega), List.map_take]) fun p1 G1 _ sm p1h => ?_
    replace I := I.same sm
    replace hR := hR.same sm
    replace hr2 := sm _ _ hr2
    clear sm
    walk_at "go"
    refine g_ixL (SqL.of hR.lst) ar ?_
    walk_at "go"
    refine g_slL (ys := (row.drop (k + 1)).map V.int) (SqL.of hr2) (by rw [show ((k : Nat) : Int) + 1 = ((k + 1 : Nat) : Int) by omega, cutV_from (by rw [List.length_map]; omega), List.map_drop]) fun p4 G4 _ sm p4h => ?_
    replace I := I.same sm
    replace hR := hR.same sm
    replace hr2 := sm _ _ hr2
    replace p1h := sm _ _ p1h
    clear sm
    refine g_cat (ys := (row.take k ++ row.drop (k + 1)).map V.int) p1h p4h (by rw [List.map_append]) (by rw [List.length_map, List.length_append, List.length_drop, List.length_take]; omega) fun p5 G5 p5n sm p5h => ?_
    have p5D : p5 ≠ D := (ne_of_none hR.lst p5n).symm
    replace I := I.same sm
    replace hR := hR.same sm
    replace hr2 := sm _ _ hr2
    clear sm
    walk_at "go"
    have bd0 : Bd (row.take k ++ row.drop (k + 1)) := ⟨by rw [List.length_append, List.length_take, List.length_drop]; omega, fun n hn => by
      rcases List.mem_append.mp hn with hn | hn
      · exact hbr n (List.mem_of_mem_take hn)
      · exact hbr n (List.mem_of_mem_drop hn)⟩
    generalize row.take k ++ row.drop (k + 1) = row1 at p5h bd0
    refine ⟨fun σ' H' => ∃ (r' : Addr) (row' : List Int), σ' = [some (.ref b), some (.ref t), some (.ref L), some (.ref u), some (.ref D), some (.str (S (Wd.rowsT (ts.map Wd.rowOf)))), some (.int (j : Nat)), some (.int (k : Nat)), some (.int n), some (.int way), some (.ref r'), none, none, none, none, none, none, none] ∧
      Tp t c ns H' ∧ RowsAt H' D as (ts.map Wd.rowOf) ∧ H' r' = some (.lst (row'.map V.int)) ∧ r' ≠ D ∧ Bd row' ∧ H' r = some (.lst (row.map V.int)), ?_, ?_⟩
    · walk_at "go"
      rw [dec_int]
      refine iteK (fun h => ?_) (fun h => ?_)
      · walk_at "go"
        clear p5D
        refine g_ixL (SqL.of hR.lst) ar ?_
        walk_at "go"
        refine g_slL (ys := (row.take k).map V.int) (SqL.of hr2) (by rw [cutV_to (by rw [List.length_map]; omega), List.map_take]) fun p1 G1 _ sm p1h => ?_
        replace I := I.same sm
        replace hR := hR.same sm
        replace hr2 := sm _ _ hr2
        clear sm
        walk_at "go"
        refine nwL (ys := [.int n]) rfl (by show 1 ≤ 1000000; decide) fun p2 G2 _ sm p2h => ?_
        replace I := I.same sm
        replace hR := hR.same sm
        replace hr2 := sm _ _ hr2
        replace p1h := sm _ _ p1h
        clear sm
        refine g_cat (ys := (row.take k ++ [n]).map V.int) p1h p2h (by rw [List.map_append]; rfl) (by rw [List.length_map, List.length_append, List.length_take, List.length_singleton]; omega) fun p3 G3 _ sm p3h => ?_
        replace I := I.same sm
        replace hR := hR.same sm
        replace hr2 := sm _ _ hr2
        clear sm
        walk_at "go"
        refine g_ixL (SqL.of hR.lst) ar ?_
        walk_at "go"
        refine g_slL (ys := (row.drop k).map V.int) (SqL.of hr2) (by rw [cutV_from (by rw [List.length_map]; omega), List.map_drop]) fun p4 G4 _ sm p4h => ?_
        replace I := I.same sm
        replace hR := hR.same sm
        replace hr2 := sm _ _ hr2
        replace p3h := sm _ _ p3h
        clear sm
        refine g_cat (ys := (row.take k ++ [n] ++ row.drop k).map V.int) p3h p4h List.map_append.symm (by rw [List.length_map, List.length_append, List.length_drop, List.length_append, List.length_singleton, List.length_take]; omega) fun q5 G5 q5n sm q5h => ?_
        have q5D : q5 ≠ D := (ne_of_none hR.lst q5n).symm
        replace I := I.same sm
        replace hR := hR.same sm
        replace hr2 := sm _ _ hr2
        clear sm
        walk_at "go"
        refine ⟨q5, row.take k ++ [n] ++ row.drop k, rfl, I, hR, q5h, q5D, ⟨?_, fun m hm => ?_⟩, hr2⟩
        · rw [List.length_append, List.length_append, List.length_singleton, List.length_take, List.length_drop]; omega
        · rcases List.mem_append.mp hm with hm | hm
          · rcases List.mem_append.mp hm with hm | hm
            · exact hbr m (List.mem_of_mem_take hm)
            · rw [List.mem_singleton.mp hm]; exact hn
          · exact hbr m (List.mem_of_mem_drop hm)
      · walk_at "go"
        exact ⟨p5, row1, rfl, I, hR, p5h, p5D, bd0, hr2⟩
    clear I hR hr2 p5h p5D bd0
    rintro σ' H13 ⟨p5, row1, rfl, I, hR, p5h, p5D, bd0, hr2⟩
    refine ⟨fun σ' H' => ∃ (r' : Addr) (row' : List Int), σ' = [some (.ref b), some (.ref t), some (.ref L), some (.ref u), some (.ref D), some (.str (S (Wd.rowsT (ts.map Wd.rowOf)))), some (.int (j : Nat)), some (.int (k : Nat)), some (.int n), some (.int way), some (.ref r'), none, none, none, none, none, none, none] ∧
      Tp t c ns H' ∧ RowsAt H' D as (ts.map Wd.rowOf) ∧ H' r' = some (.lst (row'.map V.int)) ∧ r' ≠ D ∧ Bd row', ?_, ?_⟩
    · walk_at "go"
      rw [dec_int]
      refine iteK (fun h => ?_) (fun h => ?_)
      · walk_at "go"
        clear p5D
        refine g_ixL (SqL.of hR.lst) ar ?_
        walk_at "go"
        refine g_slL (ys := (row.take k).map V.int) (SqL.of hr2) (by rw [cutV_to (by rw [List.length_map]; omega), List.map_take]) fun p1 G1 _ sm p1h => ?_
        replace I := I.same sm
        replace hR := hR.same sm
        replace hr2 := sm _ _ hr2
        clear sm
        walk_at "go"
        refine nwL (ys := [.int n]) rfl (by show 1 ≤ 1000000; decide) fun p2 G2 _ sm p2h => ?_
        replace I := I.same sm
        replace hR := hR.same sm
        replace hr2 := sm _ _ hr2
        replace p1h := sm _ _ p1h
        clear sm
        refine g_cat (ys := (row.take k ++ [n]).map V.int) p1h p2h (by rw [List.map_append]; rfl) (by rw [List.length_map, List.length_append, List.length_take, List.length_singleton]; omega) fun p3 G3 _ sm p3h => ?_
        replace I := I.same sm
        replace hR := hR.same sm
        replace hr2 := sm _ _ hr2
        clear sm
        walk_at "go"
        refine g_ixL (SqL.of hR.lst) ar ?_
        walk_at "go"
        refine g_slL (ys := (row.drop (k + 1)).map V.int) (SqL.of hr2) (by rw [show ((k : Nat) : Int) + 1 = ((k + 1 : Nat) : Int) by omega, cutV_from (by rw [List.length_map]; omega), List.map_drop]) fun p4 G4 _ sm p4h => ?_
        replace I := I.same sm
        replace hR := hR.same sm
        replace hr2 := sm _ _ hr2
        replace p3h := sm _ _ p3h
        clear sm
        refine g_cat (ys := (row.take k ++ [n] ++ row.drop (k + 1)).map V.int) p3h p4h List.map_append.symm (by rw [List.length_map, List.length_append, List.length_drop, List.length_append, List.length_singleton, List.length_take]; omega) fun q5 G5 q5n sm q5h => ?_
        have q5D : q5 ≠ D := (ne_of_none hR.lst q5n).symm
        replace I := I.same sm
        replace hR := hR.same sm
        replace hr2 := sm _ _ hr2
        clear sm
        walk_at "go"
        refine ⟨q5, row.take k ++ [n] ++ row.drop (k + 1), rfl, I, hR, q5h, q5D, ⟨?_, fun m hm => ?_⟩⟩
        · rw [List.length_append, List.length_append, List.length_singleton, List.length_take, List.length_drop]; omega
        · rcases List.mem_append.mp hm with hm | hm
          · rcases List.mem_append.mp hm with hm | hm
            · exact hbr m (List.mem_of_mem_take hm)
            · rw [List.mem_singleton.mp hm]; exact hn
          · exact hbr m (List.mem_of_mem_drop hm)
      · walk_at "go"
        exact ⟨p5, row1, rfl, I, hR, p5h, p5D, bd0⟩
    clear I hR hr2 p5h p5D bd0
    rintro σ' H14 ⟨p5, row1, rfl, I, hR, p5h, p5D, bd0⟩
    walk_at "go"
    have hal : j < (as.map V.ref).length := by rw [List.length_map, hR.len]; exact hj
    refine g_setL hR.lst (ixN_at hal) ?_
    have hR2 := hR.set (j := j) p5h p5D hnD
    replace I := I.putF (o := .lst ((as.map V.ref).set j (.ref p5))) hDt hDc
    generalize upd H14 D (.lst ((as.map V.ref).set j (.ref p5))) = H15 at I hR2
    clear hR p5h
    have hql : ((ts.map Wd.rowOf).set j row1).length ≤ 4 := by rw [List.length_set]; exact hrl
    have hqin : RowsIn ((ts.map Wd.rowOf).set j row1) := by
      refine ⟨fun e => ?_, by omega, fun row hrow => ?_⟩
      · have := congrArg List.length e
        rw [List.length_set, List.length_map] at this
        exact absurd this (by show ¬ ts.length = 0; omega)
      · rcases List.mem_or_eq_of_mem_set hrow with h | rfl
        · have := hrb row h
          exact ⟨by omega, fun n hn => by have := this.2 n hn; exact ⟨by omega, fun _ => by omega⟩⟩
        · exact ⟨by have := bd0.len; omega, bd0.one⟩
    generalize as.set j p5 = bs at hR2
    generalize (ts.map Wd.rowOf).set j row1 = qs at hR2 hql hqin
    clear hrb hrl hrow hw1 hw2 hw0 hbr bd0 hnD th0 tas tpc
    walk_at "go"
    refine ⟨⟨_, rfl⟩, ?_⟩
    refine rows_lines hR2 (by omega) (fun row hrow => ⟨(hqin.row row hrow).1, fun n hn => ((hqin.row row hrow).2 n hn).1⟩) fun E2 H16 s16 hE2 => ?_
    refine ⟨S [10], E2, (qs.map Wd.rowT).map S, rfl, rfl, join1 hE2, join2 (m := 800) (fun z hz => ?_) (by decide) (by rw [List.length_map]; omega), ?_⟩
    · obtain ⟨row, hrow, rfl⟩ := List.mem_map.mp hz
      exact rowT_len (hqin.row row hrow).1 fun n hn => ((hqin.row row hrow).2 n hn).1
    rw [join_S]
    replace hR2 := hR2.same s16
    clear I s16 hE2
    walk_at "go"
    refine ⟨qs, rfl, hqin, fun H17 s17 => ⟨fun l e hw r1 hr1 => ?_, fun hw u1 hu1 => ?_⟩⟩
    · replace hR2 := hR2.same s17
      walk_at "go"
      refine ⟨D, bs, qs, rfl, hR2, by omega, fun row hrow => (hqin.row row hrow).1, fun H18 s18 => ⟨fun h => (by rw [hw] at h; cases h), fun l2 e2 h2 r2 hr2 => ?_⟩⟩
      rw [hw] at h2
      cases h2
      replace hr1 := s18 _ _ hr1
      have dp : ∀ {r : Addr}, H18 r = some (.tup [.int (l : Nat), .int (e : Nat)]) → Dp K H18 (.ref r) (.tuple [.int (l : Nat), .int (e : Nat)]) := fun h => .tup (SqT.of h) (.cons (.int _) (.cons (.int _) .nil))
      walk_at "go"
      refine ite_y rfl ?_
      walk_at "go"
      refine g_eqD (dp hr1) (dp hr2) (by simp [pl, plAll]) (by simp [pl, plAll]) (by simp [PyData.depth, PyData.depthAll]) (by simp [PyData.depth, PyData.depthAll]) (fun _ => ?_) (fun e => absurd rfl e)
      exact q _
    · replace hR2 := hR2.same s17
      obtain ⟨hpk, hasc⟩ := Wd.rowsOk_pcs (Int.le_refl 0) (Wd.wrongGo_none.mp hw)
      have hqp : ∀ p ∈ qs.map Wd.pcOf, PcOk p := fun p hp => by
        obtain ⟨row, hrow, rfl⟩ := List.mem_map.mp hp
        obtain ⟨hr1, hr2⟩ := hqin.row row hrow
        have ok := (hpk _ (List.mem_map_of_mem hrow)).1
        refine ⟨ok, ?_, ?_⟩
        · obtain ⟨i, hi⟩ := List.getElem?_of_mem hrow
          have hrow2 := rows_each hw hi
          have hp1 : 1 ≤ (row.getD 1 0).toNat := ok.pos
          show (row.getD 1 0).toNat < 1073741824
          cases e : row[1]? with
          | none => rw [List.getD_eq_getElem?_getD, e] at hp1; exact absurd hp1 (by decide)
          | some n =>
            have hsm := hrow2.per.2
            rw [List.getD_eq_getElem?_getD, e] at hsm ⊢
            have := (hr2 n (List.mem_of_getElem? e)).2 hsm
            show n.toNat < 1073741824
            omega
        · show ((row.drop 2).map Int.toNat).length ≤ 1000
          rw [List.length_map, List.length_drop]
          omega
      walk_at "go"
      refine ⟨D, bs, qs, rfl, hR2, by omega, fun row hrow => (hqin.row row hrow).1, fun H18 s18 => ⟨fun _ => ?_, fun l2 e2 h2 => (by rw [hw] at h2; cases h2)⟩⟩
      replace hR2 := hR2.same s18
      replace hu1 := dp_same s18 _ hu1
      walk_at "go"
      refine ite_n rfl ?_
      walk_at "go"
      refine ⟨D, rfl, ⟨_, SqL.of hR2.lst⟩, fun O hO => ?_⟩
      refine lc_list (K := K) (a := D) (xs := bs.map V.ref) (fun i H' => Same H18 H' ∧ ∃ vs, H' O = some (.lst vs) ∧ DpAll K H' vs (((qs.take i).map Wd.pcOf).map pcD)) ⟨same_new hO, [], upd_same, .nil⟩ (fun i H' _ h => SqL.of (h.1 _ _ hR2.lst)) ?_ ?_
      · rintro i x H19 hi ⟨s19, vs, hO19, hd19⟩
        obtain ⟨r, hr, rfl⟩ : ∃ r, bs[i]? = some r ∧ x = .ref r := by
          rw [List.getElem?_map] at hi
          cases e : bs[i]? with
          | none => rw [e] at hi; cases hi
          | some r => rw [e] at hi; exact ⟨r, rfl, (Option.some.inj hi).symm⟩
        have hil : i < qs.length := by rw [← hR2.len]; exact (List.getElem?_eq_some_iff.mp hr).1
        have hrow : qs[i]? = some qs[i] := List.getElem?_eq_getElem hil
        have hok := rows_each hw hrow
        have hrr := s19 _ _ (hR2.row i r _ hr hrow)
        obtain ⟨hb1, hb2⟩ := hqin.row _ (List.getElem_mem hil)
        generalize qs[i] = row at hrow hok hrr hb1 hb2
        obtain ⟨s0, per, rs, rfl⟩ : ∃ s0 per rs, row = s0 :: per :: rs := by
          have := hok.two
          match row, this with
          | s0 :: per :: rs, _ => exact ⟨s0, per, rs, rfl⟩
        have hst : s0 = (s0.toNat : Nat) := by
          have h1 := (hpk _ (List.mem_map_of_mem (List.mem_of_getElem? hrow))).2
          have h2 := hok.st.1
          have h3 : 0 ≤ Wd.leastAt qs i := leastAt_pos hw (by omega)
          have h2 : Wd.leastAt qs i ≤ s0 := h2
          omega
        have hpr : per = (per.toNat : Nat) := by
          have h2 := hok.per.1
          have h2 : 1 ≤ per := h2
          omega
        have a0 : atI ((s0 :: per :: rs).map V.int) (0 : Int) = some (.int s0) := atI_nat (j := 0) rfl
        have a1 : atI ((s0 :: per :: rs).map V.int) (1 : Int) = some (.int per) := atI_nat (j := 1) rfl
        walk_at "go"
        refine ⟨rfl, ?_⟩
        refine g_yes (iteT ?_)
        walk_at "go"
        try refine g_ixL (SqL.of hrr) a0 ?_
        try walk_at "go"
        try refine g_ixL (SqL.of hrr) a1 ?_
        try walk_at "go"
        refine g_slL (ys := rs.map V.int) (SqL.of hrr) (by rw [show (2 : Int) = ((2 : Nat) : Int) from rfl, cutV_from (by rw [List.length_map]; show 2 ≤ rs.length + 1 + 1; omega)]; rfl) fun p1 H20 _ s20 h20 => ?_
        walk_at "go"
        refine g_tupOfL (SqL.of h20) fun p2 H21 _ s21 h21 => ?_
        walk_at "go"
        refine nwT (ys := [.int s0, .int per, .ref p2]) rfl (by show 3 ≤ 1000000; decide) fun p3 H22 _ s22 h22 => ?_
        have s1922 := s20.trans (s21.trans s22)
        refine ⟨vs, s1922 _ _ hO19, ?_, same_put hO (s19.trans s1922), vs ++ [.ref p3], upd_same, ?_⟩
        · have := dpAll_len hd19
          rw [List.length_map, List.length_map, List.length_take] at this
          have := sizeBig
          omega
        · have kp : KeepT H22 (upd H22 O (.lst (vs ++ [.ref p3]))) := KeepT.putL (s1922 _ _ hO19)
          rw [take_more hrow, List.map_append, List.map_append]
          refine dpAll_app (dpAll_keep kp _ (noL_pcs _) (dpAll_same s1922 _ hd19)) (.cons (dp_keep kp _ (noL_pc _) (pc_mk (t := p2) (p := Wd.pcOf (s0 :: per :: rs)) ?_ ?_)) .nil)
          · show SqT K H22 p3 [.int (s0.toNat : Nat), .int (per.toNat : Nat), .ref p2]
            rw [← hst, ← hpr]
            exact SqT.of h22
          · have e3 : ni (Wd.pcOf (s0 :: per :: rs)).2.2 = rs.map V.int := by
              show (rs.map Int.toNat).map _ = _
              rw [List.map_map]
              exact List.map_congr_left fun r hr => by
                have := (hok.rs r hr).1
                show V.int ((r.toNat : Nat) : Int) = V.int r
                rw [Int.toNat_of_nonneg this]
            rw [e3]
            exact SqT.ext (SqT.of h21) s22
      rintro H19 ⟨s19, vs, hO19, hd19⟩
      rw [List.length_map, hR2.len, List.take_length] at hd19
      replace hu1 := dp_same s19 _ hu1
      clear hR2 s19
      walk_at "go"
      have hn4 : (qs.map Wd.pcOf).length ≤ 4 := by rw [List.length_map]; exact hql
      have hh0 : ∃ p, (qs.map Wd.pcOf)[0]? = some p ∧ p.1 = 0 := by
        obtain ⟨row, rest, rfl⟩ : ∃ row rest, qs = row :: rest := by
          cases qs with
          | nil => exact absurd rfl hqin.ne
          | cons r rs => exact ⟨r, rs, rfl⟩
        have hok := rows_each hw (i := 0) (row := row) rfl
        have h0 := hok.z rfl
        exact ⟨_, rfl, by show (row.getD 0 0).toNat = 0; rw [h0]; rfl⟩
      generalize qs.map Wd.pcOf = ps2 at hu1 hd19 hqp hasc hn4 hh0
      clear hpk hw hqin hql
      refine ⟨O, vs, ps2, rfl, hO19, hd19, hqp, by omega, fun u3 H20 s20 hu3 => ?_⟩
      replace hu1 := dp_same s20 _ hu1
      replace hO19 := s20 _ _ hO19
      replace hd19 := dpAll_same s20 _ hd19
      clear s20
      walk_at "go"
      refine g_neD hu1 hu3 (pl_pat _) (pl_pat _) (Nat.le_trans (dep_pat _) (by decide)) (Nat.le_trans (dep_pat _) (by decide)) (fun _ => ?_) (fun e => absurd rfl e)
      walk_at "go"
      refine iteF ?_
      walk_at "go"
      obtain ⟨to2, _, _, _, tf2, th2, ts2, tl2⟩ := Per.tid_ok ps2 (fun p hp => (hqp p hp).ok) hasc
      have tq : ∀ p ∈ Per.tid ps2, PcOk p := fun p hp => by
        obtain ⟨q, hq, e1, e2, e3⟩ := tf2 p hp
        have := hqp q hq
        exact ⟨to2 p hp, by have := this.small; omega, by have := this.few; omega⟩
      have th3 : ∃ p, (Per.tid ps2)[0]? = some p ∧ p.1 = 0 := by
        obtain ⟨p0, hp0, hp00⟩ := hh0
        have e1 : ps2.head? = some p0 := by rw [List.head?_eq_getElem?]; exact hp0
        rw [e1] at th2
        cases hh : (Per.tid ps2).head? with
        | none => rw [hh] at th2; cases th2
        | some q =>
          rw [hh] at th2
          refine ⟨q, by rw [← List.head?_eq_getElem?]; exact hh, ?_⟩
          have : q.1 = p0.1 := Option.some.inj th2
          omega
      refine ⟨_, rfl, by decide, by decide, fun B hB => ?_⟩
      refine lc_range (fun i H' => Same _ H' ∧ H' B = some (.lst (List.replicate i (.bl true)))) ⟨same_new hB, upd_same⟩ ?_ ?_
      · rintro i H21 hi ⟨s21, hB21⟩
        have e0 : (0 : Int) + (i : Nat) = (i : Nat) := by omega
        walk_at "go"
        refine ⟨rfl, ?_⟩
        refine g_yes (iteT ?_)
        walk_at "go"
        rw [e0]
        refine ⟨u1, Per.tid ps2, i, rfl, dp_same s21 _ hu1, tq, by omega, ?_, ?_⟩
        · obtain ⟨p, hp, h0⟩ := th3
          exact ⟨p, hp, by omega⟩
        walk_at "go"
        refine ⟨O, vs, ps2, i, rfl, s21 _ _ hO19, dpAll_same s21 _ hd19, hqp, ?_⟩
        rw [ts2 i]
        walk_at "go"
        refine ⟨_, hB21, ?_, same_put hB s21, ?_⟩
        · have := sizeBig
          rw [List.length_replicate]
          have : i < 60 := hi
          omega
        · rw [upd_same, decide_eq_true rfl, List.replicate_succ']
      · rintro H21 ⟨s21, hB21⟩
        refine ⟨B, _, rfl, .inl (SqL.of hB21), rfl, by decide, ?_⟩
        exact q _
end
theorem all_mk {l : PySem.W.OpenLaw} {w : World} {K : PySem.W.Frag} {h : Heap} {mg : Str → Option Value} {fa : Addr} (X : K.In h) (G : h.Ns mainGlobals mg) (hfa : mg "law" = some (.ref fa))
    {f_BadText_init : Addr} {oc_BadText_init : Value} {od_BadText_init an_BadText_init : Option Addr} {sl_BadText_init : Array (Option Value)} {kV_BadText_init dc_BadText_init pm_BadText_init cd_BadText_init ct_BadText_init : Value}
    {f_primes_of : Addr} {oc_primes_of : Value} {od_primes_of an_primes_of : Option Addr} {sl_primes_of : Array (Option Value)} {kV_primes_of dc_primes_of pm_primes_of cd_primes_of ct_primes_of : Value}
    {f_place_in : Addr} {oc_place_in : Value} {od_place_in an_place_in : Option Addr} {sl_place_in : Array (Option Value)} {kV_place_in dc_place_in pm_place_in cd_place_in ct_place_in : Value}
    {f_shrunk : Addr} {oc_shrunk : Value} {od_shrunk an_shrunk : Option Addr} {sl_shrunk : Array (Option Value)} {kV_shrunk dc_shrunk pm_shrunk cd_shrunk ct_shrunk : Value}
    {f_repeats : Addr} {oc_repeats : Value} {od_repeats an_repeats : Option Addr} {sl_repeats : Array (Option Value)} {kV_repeats dc_repeats pm_repeats cd_repeats ct_repeats : Value}
    {f_has : Addr} {oc_has : Value} {od_has an_has : Option Addr} {sl_has : Array (Option Value)} {kV_has dc_has pm_has cd_has ct_has : Value}
    {f_tidied : Addr} {oc_tidied : Value} {od_tidied an_tidied : Option Addr} {sl_tidied : Array (Option Value)} {kV_tidied dc_tidied pm_tidied cd_tidied ct_tidied : Value}
    {f_belongs : Addr} {oc_belongs : Value} {od_belongs an_belongs : Option Addr} {sl_belongs : Array (Option Value)} {kV_belongs dc_belongs pm_belongs cd_belongs ct_belongs : Value}
    {f_read_integer : Addr} {oc_read_integer : Value} {od_read_integer an_read_integer : Option Addr} {sl_read_integer : Array (Option Value)} {kV_read_integer dc_read_integer pm_read_integer cd_read_integer ct_read_integer : Value}
    {f_Line_init : Addr} {oc_Line_init : Value} {od_Line_init an_Line_init : Option Addr} {sl_Line_init : Array (Option Value)} {kV_Line_init dc_Line_init pm_Line_init cd_Line_init ct_Line_init : Value}
    {f_Line_upcoming : Addr} {oc_Line_upcoming : Value} {od_Line_upcoming an_Line_upcoming : Option Addr} {sl_Line_upcoming : Array (Option Value)} {kV_Line_upcoming dc_Line_upcoming pm_Line_upcoming cd_Line_upcoming ct_Line_upcoming : Value}
    {f_Line_take_integer : Addr} {oc_Line_take_integer : Value} {od_Line_take_integer an_Line_take_integer : Option Addr} {sl_Line_take_integer : Array (Option Value)} {kV_Line_take_integer dc_Line_take_integer pm_Line_take_integer cd_Line_take_integer ct_Line_take_integer : Value}
    {f_pattern_text : Addr} {oc_pattern_text : Value} {od_pattern_text an_pattern_text : Option Addr} {sl_pattern_text : Array (Option Value)} {kV_pattern_text dc_pattern_text pm_pattern_text cd_pattern_text ct_pattern_text : Value}
    {f_take_residues : Addr} {oc_take_residues : Value} {od_take_residues an_take_residues : Option Addr} {sl_take_residues : Array (Option Value)} {kV_take_residues dc_take_residues pm_take_residues cd_take_residues ct_take_residues : Value}
    {f_read_pattern : Addr} {oc_read_pattern : Value} {od_read_pattern an_read_pattern : Option Addr} {sl_read_pattern : Array (Option Value)} {kV_read_pattern dc_read_pattern pm_read_pattern cd_read_pattern ct_read_pattern : Value}
    {f_law_draw : Addr} {oc_law_draw : Value} {od_law_draw an_law_draw : Option Addr} {sl_law_draw : Array (Option Value)} {kV_law_draw dc_law_draw pm_law_draw cd_law_draw ct_law_draw : Value}
    {f_law_tape : Addr} {oc_law_tape : Value} {od_law_tape an_law_tape : Option Addr} {sl_law_tape : Array (Option Value)} {kV_law_tape dc_law_tape pm_law_tape cd_law_tape ct_law_tape : Value}
    {f_law_mod : Addr} {oc_law_mod : Value} {od_law_mod an_law_mod : Option Addr} {sl_law_mod : Array (Option Value)} {kV_law_mod dc_law_mod pm_law_mod cd_law_mod ct_law_mod : Value}
    {f_law_subset : Addr} {oc_law_subset : Value} {od_law_subset an_law_subset : Option Addr} {sl_law_subset : Array (Option Value)} {kV_law_subset dc_law_subset pm_law_subset cd_law_subset ct_law_subset : Value}
    {f_law_pieces : Addr} {oc_law_pieces : Value} {od_law_pieces an_law_pieces : Option Addr} {sl_law_pieces : Array (Option Value)} {kV_law_pieces dc_law_pieces pm_law_pieces cd_law_pieces ct_law_pieces : Value}
    {f_law_in : Addr} {oc_law_in : Value} {od_law_in an_law_in : Option Addr} {sl_law_in : Array (Option Value)} {kV_law_in dc_law_in pm_law_in cd_law_in ct_law_in : Value}
    {f_law_told : Addr} {oc_law_told : Value} {od_law_told an_law_told : Option Addr} {sl_law_told : Array (Option Value)} {kV_law_told dc_law_told pm_law_told cd_law_told ct_law_told : Value}
    {f_law_wrong : Addr} {oc_law_wrong : Value} {od_law_wrong an_law_wrong : Option Addr} {sl_law_wrong : Array (Option Value)} {kV_law_wrong dc_law_wrong pm_law_wrong cd_law_wrong ct_law_wrong : Value}
    {f_law : Addr} {oc_law : Value} {od_law an_law : Option Addr} {sl_law : Array (Option Value)} {kV_law dc_law pm_law cd_law ct_law : Value}
    {C_Line : Addr}
    {C_BadText : Addr}
    {nm_BadText q_BadText : Str} {N_BadText : Addr} {bs_BadText : List Value} {sn_BadText : List Str} {sub_BadText : List Value} {ab_BadText : Bool} {col_BadText : Option Bool} {dd_BadText : Option Addr} {m0_BadText m1_BadText m2_BadText m3_BadText m5_BadText : Option Value}
    {C_DaysError : Addr} {M_DaysError : Value}
    {tk_DIGITS : Tok}
    {tk_DIGITS_MOST : Tok}
    {tk_RESIDUES_MOST : Tok}
    {tk_PERIOD_MOST : Tok}
    (a_BadText_init : PySem.W.findIn K (.ref C_BadText) "__init__" = some (some (.ref f_BadText_init)))
    (l_BadText_init : K.lookup f_BadText_init = some ⟨oc_BadText_init, od_BadText_init, .func (PySem.W.fnOf "__init__" "BadText.__init__" (defArgs s_BadText_init) (defBody s_BadText_init) (defScope s_BadText_init) .none kV_BadText_init dc_BadText_init pm_BadText_init an_BadText_init cd_BadText_init ct_BadText_init), sl_BadText_init⟩)
    (c_BadText_init : PySem.W.codeIn K cd_BadText_init "BadText.__init__" = true)
    (k_BadText_init : PySem.W.keepIn K (.ref f_BadText_init) = true)
    (i_BadText_init : PySem.W.isFn K (.ref f_BadText_init) = true)
    (a_primes_of : PySem.W.nsIn K mainGlobals "primes_of" = some (some (.ref f_primes_of)))
    (l_primes_of : K.lookup f_primes_of = some ⟨oc_primes_of, od_primes_of, .func (PySem.W.fnOf "primes_of" "primes_of" (defArgs s_primes_of) (defBody s_primes_of) (defScope s_primes_of) .none kV_primes_of dc_primes_of pm_primes_of an_primes_of cd_primes_of ct_primes_of), sl_primes_of⟩)
    (c_primes_of : PySem.W.codeIn K cd_primes_of "primes_of" = true)
    (k_primes_of : PySem.W.keepIn K (.ref f_primes_of) = true)
    (a_place_in : PySem.W.nsIn K mainGlobals "place_in" = some (some (.ref f_place_in)))
    (l_place_in : K.lookup f_place_in = some ⟨oc_place_in, od_place_in, .func (PySem.W.fnOf "place_in" "place_in" (defArgs s_place_in) (defBody s_place_in) (defScope s_place_in) .none kV_place_in dc_place_in pm_place_in an_place_in cd_place_in ct_place_in), sl_place_in⟩)
    (c_place_in : PySem.W.codeIn K cd_place_in "place_in" = true)
    (k_place_in : PySem.W.keepIn K (.ref f_place_in) = true)
    (a_shrunk : PySem.W.nsIn K mainGlobals "shrunk" = some (some (.ref f_shrunk)))
    (l_shrunk : K.lookup f_shrunk = some ⟨oc_shrunk, od_shrunk, .func (PySem.W.fnOf "shrunk" "shrunk" (defArgs s_shrunk) (defBody s_shrunk) (defScope s_shrunk) .none kV_shrunk dc_shrunk pm_shrunk an_shrunk cd_shrunk ct_shrunk), sl_shrunk⟩)
    (c_shrunk : PySem.W.codeIn K cd_shrunk "shrunk" = true)
    (k_shrunk : PySem.W.keepIn K (.ref f_shrunk) = true)
    (a_repeats : PySem.W.nsIn K mainGlobals "repeats" = some (some (.ref f_repeats)))
    (l_repeats : K.lookup f_repeats = some ⟨oc_repeats, od_repeats, .func (PySem.W.fnOf "repeats" "repeats" (defArgs s_repeats) (defBody s_repeats) (defScope s_repeats) .none kV_repeats dc_repeats pm_repeats an_repeats cd_repeats ct_repeats), sl_repeats⟩)
    (c_repeats : PySem.W.codeIn K cd_repeats "repeats" = true)
    (k_repeats : PySem.W.keepIn K (.ref f_repeats) = true)
    (a_has : PySem.W.nsIn K mainGlobals "has" = some (some (.ref f_has)))
    (l_has : K.lookup f_has = some ⟨oc_has, od_has, .func (PySem.W.fnOf "has" "has" (defArgs s_has) (defBody s_has) (defScope s_has) .none kV_has dc_has pm_has an_has cd_has ct_has), sl_has⟩)
    (c_has : PySem.W.codeIn K cd_has "has" = true)
    (k_has : PySem.W.keepIn K (.ref f_has) = true)
    (a_tidied : PySem.W.nsIn K mainGlobals "tidied" = some (some (.ref f_tidied)))
    (l_tidied : K.lookup f_tidied = some ⟨oc_tidied, od_tidied, .func (PySem.W.fnOf "tidied" "tidied" (defArgs s_tidied) (defBody s_tidied) (defScope s_tidied) .none kV_tidied dc_tidied pm_tidied an_tidied cd_tidied ct_tidied), sl_tidied⟩)
    (c_tidied : PySem.W.codeIn K cd_tidied "tidied" = true)
    (k_tidied : PySem.W.keepIn K (.ref f_tidied) = true)
    (a_belongs : PySem.W.nsIn K mainGlobals "belongs" = some (some (.ref f_belongs)))
    (l_belongs : K.lookup f_belongs = some ⟨oc_belongs, od_belongs, .func (PySem.W.fnOf "belongs" "belongs" (defArgs s_belongs) (defBody s_belongs) (defScope s_belongs) .none kV_belongs dc_belongs pm_belongs an_belongs cd_belongs ct_belongs), sl_belongs⟩)
    (c_belongs : PySem.W.codeIn K cd_belongs "belongs" = true)
    (k_belongs : PySem.W.keepIn K (.ref f_belongs) = true)
    (a_read_integer : PySem.W.nsIn K mainGlobals "read_integer" = some (some (.ref f_read_integer)))
    (l_read_integer : K.lookup f_read_integer = some ⟨oc_read_integer, od_read_integer, .func (PySem.W.fnOf "read_integer" "read_integer" (defArgs s_read_integer) (defBody s_read_integer) (defScope s_read_integer) .none kV_read_integer dc_read_integer pm_read_integer an_read_integer cd_read_integer ct_read_integer), sl_read_integer⟩)
    (c_read_integer : PySem.W.codeIn K cd_read_integer "read_integer" = true)
    (k_read_integer : PySem.W.keepIn K (.ref f_read_integer) = true)
    (a_Line_init : PySem.W.findIn K (.ref C_Line) "__init__" = some (some (.ref f_Line_init)))
    (l_Line_init : K.lookup f_Line_init = some ⟨oc_Line_init, od_Line_init, .func (PySem.W.fnOf "__init__" "Line.__init__" (defArgs s_Line_init) (defBody s_Line_init) (defScope s_Line_init) .none kV_Line_init dc_Line_init pm_Line_init an_Line_init cd_Line_init ct_Line_init), sl_Line_init⟩)
    (c_Line_init : PySem.W.codeIn K cd_Line_init "Line.__init__" = true)
    (k_Line_init : PySem.W.keepIn K (.ref f_Line_init) = true)
    (i_Line_init : PySem.W.isFn K (.ref f_Line_init) = true)
    (a_Line_upcoming : PySem.W.findIn K (.ref C_Line) "upcoming" = some (some (.ref f_Line_upcoming)))
    (l_Line_upcoming : K.lookup f_Line_upcoming = some ⟨oc_Line_upcoming, od_Line_upcoming, .func (PySem.W.fnOf "upcoming" "Line.upcoming" (defArgs s_Line_upcoming) (defBody s_Line_upcoming) (defScope s_Line_upcoming) .none kV_Line_upcoming dc_Line_upcoming pm_Line_upcoming an_Line_upcoming cd_Line_upcoming ct_Line_upcoming), sl_Line_upcoming⟩)
    (c_Line_upcoming : PySem.W.codeIn K cd_Line_upcoming "Line.upcoming" = true)
    (k_Line_upcoming : PySem.W.keepIn K (.ref f_Line_upcoming) = true)
    (i_Line_upcoming : PySem.W.isFn K (.ref f_Line_upcoming) = true)
    (a_Line_take_integer : PySem.W.findIn K (.ref C_Line) "take_integer" = some (some (.ref f_Line_take_integer)))
    (l_Line_take_integer : K.lookup f_Line_take_integer = some ⟨oc_Line_take_integer, od_Line_take_integer, .func (PySem.W.fnOf "take_integer" "Line.take_integer" (defArgs s_Line_take_integer) (defBody s_Line_take_integer) (defScope s_Line_take_integer) .none kV_Line_take_integer dc_Line_take_integer pm_Line_take_integer an_Line_take_integer cd_Line_take_integer ct_Line_take_integer), sl_Line_take_integer⟩)
    (c_Line_take_integer : PySem.W.codeIn K cd_Line_take_integer "Line.take_integer" = true)
    (k_Line_take_integer : PySem.W.keepIn K (.ref f_Line_take_integer) = true)
    (i_Line_take_integer : PySem.W.isFn K (.ref f_Line_take_integer) = true)
    (a_pattern_text : PySem.W.nsIn K mainGlobals "pattern_text" = some (some (.ref f_pattern_text)))
    (l_pattern_text : K.lookup f_pattern_text = some ⟨oc_pattern_text, od_pattern_text, .func (PySem.W.fnOf "pattern_text" "pattern_text" (defArgs s_pattern_text) (defBody s_pattern_text) (defScope s_pattern_text) .none kV_pattern_text dc_pattern_text pm_pattern_text an_pattern_text cd_pattern_text ct_pattern_text), sl_pattern_text⟩)
    (c_pattern_text : PySem.W.codeIn K cd_pattern_text "pattern_text" = true)
    (k_pattern_text : PySem.W.keepIn K (.ref f_pattern_text) = true)
    (a_take_residues : PySem.W.nsIn K mainGlobals "take_residues" = some (some (.ref f_take_residues)))
    (l_take_residues : K.lookup f_take_residues = some ⟨oc_take_residues, od_take_residues, .func (PySem.W.fnOf "take_residues" "take_residues" (defArgs s_take_residues) (defBody s_take_residues) (defScope s_take_residues) .none kV_take_residues dc_take_residues pm_take_residues an_take_residues cd_take_residues ct_take_residues), sl_take_residues⟩)
    (c_take_residues : PySem.W.codeIn K cd_take_residues "take_residues" = true)
    (k_take_residues : PySem.W.keepIn K (.ref f_take_residues) = true)
    (a_read_pattern : PySem.W.nsIn K mainGlobals "read_pattern" = some (some (.ref f_read_pattern)))
    (l_read_pattern : K.lookup f_read_pattern = some ⟨oc_read_pattern, od_read_pattern, .func (PySem.W.fnOf "read_pattern" "read_pattern" (defArgs s_read_pattern) (defBody s_read_pattern) (defScope s_read_pattern) .none kV_read_pattern dc_read_pattern pm_read_pattern an_read_pattern cd_read_pattern ct_read_pattern), sl_read_pattern⟩)
    (c_read_pattern : PySem.W.codeIn K cd_read_pattern "read_pattern" = true)
    (k_read_pattern : PySem.W.keepIn K (.ref f_read_pattern) = true)
    (a_law_draw : PySem.W.nsIn K mainGlobals "_law_draw" = some (some (.ref f_law_draw)))
    (l_law_draw : K.lookup f_law_draw = some ⟨oc_law_draw, od_law_draw, .func (PySem.W.fnOf "_law_draw" "_law_draw" (defArgs s_law_draw) (defBody s_law_draw) (defScope s_law_draw) .none kV_law_draw dc_law_draw pm_law_draw an_law_draw cd_law_draw ct_law_draw), sl_law_draw⟩)
    (c_law_draw : PySem.W.codeIn K cd_law_draw "_law_draw" = true)
    (k_law_draw : PySem.W.keepIn K (.ref f_law_draw) = true)
    (a_law_tape : PySem.W.nsIn K mainGlobals "_law_tape" = some (some (.ref f_law_tape)))
    (l_law_tape : K.lookup f_law_tape = some ⟨oc_law_tape, od_law_tape, .func (PySem.W.fnOf "_law_tape" "_law_tape" (defArgs s_law_tape) (defBody s_law_tape) (defScope s_law_tape) .none kV_law_tape dc_law_tape pm_law_tape an_law_tape cd_law_tape ct_law_tape), sl_law_tape⟩)
    (c_law_tape : PySem.W.codeIn K cd_law_tape "_law_tape" = true)
    (k_law_tape : PySem.W.keepIn K (.ref f_law_tape) = true)
    (a_law_mod : PySem.W.nsIn K mainGlobals "_law_mod" = some (some (.ref f_law_mod)))
    (l_law_mod : K.lookup f_law_mod = some ⟨oc_law_mod, od_law_mod, .func (PySem.W.fnOf "_law_mod" "_law_mod" (defArgs s_law_mod) (defBody s_law_mod) (defScope s_law_mod) .none kV_law_mod dc_law_mod pm_law_mod an_law_mod cd_law_mod ct_law_mod), sl_law_mod⟩)
    (c_law_mod : PySem.W.codeIn K cd_law_mod "_law_mod" = true)
    (k_law_mod : PySem.W.keepIn K (.ref f_law_mod) = true)
    (a_law_subset : PySem.W.nsIn K mainGlobals "_law_subset" = some (some (.ref f_law_subset)))
    (l_law_subset : K.lookup f_law_subset = some ⟨oc_law_subset, od_law_subset, .func (PySem.W.fnOf "_law_subset" "_law_subset" (defArgs s_law_subset) (defBody s_law_subset) (defScope s_law_subset) .none kV_law_subset dc_law_subset pm_law_subset an_law_subset cd_law_subset ct_law_subset), sl_law_subset⟩)
    (c_law_subset : PySem.W.codeIn K cd_law_subset "_law_subset" = true)
    (k_law_subset : PySem.W.keepIn K (.ref f_law_subset) = true)
    (a_law_pieces : PySem.W.nsIn K mainGlobals "_law_pieces" = some (some (.ref f_law_pieces)))
    (l_law_pieces : K.lookup f_law_pieces = some ⟨oc_law_pieces, od_law_pieces, .func (PySem.W.fnOf "_law_pieces" "_law_pieces" (defArgs s_law_pieces) (defBody s_law_pieces) (defScope s_law_pieces) .none kV_law_pieces dc_law_pieces pm_law_pieces an_law_pieces cd_law_pieces ct_law_pieces), sl_law_pieces⟩)
    (c_law_pieces : PySem.W.codeIn K cd_law_pieces "_law_pieces" = true)
    (k_law_pieces : PySem.W.keepIn K (.ref f_law_pieces) = true)
    (a_law_in : PySem.W.nsIn K mainGlobals "_law_in" = some (some (.ref f_law_in)))
    (l_law_in : K.lookup f_law_in = some ⟨oc_law_in, od_law_in, .func (PySem.W.fnOf "_law_in" "_law_in" (defArgs s_law_in) (defBody s_law_in) (defScope s_law_in) .none kV_law_in dc_law_in pm_law_in an_law_in cd_law_in ct_law_in), sl_law_in⟩)
    (c_law_in : PySem.W.codeIn K cd_law_in "_law_in" = true)
    (k_law_in : PySem.W.keepIn K (.ref f_law_in) = true)
    (a_law_told : PySem.W.nsIn K mainGlobals "_law_told" = some (some (.ref f_law_told)))
    (l_law_told : K.lookup f_law_told = some ⟨oc_law_told, od_law_told, .func (PySem.W.fnOf "_law_told" "_law_told" (defArgs s_law_told) (defBody s_law_told) (defScope s_law_told) .none kV_law_told dc_law_told pm_law_told an_law_told cd_law_told ct_law_told), sl_law_told⟩)
    (c_law_told : PySem.W.codeIn K cd_law_told "_law_told" = true)
    (k_law_told : PySem.W.keepIn K (.ref f_law_told) = true)
    (a_law_wrong : PySem.W.nsIn K mainGlobals "_law_wrong" = some (some (.ref f_law_wrong)))
    (l_law_wrong : K.lookup f_law_wrong = some ⟨oc_law_wrong, od_law_wrong, .func (PySem.W.fnOf "_law_wrong" "_law_wrong" (defArgs s_law_wrong) (defBody s_law_wrong) (defScope s_law_wrong) .none kV_law_wrong dc_law_wrong pm_law_wrong an_law_wrong cd_law_wrong ct_law_wrong), sl_law_wrong⟩)
    (c_law_wrong : PySem.W.codeIn K cd_law_wrong "_law_wrong" = true)
    (k_law_wrong : PySem.W.keepIn K (.ref f_law_wrong) = true)
    (a_law : PySem.W.nsIn K mainGlobals "law" = some (some (.ref f_law)))
    (l_law : K.lookup f_law = some ⟨oc_law, od_law, .func (PySem.W.fnOf "law" "law" (defArgs s_law) (defBody s_law) (defScope s_law) .none kV_law dc_law pm_law an_law cd_law ct_law), sl_law⟩)
    (c_law : PySem.W.codeIn K cd_law "law" = true)
    (k_law : PySem.W.keepIn K (.ref f_law) = true)
    (aC_Line : PySem.W.nsIn K mainGlobals "Line" = some (some (.ref C_Line)))
    (pg_Line : PySem.W.plainGet K C_Line Str.empty = true)
    (hd_Line : PySem.W.hasDictIn K C_Line = true)
    (po_Line : PySem.W.plainOver K C_Line = true)
    (sa_Line : PySem.W.findIn K (.ref C_Line) "__setattr__" = some (some (.builtin "object.__setattr__")))
    (mk_Line : PySem.W.makesIn K C_Line = true)
    (kc_Line : PySem.W.keepIn K (.ref C_Line) = true)
    (n_Line_words : PySem.W.findIn K (.ref C_Line) "words" = some none)
    (n_Line_line : PySem.W.findIn K (.ref C_Line) "line" = some none)
    (n_Line_place : PySem.W.findIn K (.ref C_Line) "place" = some none)
    (aC_BadText : PySem.W.nsIn K mainGlobals "BadText" = some (some (.ref C_BadText)))
    (r_BadText : PySem.W.subIn K (.ref C_BadText) (.type "BaseException") = some true)
    (t_BadText : PySem.W.typeIn K (.ref C_BadText) = some (.type "type"))
    (k_BadText : PySem.W.keepIn K (.ref C_BadText) = true)
    (ic_BadText : PySem.W.isClsIn K C_BadText = true)
    (xL_BadText : K.lookup C_BadText = some (excClassObj nm_BadText q_BadText C_BadText N_BadText bs_BadText [.ref C_DaysError, .type "ValueError", .type "Exception", .type "BaseException", .type "object"] true sn_BadText sub_BadText ab_BadText col_BadText dd_BadText m0_BadText m1_BadText m2_BadText m3_BadText m5_BadText "ValueError.__new__"))
    (sa_BadText : PySem.W.findIn K (.ref C_BadText) "__setattr__" = some (some (.builtin "object.__setattr__")))
    (ga_BadText : PySem.W.findIn K (.ref C_BadText) "__getattribute__" = some (some (.builtin "BaseException.__getattribute__")))
    (gg_BadText : PySem.W.findIn K (.ref C_BadText) "__getattr__" = some none)
    (hd_BadText : PySem.W.hasDictIn K C_BadText = true)
    (tf_BadText : PySem.W.typeIn K (.ref f_BadText_init) = some (.type "function"))
    (n_BadText_line : PySem.W.findIn K (.ref C_BadText) "line" = some none)
    (n_BadText_word : PySem.W.findIn K (.ref C_BadText) "word" = some none)
    (s_BadText_BadText : PySem.W.subIn K (.ref C_BadText) (.ref C_BadText) = some true)
    (aC_DaysError : PySem.W.nsIn K mainGlobals "DaysError" = some (some (.ref C_DaysError)))
    (ty_DaysError : PySem.W.typeIn K (.ref C_DaysError) = some M_DaysError)
    (rd_DaysError : PySem.W.readsIn K C_DaysError M_DaysError = true)
    (gs_DaysError : PySem.W.specialIn K (.ref C_DaysError) "__getattribute__" = some (some (.builtin "type.__getattribute__")))
    (fc_DaysError : PySem.W.findCls K (.ref C_DaysError) M_DaysError "__init__" = some (.val (.builtin "ValueError.__init__")))
    (z_len : PySem.W.nsIn K mainGlobals "len" = some none)
    (z_int : PySem.W.nsIn K mainGlobals "int" = some none)
    (z_str : PySem.W.nsIn K mainGlobals "str" = some none)
    (z_list : PySem.W.nsIn K mainGlobals "list" = some none)
    (z_range : PySem.W.nsIn K mainGlobals "range" = some none)
    (z_all : PySem.W.nsIn K mainGlobals "all" = some none)
    (z_tuple : PySem.W.nsIn K mainGlobals "tuple" = some none)
    (z_set : PySem.W.nsIn K mainGlobals "set" = some none)
    (z_sorted : PySem.W.nsIn K mainGlobals "sorted" = some none)
    (z_enumerate : PySem.W.nsIn K mainGlobals "enumerate" = some none)
    (g_DIGITS : PySem.W.nsIn K mainGlobals "DIGITS" = some (some (.str "0123456789" tk_DIGITS)))
    (g_DIGITS_MOST : PySem.W.nsIn K mainGlobals "DIGITS_MOST" = some (some (.int 18 tk_DIGITS_MOST)))
    (g_RESIDUES_MOST : PySem.W.nsIn K mainGlobals "RESIDUES_MOST" = some (some (.int 200000 tk_RESIDUES_MOST)))
    (g_PERIOD_MOST : PySem.W.nsIn K mainGlobals "PERIOD_MOST" = some (some (.int 1000000000000 tk_PERIOD_MOST))) :
    ∃ fd : FuncData, (∀ (s : Shared) (v : Value), BindsTo s fd ⟨[v], []⟩ [("script", v)]) ∧ ∀ base : Heap, K.In base → base.Ns mainGlobals mg → FnOk l.prog w K mg base CX0 8 fa fd ["script"] (sp_law K) := by
  have e := hfa.symm.trans (PySem.W.mg_of X G a_law)
  cases e
  have T : Txt K mg { f_BadText_init := f_BadText_init, d_BadText_init := (PySem.W.fnOf "__init__" "BadText.__init__" (defArgs s_BadText_init) (defBody s_BadText_init) (defScope s_BadText_init) .none kV_BadText_init dc_BadText_init pm_BadText_init an_BadText_init cd_BadText_init ct_BadText_init), f_primes_of := f_primes_of, d_primes_of := (PySem.W.fnOf "primes_of" "primes_of" (defArgs s_primes_of) (defBody s_primes_of) (defScope s_primes_of) .none kV_primes_of dc_primes_of pm_primes_of an_primes_of cd_primes_of ct_primes_of), f_place_in := f_place_in, d_place_in := (PySem.W.fnOf "place_in" "place_in" (defArgs s_place_in) (defBody s_place_in) (defScope s_place_in) .none kV_place_in dc_place_in pm_place_in an_place_in cd_place_in ct_place_in), f_shrunk := f_shrunk, d_shrunk := (PySem.W.fnOf "shrunk" "shrunk" (defArgs s_shrunk) (defBody s_shrunk) (defScope s_shrunk) .none kV_shrunk dc_shrunk pm_shrunk an_shrunk cd_shrunk ct_shrunk), f_repeats := f_repeats, d_repeats := (PySem.W.fnOf "repeats" "repeats" (defArgs s_repeats) (defBody s_repeats) (defScope s_repeats) .none kV_repeats dc_repeats pm_repeats an_repeats cd_repeats ct_repeats), f_has := f_has, d_has := (PySem.W.fnOf "has" "has" (defArgs s_has) (defBody s_has) (defScope s_has) .none kV_has dc_has pm_has an_has cd_has ct_has), f_tidied := f_tidied, d_tidied := (PySem.W.fnOf "tidied" "tidied" (defArgs s_tidied) (defBody s_tidied) (defScope s_tidied) .none kV_tidied dc_tidied pm_tidied an_tidied cd_tidied ct_tidied), f_belongs := f_belongs, d_belongs := (PySem.W.fnOf "belongs" "belongs" (defArgs s_belongs) (defBody s_belongs) (defScope s_belongs) .none kV_belongs dc_belongs pm_belongs an_belongs cd_belongs ct_belongs), f_read_integer := f_read_integer, d_read_integer := (PySem.W.fnOf "read_integer" "read_integer" (defArgs s_read_integer) (defBody s_read_integer) (defScope s_read_integer) .none kV_read_integer dc_read_integer pm_read_integer an_read_integer cd_read_integer ct_read_integer), f_Line_init := f_Line_init, d_Line_init := (PySem.W.fnOf "__init__" "Line.__init__" (defArgs s_Line_init) (defBody s_Line_init) (defScope s_Line_init) .none kV_Line_init dc_Line_init pm_Line_init an_Line_init cd_Line_init ct_Line_init), f_Line_upcoming := f_Line_upcoming, d_Line_upcoming := (PySem.W.fnOf "upcoming" "Line.upcoming" (defArgs s_Line_upcoming) (defBody s_Line_upcoming) (defScope s_Line_upcoming) .none kV_Line_upcoming dc_Line_upcoming pm_Line_upcoming an_Line_upcoming cd_Line_upcoming ct_Line_upcoming), f_Line_take_integer := f_Line_take_integer, d_Line_take_integer := (PySem.W.fnOf "take_integer" "Line.take_integer" (defArgs s_Line_take_integer) (defBody s_Line_take_integer) (defScope s_Line_take_integer) .none kV_Line_take_integer dc_Line_take_integer pm_Line_take_integer an_Line_take_integer cd_Line_take_integer ct_Line_take_integer), f_pattern_text := f_pattern_text, d_pattern_text := (PySem.W.fnOf "pattern_text" "pattern_text" (defArgs s_pattern_text) (defBody s_pattern_text) (defScope s_pattern_text) .none kV_pattern_text dc_pattern_text pm_pattern_text an_pattern_text cd_pattern_text ct_pattern_text), f_take_residues := f_take_residues, d_take_residues := (PySem.W.fnOf "take_residues" "take_residues" (defArgs s_take_residues) (defBody s_take_residues) (defScope s_take_residues) .none kV_take_residues dc_take_residues pm_take_residues an_take_residues cd_take_residues ct_take_residues), f_read_pattern := f_read_pattern, d_read_pattern := (PySem.W.fnOf "read_pattern" "read_pattern" (defArgs s_read_pattern) (defBody s_read_pattern) (defScope s_read_pattern) .none kV_read_pattern dc_read_pattern pm_read_pattern an_read_pattern cd_read_pattern ct_read_pattern), f_law_draw := f_law_draw, d_law_draw := (PySem.W.fnOf "_law_draw" "_law_draw" (defArgs s_law_draw) (defBody s_law_draw) (defScope s_law_draw) .none kV_law_draw dc_law_draw pm_law_draw an_law_draw cd_law_draw ct_law_draw), f_law_tape := f_law_tape, d_law_tape := (PySem.W.fnOf "_law_tape" "_law_tape" (defArgs s_law_tape) (defBody s_law_tape) (defScope s_law_tape) .none kV_law_tape dc_law_tape pm_law_tape an_law_tape cd_law_tape ct_law_tape), f_law_mod := f_law_mod, d_law_mod := (PySem.W.fnOf "_law_mod" "_law_mod" (defArgs s_law_mod) (defBody s_law_mod) (defScope s_law_mod) .none kV_law_mod dc_law_mod pm_law_mod an_law_mod cd_law_mod ct_law_mod), f_law_subset := f_law_subset, d_law_subset := (PySem.W.fnOf "_law_subset" "_law_subset" (defArgs s_law_subset) (defBody s_law_subset) (defScope s_law_subset) .none kV_law_subset dc_law_subset pm_law_subset an_law_subset cd_law_subset ct_law_subset), f_law_pieces := f_law_pieces, d_law_pieces := (PySem.W.fnOf "_law_pieces" "_law_pieces" (defArgs s_law_pieces) (defBody s_law_pieces) (defScope s_law_pieces) .none kV_law_pieces dc_law_pieces pm_law_pieces an_law_pieces cd_law_pieces ct_law_pieces), f_law_in := f_law_in, d_law_in := (PySem.W.fnOf "_law_in" "_law_in" (defArgs s_law_in) (defBody s_law_in) (defScope s_law_in) .none kV_law_in dc_law_in pm_law_in an_law_in cd_law_in ct_law_in), f_law_told := f_law_told, d_law_told := (PySem.W.fnOf "_law_told" "_law_told" (defArgs s_law_told) (defBody s_law_told) (defScope s_law_told) .none kV_law_told dc_law_told pm_law_told an_law_told cd_law_told ct_law_told), f_law_wrong := f_law_wrong, d_law_wrong := (PySem.W.fnOf "_law_wrong" "_law_wrong" (defArgs s_law_wrong) (defBody s_law_wrong) (defScope s_law_wrong) .none kV_law_wrong dc_law_wrong pm_law_wrong an_law_wrong cd_law_wrong ct_law_wrong), f_law := fa, d_law := (PySem.W.fnOf "law" "law" (defArgs s_law) (defBody s_law) (defScope s_law) .none kV_law dc_law pm_law an_law cd_law ct_law), C_Line := C_Line, C_BadText := C_BadText, C_DaysError := C_DaysError, M_DaysError := M_DaysError } := {
    F_BadText_init := fun_mk (st := s_BadText_init) l_BadText_init c_BadText_init k_BadText_init
    b_BadText_init := (fun_mk (st := s_BadText_init) l_BadText_init c_BadText_init k_BadText_init).binds (ps := ["self", "line", "word"]) fun _ _ _ _ _ _ us hl => match us, hl with | [_, _, _], _ => rfl
    F_primes_of := fun_mk (st := s_primes_of) l_primes_of c_primes_of k_primes_of
    b_primes_of := (fun_mk (st := s_primes_of) l_primes_of c_primes_of k_primes_of).binds (ps := ["n"]) fun _ _ _ _ _ _ us hl => match us, hl with | [_], _ => rfl
    g_primes_of := PySem.W.mg_of X G a_primes_of
    F_place_in := fun_mk (st := s_place_in) l_place_in c_place_in k_place_in
    b_place_in := (fun_mk (st := s_place_in) l_place_in c_place_in k_place_in).binds (ps := ["residues", "r"]) fun _ _ _ _ _ _ us hl => match us, hl with | [_, _], _ => rfl
    g_place_in := PySem.W.mg_of X G a_place_in
    F_shrunk := fun_mk (st := s_shrunk) l_shrunk c_shrunk k_shrunk
    b_shrunk := (fun_mk (st := s_shrunk) l_shrunk c_shrunk k_shrunk).binds (ps := ["period", "residues"]) fun _ _ _ _ _ _ us hl => match us, hl with | [_, _], _ => rfl
    g_shrunk := PySem.W.mg_of X G a_shrunk
    F_repeats := fun_mk (st := s_repeats) l_repeats c_repeats k_repeats
    b_repeats := (fun_mk (st := s_repeats) l_repeats c_repeats k_repeats).binds (ps := ["period", "residues", "step"]) fun _ _ _ _ _ _ us hl => match us, hl with | [_, _, _], _ => rfl
    g_repeats := PySem.W.mg_of X G a_repeats
    F_has := fun_mk (st := s_has) l_has c_has k_has
    b_has := (fun_mk (st := s_has) l_has c_has k_has).binds (ps := ["period", "residues", "d"]) fun _ _ _ _ _ _ us hl => match us, hl with | [_, _, _], _ => rfl
    g_has := PySem.W.mg_of X G a_has
    F_tidied := fun_mk (st := s_tidied) l_tidied c_tidied k_tidied
    b_tidied := (fun_mk (st := s_tidied) l_tidied c_tidied k_tidied).binds (ps := ["pieces"]) fun _ _ _ _ _ _ us hl => match us, hl with | [_], _ => rfl
    g_tidied := PySem.W.mg_of X G a_tidied
    F_belongs := fun_mk (st := s_belongs) l_belongs c_belongs k_belongs
    b_belongs := (fun_mk (st := s_belongs) l_belongs c_belongs k_belongs).binds (ps := ["pattern", "day"]) fun _ _ _ _ _ _ us hl => match us, hl with | [_, _], _ => rfl
    g_belongs := PySem.W.mg_of X G a_belongs
    F_read_integer := fun_mk (st := s_read_integer) l_read_integer c_read_integer k_read_integer
    b_read_integer := (fun_mk (st := s_read_integer) l_read_integer c_read_integer k_read_integer).binds (ps := ["word"]) fun _ _ _ _ _ _ us hl => match us, hl with | [_], _ => rfl
    g_read_integer := PySem.W.mg_of X G a_read_integer
    F_Line_init := fun_mk (st := s_Line_init) l_Line_init c_Line_init k_Line_init
    b_Line_init := (fun_mk (st := s_Line_init) l_Line_init c_Line_init k_Line_init).binds (ps := ["self", "text", "line"]) fun _ _ _ _ _ _ us hl => match us, hl with | [_, _, _], _ => rfl
    M_Line := ⟨mk_Line, a_Line_init, i_Line_init, kc_Line⟩
    F_Line_upcoming := fun_mk (st := s_Line_upcoming) l_Line_upcoming c_Line_upcoming k_Line_upcoming
    b_Line_upcoming := (fun_mk (st := s_Line_upcoming) l_Line_upcoming c_Line_upcoming k_Line_upcoming).binds (ps := ["self"]) fun _ _ _ _ _ _ us hl => match us, hl with | [_], _ => rfl
    m_Line_upcoming := ⟨a_Line_upcoming, i_Line_upcoming, k_Line_upcoming⟩
    F_Line_take_integer := fun_mk (st := s_Line_take_integer) l_Line_take_integer c_Line_take_integer k_Line_take_integer
    b_Line_take_integer := (fun_mk (st := s_Line_take_integer) l_Line_take_integer c_Line_take_integer k_Line_take_integer).binds (ps := ["self", "least", "most"]) fun _ _ _ _ _ _ us hl => match us, hl with | [_, _, _], _ => rfl
    m_Line_take_integer := ⟨a_Line_take_integer, i_Line_take_integer, k_Line_take_integer⟩
    F_pattern_text := fun_mk (st := s_pattern_text) l_pattern_text c_pattern_text k_pattern_text
    b_pattern_text := (fun_mk (st := s_pattern_text) l_pattern_text c_pattern_text k_pattern_text).binds (ps := ["pattern"]) fun _ _ _ _ _ _ us hl => match us, hl with | [_], _ => rfl
    g_pattern_text := PySem.W.mg_of X G a_pattern_text
    F_take_residues := fun_mk (st := s_take_residues) l_take_residues c_take_residues k_take_residues
    b_take_residues := (fun_mk (st := s_take_residues) l_take_residues c_take_residues k_take_residues).binds (ps := ["line", "period"]) fun _ _ _ _ _ _ us hl => match us, hl with | [_, _], _ => rfl
    g_take_residues := PySem.W.mg_of X G a_take_residues
    F_read_pattern := fun_mk (st := s_read_pattern) l_read_pattern c_read_pattern k_read_pattern
    b_read_pattern := (fun_mk (st := s_read_pattern) l_read_pattern c_read_pattern k_read_pattern).binds (ps := ["text"]) fun _ _ _ _ _ _ us hl => match us, hl with | [_], _ => rfl
    g_read_pattern := PySem.W.mg_of X G a_read_pattern
    F_law_draw := fun_mk (st := s_law_draw) l_law_draw c_law_draw k_law_draw
    b_law_draw := (fun_mk (st := s_law_draw) l_law_draw c_law_draw k_law_draw).binds (ps := ["tape", "many"]) fun _ _ _ _ _ _ us hl => match us, hl with | [_, _], _ => rfl
    g_law_draw := PySem.W.mg_of X G a_law_draw
    F_law_tape := fun_mk (st := s_law_tape) l_law_tape c_law_tape k_law_tape
    b_law_tape := (fun_mk (st := s_law_tape) l_law_tape c_law_tape k_law_tape).binds (ps := ["script"]) fun _ _ _ _ _ _ us hl => match us, hl with | [_], _ => rfl
    g_law_tape := PySem.W.mg_of X G a_law_tape
    F_law_mod := fun_mk (st := s_law_mod) l_law_mod c_law_mod k_law_mod
    b_law_mod := (fun_mk (st := s_law_mod) l_law_mod c_law_mod k_law_mod).binds (ps := ["a", "n"]) fun _ _ _ _ _ _ us hl => match us, hl with | [_, _], _ => rfl
    g_law_mod := PySem.W.mg_of X G a_law_mod
    F_law_subset := fun_mk (st := s_law_subset) l_law_subset c_law_subset k_law_subset
    b_law_subset := (fun_mk (st := s_law_subset) l_law_subset c_law_subset k_law_subset).binds (ps := ["tape", "size", "most"]) fun _ _ _ _ _ _ us hl => match us, hl with | [_, _, _], _ => rfl
    g_law_subset := PySem.W.mg_of X G a_law_subset
    F_law_pieces := fun_mk (st := s_law_pieces) l_law_pieces c_law_pieces k_law_pieces
    b_law_pieces := (fun_mk (st := s_law_pieces) l_law_pieces c_law_pieces k_law_pieces).binds (ps := ["tape"]) fun _ _ _ _ _ _ us hl => match us, hl with | [_], _ => rfl
    g_law_pieces := PySem.W.mg_of X G a_law_pieces
    F_law_in := fun_mk (st := s_law_in) l_law_in c_law_in k_law_in
    b_law_in := (fun_mk (st := s_law_in) l_law_in c_law_in k_law_in).binds (ps := ["pieces", "day"]) fun _ _ _ _ _ _ us hl => match us, hl with | [_, _], _ => rfl
    g_law_in := PySem.W.mg_of X G a_law_in
    F_law_told := fun_mk (st := s_law_told) l_law_told c_law_told k_law_told
    b_law_told := (fun_mk (st := s_law_told) l_law_told c_law_told k_law_told).binds (ps := ["text"]) fun _ _ _ _ _ _ us hl => match us, hl with | [_], _ => rfl
    g_law_told := PySem.W.mg_of X G a_law_told
    F_law_wrong := fun_mk (st := s_law_wrong) l_law_wrong c_law_wrong k_law_wrong
    b_law_wrong := (fun_mk (st := s_law_wrong) l_law_wrong c_law_wrong k_law_wrong).binds (ps := ["rows"]) fun _ _ _ _ _ _ us hl => match us, hl with | [_], _ => rfl
    g_law_wrong := PySem.W.mg_of X G a_law_wrong
    F_law := fun_mk (st := s_law) l_law c_law k_law
    b_law := (fun_mk (st := s_law) l_law c_law k_law).binds (ps := ["script"]) fun _ _ _ _ _ _ us hl => match us, hl with | [_], _ => rfl
    g_law := PySem.W.mg_of X G a_law
    c_Line := ⟨pg_Line, hd_Line, po_Line, sa_Line⟩
    g_Line := PySem.W.mg_of X G aC_Line
    n_Line_words := n_Line_words
    n_Line_line := n_Line_line
    n_Line_place := n_Line_place
    r_BadText := r_BadText
    t_BadText := t_BadText
    k_BadText := k_BadText
    g_BadText := PySem.W.mg_of X G aC_BadText
    x_BadText := ⟨⟨nm_BadText, q_BadText, N_BadText, bs_BadText, _, sn_BadText, sub_BadText, ab_BadText, col_BadText, dd_BadText, m0_BadText, m1_BadText, m2_BadText, m3_BadText, m5_BadText, xL_BadText, rfl⟩, sa_BadText, r_BadText, t_BadText, k_BadText⟩
    y_BadText := ⟨ga_BadText, gg_BadText, r_BadText, hd_BadText⟩
    i_BadText := a_BadText_init
    u_BadText := tf_BadText
    n_BadText_line := n_BadText_line
    n_BadText_word := n_BadText_word
    e_BadText_BadText := exm_sub r_BadText ic_BadText t_BadText s_BadText_BadText
    g_DaysError := PySem.W.mg_of X G aC_DaysError
    B_DaysError := ⟨rd_DaysError, gs_DaysError, fc_DaysError⟩
    z_len := PySem.W.mg_none_of X G z_len
    z_int := PySem.W.mg_none_of X G z_int
    z_str := PySem.W.mg_none_of X G z_str
    z_list := PySem.W.mg_none_of X G z_list
    z_range := PySem.W.mg_none_of X G z_range
    z_all := PySem.W.mg_none_of X G z_all
    z_tuple := PySem.W.mg_none_of X G z_tuple
    z_set := PySem.W.mg_none_of X G z_set
    z_sorted := PySem.W.mg_none_of X G z_sorted
    z_enumerate := PySem.W.mg_none_of X G z_enumerate
    g_DIGITS := ⟨_, PySem.W.mg_of X G g_DIGITS, _, rfl⟩
    g_DIGITS_MOST := ⟨_, PySem.W.mg_of X G g_DIGITS_MOST, _, rfl⟩
    g_RESIDUES_MOST := ⟨_, PySem.W.mg_of X G g_RESIDUES_MOST, _, rfl⟩
    g_PERIOD_MOST := ⟨_, PySem.W.mg_of X G g_PERIOD_MOST, _, rfl⟩ }
  exact ⟨_, fun s v => .of_eq rfl, fun base _ _ => ok_law T⟩

end Q
open PySem PySem.W PyProof.Rows in
set_option maxRecDepth 100000 in
set_option maxHeartbeats 0 in
theorem PySem.Challenge.cw_everdays_k78_patterns_written_holds : PySem.Challenge.rw_everdays_k78_patterns_written.Holds := by
  w_on; o_law; k_head; (case hw => w_witness2)
  k_fill
  refine L2.walk_of (l := PySem.Challenge.rw_everdays_k78_patterns_written) (n := 63) (k := 8) (x := "script") (CX := fun _ => L2.CX0) (sp := fun w => Q.sp_law _) rfl (by decide) rfl ⟨rfl, by decide, by decide⟩ (fun w h Y => PySem.W.kIn_of Y) ?F (fun _ _ a ns hl _ hS => ⟨a, ns, rfl, hS, hl, fun _ => rfl⟩) (fun _ _ _ _ _ h => h)
  case F =>
    intro w mg fa h KX G hmg
    refine' Q.all_mk KX G hmg ?a_BadText_init ?l_BadText_init ?c_BadText_init ?k_BadText_init ?i_BadText_init ?a_primes_of ?l_primes_of ?c_primes_of ?k_primes_of ?a_place_in ?l_place_in ?c_place_in ?k_place_in ?a_shrunk ?l_shrunk ?c_shrunk ?k_shrunk ?a_repeats ?l_repeats ?c_repeats ?k_repeats ?a_has ?l_has ?c_has ?k_has ?a_tidied ?l_tidied ?c_tidied ?k_tidied ?a_belongs ?l_belongs ?c_belongs ?k_belongs ?a_read_integer ?l_read_integer ?c_read_integer ?k_read_integer ?a_Line_init ?l_Line_init ?c_Line_init ?k_Line_init ?i_Line_init ?a_Line_upcoming ?l_Line_upcoming ?c_Line_upcoming ?k_Line_upcoming ?i_Line_upcoming ?a_Line_take_integer ?l_Line_take_integer ?c_Line_take_integer ?k_Line_take_integer ?i_Line_take_integer ?a_pattern_text ?l_pattern_text ?c_pattern_text ?k_pattern_text ?a_take_residues ?l_take_residues ?c_take_residues ?k_take_residues ?a_read_pattern ?l_read_pattern ?c_read_pattern ?k_read_pattern ?a_law_draw ?l_law_draw ?c_law_draw ?k_law_draw ?a_law_tape ?l_law_tape ?c_law_tape ?k_law_tape ?a_law_mod ?l_law_mod ?c_law_mod ?k_law_mod ?a_law_subset ?l_law_subset ?c_law_subset ?k_law_subset ?a_law_pieces ?l_law_pieces ?c_law_pieces ?k_law_pieces ?a_law_in ?l_law_in ?c_law_in ?k_law_in ?a_law_told ?l_law_told ?c_law_told ?k_law_told ?a_law_wrong ?l_law_wrong ?c_law_wrong ?k_law_wrong ?a_law ?l_law ?c_law ?k_law ?aC_Line ?pg_Line ?hd_Line ?po_Line ?sa_Line ?mk_Line ?kc_Line ?n_Line_words ?n_Line_line ?n_Line_place ?aC_BadText ?r_BadText ?t_BadText ?k_BadText ?ic_BadText ?xL_BadText ?sa_BadText ?ga_BadText ?gg_BadText ?hd_BadText ?tf_BadText ?n_BadText_line ?n_BadText_word ?s_BadText_BadText ?aC_DaysError ?ty_DaysError ?rd_DaysError ?gs_DaysError ?fc_DaysError ?z_len ?z_int ?z_str ?z_list ?z_range ?z_all ?z_tuple ?z_set ?z_sorted ?z_enumerate ?g_DIGITS ?g_DIGITS_MOST ?g_RESIDUES_MOST ?g_PERIOD_MOST
    (case aC_Line => k_is)
    (case aC_BadText => k_is)
    (case aC_DaysError => k_is)
    (case ty_DaysError => k_is)
    (case a_BadText_init => k_is)
    (case l_BadText_init => k_is)
    (case c_BadText_init => k_is)
    (case k_BadText_init => k_is)
    (case i_BadText_init => k_is)
    (case a_primes_of => k_is)
    (case l_primes_of => k_is)
    (case c_primes_of => k_is)
    (case k_primes_of => k_is)
    (case a_place_in => k_is)
    (case l_place_in => k_is)
    (case c_place_in => k_is)
    (case k_place_in => k_is)
    (case a_shrunk => k_is)
    (case l_shrunk => k_is)
    (case c_shrunk => k_is)
    (case k_shrunk => k_is)
    (case a_repeats => k_is)
    (case l_repeats => k_is)
    (case c_repeats => k_is)
    (case k_repeats => k_is)
    (case a_has => k_is)
    (case l_has => k_is)
    (case c_has => k_is)
    (case k_has => k_is)
    (case a_tidied => k_is)
    (case l_tidied => k_is)
    (case c_tidied => k_is)
    (case k_tidied => k_is)
    (case a_belongs => k_is)
    (case l_belongs => k_is)
    (case c_belongs => k_is)
    (case k_belongs => k_is)
    (case a_read_integer => k_is)
    (case l_read_integer => k_is)
    (case c_read_integer => k_is)
    (case k_read_integer => k_is)
    (case a_Line_init => k_is)
    (case l_Line_init => k_is)
    (case c_Line_init => k_is)
    (case k_Line_init => k_is)
    (case i_Line_init => k_is)
    (case a_Line_upcoming => k_is)
    (case l_Line_upcoming => k_is)
    (case c_Line_upcoming => k_is)
    (case k_Line_upcoming => k_is)
    (case i_Line_upcoming => k_is)
    (case a_Line_take_integer => k_is)
    (case l_Line_take_integer => k_is)
    (case c_Line_take_integer => k_is)
    (case k_Line_take_integer => k_is)
    (case i_Line_take_integer => k_is)
    (case a_pattern_text => k_is)
    (case l_pattern_text => k_is)
    (case c_pattern_text => k_is)
    (case k_pattern_text => k_is)
    (case a_take_residues => k_is)
    (case l_take_residues => k_is)
    (case c_take_residues => k_is)
    (case k_take_residues => k_is)
    (case a_read_pattern => k_is)
    (case l_read_pattern => k_is)
    (case c_read_pattern => k_is)
    (case k_read_pattern => k_is)
    (case a_law_draw => k_is)
    (case l_law_draw => k_is)
    (case c_law_draw => k_is)
    (case k_law_draw => k_is)
    (case a_law_tape => k_is)
    (case l_law_tape => k_is)
    (case c_law_tape => k_is)
    (case k_law_tape => k_is)
    (case a_law_mod => k_is)
    (case l_law_mod => k_is)
    (case c_law_mod => k_is)
    (case k_law_mod => k_is)
    (case a_law_subset => k_is)
    (case l_law_subset => k_is)
    (case c_law_subset => k_is)
    (case k_law_subset => k_is)
    (case a_law_pieces => k_is)
    (case l_law_pieces => k_is)
    (case c_law_pieces => k_is)
    (case k_law_pieces => k_is)
    (case a_law_in => k_is)
    (case l_law_in => k_is)
    (case c_law_in => k_is)
    (case k_law_in => k_is)
    (case a_law_told => k_is)
    (case l_law_told => k_is)
    (case c_law_told => k_is)
    (case k_law_told => k_is)
    (case a_law_wrong => k_is)
    (case l_law_wrong => k_is)
    (case c_law_wrong => k_is)
    (case k_law_wrong => k_is)
    (case a_law => k_is)
    (case l_law => k_is)
    (case c_law => k_is)
    (case k_law => k_is)
    (case pg_Line => k_is)
    (case hd_Line => k_is)
    (case po_Line => k_is)
    (case sa_Line => k_is)
    (case mk_Line => k_is)
    (case kc_Line => k_is)
    (case n_Line_words => k_is)
    (case n_Line_line => k_is)
    (case n_Line_place => k_is)
    (case r_BadText => k_is)
    (case t_BadText => k_is)
    (case k_BadText => k_is)
    (case ic_BadText => k_is)
    (case xL_BadText => k_is)
    (case sa_BadText => k_is)
    (case ga_BadText => k_is)
    (case gg_BadText => k_is)
    (case hd_BadText => k_is)
    (case tf_BadText => k_is)
    (case n_BadText_line => k_is)
    (case n_BadText_word => k_is)
    (case s_BadText_BadText => first | rfl | k_is)
    (case rd_DaysError => k_is)
    (case gs_DaysError => k_is)
    (case fc_DaysError => k_is)
    (case z_len => k_is)
    (case z_int => k_is)
    (case z_str => k_is)
    (case z_list => k_is)
    (case z_range => k_is)
    (case z_all => k_is)
    (case z_tuple => k_is)
    (case z_set => k_is)
    (case z_sorted => k_is)
    (case z_enumerate => k_is)
    (case g_DIGITS => k_is)
    (case g_DIGITS_MOST => k_is)
    (case g_RESIDUES_MOST => k_is)
    (case g_PERIOD_MOST => k_is)

